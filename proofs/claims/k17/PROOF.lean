import PyProof.Rows.All
import Wide.All
import OpenK.AllK
import HandS.TupAny
import HandS.TupMul
import HandS.SortRule
import Wide.FinOn
import HandS.ForMost
import HandS.ForExc
import HandS.Deep
import HandS.Style
import HandS.Zip
import HandS.SetFor
import HandS.IsInst
import HandS.SortInts
import HandS.Codes
import HandS.ExcCtx
import HandS.HotCalls
import HandS.NoneIn
import HandS.Text
import HandS.Conv
import HandS.TupSets
import HandS.WordsDict
import HandS.ExcIs
import KE.SortData
import HandS.FStrTup
import HandS.RaiseMore
import KE.GoesEnum
import KE.KIndexOf
import PyProof.FactsAll.tuple_2
import PyProof.FactsAll.tuple_3
import KE.KDictZip
import PyProof.ListNew
import HandS.OwnEq
import KE.KCallOwn
import PySem.Challenge.RW_doorchecks_k17_towns_refused
set_option Elab.async false
set_option linter.all false
set_option maxRecDepth 100000
set_option maxHeartbeats 4000000
namespace DL
open PySem PySem.Spec PyProof.Rows L2
/-- a tuple whose object is known to have no dict -/
def SlT (H : Hp) (a : Addr) (xs : List V) : Prop := ∃ o : Obj, o.dict = none ∧ H a = some (.frz o (.tup xs))
theorem SlT.rd {H : Hp} {a : Addr} {xs : List V} (h : SlT H a xs) : Rd H a (.tup xs) := let ⟨o, _, e⟩ := h; .inr ⟨o, e⟩
/-- a new one -/
abbrev NewT (H : Hp) (xs : List V) (Q : VK) : Prop := ∀ p o, H p = none → o.dict = none → Q (.ref p) (upd H p (.frz o (.tup xs)))
section
variable {X : Cx} {pins : List (Addr × Obj)} {σ : L2.St} {H : Hp} {s : Shared}
theorem laidT (I : Inv X pins σ H s) {xs : List V} {us : List Value} (r : Vals xs us) (hz : xs.length ≤ sizeLine) {Q : VK} (q : NewT H xs Q) :
    ∃ x H', Inv X pins σ H' { s with heap := s.heap.push { cls := .type "tuple", data := .seq us.toArray } } ∧ RelV x (.ref s.heap.objs.size) ∧ Q x H' := by
  have hg : (s.heap.push { cls := .type "tuple", data := .seq us.toArray }).get? s.heap.objs.size = some { cls := .type "tuple", data := .seq us.toArray } := Heap.get?_push_size _ rfl
  refine ⟨.ref s.heap.objs.size, _, I.laid (t' := s.toks) (o := .frz _ (.tup xs)) (fun b u e => Heap.get?_push_of_some _ e) (Nat.le_refl _) ⟨hg, hz, us, r, ⟨_, hg, rfl, _, rfl⟩⟩, rfl, q _ _ (I.hok.fresh (Nat.le_refl _)) rfl⟩
/-- a tuple of written items -/
def tTupS (t : TA) : TE := fun σ H Q => t σ H fun xs H1 => xs.length ≤ sizeLine ∧ NewT H1 xs Q
theorem pe_tupS {es : List Expr} {t : TA} {x1} {pos : Pos} (h : PA X es t) : PE X (.Tuple es x1 pos) (tTupS t) := by
  refine ⟨fun pins s σ H Q I hq => ?_⟩
  refine wpAny_Tuple_spliced (thn (h.run pos pins s σ H _ I hq) fun us s1 ⟨xs, H1, I1, r, z, q⟩ => ⟨by rw [← r.length]; exact z, ?_⟩)
  exact laidT I1 r z q
/-- t + u -/
def rCatS (K : PySem.W.Frag) : R2 := fun x y H Q => ∃ a b xs ys, x = .ref a ∧ y = .ref b ∧ SqT K H a xs ∧ SqT K H b ys ∧ xs.length + ys.length ≤ sizeLine ∧
  (xs = [] → Q (.ref b) H) ∧ (xs ≠ [] → ys = [] → Q (.ref a) H) ∧ (xs ≠ [] → ys ≠ [] → NewT H (xs ++ ys) Q)
theorem op_catS : OpR X (binaryOp .Add) (rCatS X.K) := by
  intro pins s σ H x y v u Q I rx ry h
  obtain ⟨a, b, xs, ys, rfl, rfl, ha, hb, hz, q0, q1, q2⟩ := h
  cases rx
  cases ry
  obtain ⟨its, r1, p1, _⟩ := I.tuple ha
  obtain ⟨its2, r2, p2, _⟩ := I.tuple hb
  by_cases hx : xs = []
  · subst hx
    cases r1
    exact cat_tup0 p1 p2 ⟨.ref b, H, I, rfl, q0 rfl⟩
  · refine HT.cat_tup p1 p2 (fun z => hx (r1.nil_iff.mp z)) (fun z => ⟨.ref a, H, I, rfl, q1 hx (r2.nil_iff.mp z)⟩) (fun z => ?_) (by rw [← r1.length, ← r2.length]; exact hz)
    exact laidT I (r1.append r2) (by rw [List.length_append]; exact hz) (q2 hx fun w => z (r2.nil_iff.mpr w))
/-- t[lo:hi] -/
def rSlS (K : PySem.W.Frag) : V → Option Int → Option Int → Hp → VK → Prop := fun x lo hi H Q => ∃ a xs, x = .ref a ∧ SqT K H a xs ∧
  (HT.sIx xs.length 0 lo = 0 ∧ HT.sIx xs.length xs.length hi = xs.length → Q (.ref a) H) ∧ (¬ (HT.sIx xs.length 0 lo = 0 ∧ HT.sIx xs.length xs.length hi = xs.length) → NewT H (cutV xs lo hi) Q)
theorem sl_tupS : SlR X (rSlS X.K) := by
  intro pins s σ H x v vl vu lo hi sl Q I rx hs pl pu h
  obtain ⟨a, xs, rfl, hx, q1, q2⟩ := h
  cases rx
  obtain ⟨its, r, ht, hz⟩ := I.tuple hx
  have hlen : its.toArray.size = xs.length := by rw [List.size_toArray]; exact r.length.symm
  refine ⟨"tuple", _, PyProof.Rows.slot_tuple_getitem.lookup, ht.typeIs, ?_⟩
  by_cases hw : HT.sIx xs.length 0 lo = 0 ∧ HT.sIx xs.length xs.length hi = xs.length
  · exact getItem_tuple_whole ht hs pl pu (by rw [hlen]; exact hw) ⟨.ref a, H, I, rfl, q1 hw⟩
  · refine HT.getItem_tuple_cut ht hs pl pu (by rw [hlen]; exact hw) ?_ (by rw [hlen]; exact hz)
    rw [hlen]
    exact laidT I (xs := cutV xs lo hi) ((r.drop (HT.sIx xs.length 0 lo)).take (HT.sIx xs.length xs.length hi - HT.sIx xs.length 0 lo)) (Nat.le_trans (cutV_length xs lo hi) hz) (q2 hw)
/-- tuple(xs) -/
theorem call_tupS : CallR X (.type "tuple") (fun xs H Q => ∃ p ys, xs = [.ref p] ∧ ((SqL X.K H p ys ∧ NewT H ys Q) ∨ (SqT X.K H p ys ∧ Q (.ref p) H))) := by
  intro pins s σ H xs us Q I r h
  obtain ⟨p, ys, rfl, h⟩ := h
  obtain ⟨u, rfl, rx⟩ := vals1 r
  cases rx
  rcases h with ⟨hq, q⟩ | ⟨hq, q⟩
  · obtain ⟨its, r', pl, hz⟩ := I.list hq
    have hlen := r'.length
    refine call_tuple_list pl.isList (fun h' kp => ?_) (by simp only [List.size_toArray] <;> omega)
    have I1 : Inv X pins σ H { s with heap := h' } := I.kept (t' := s.toks) kp
    exact laidT I1 r' hz q
  · obtain ⟨its, r', pl, hz⟩ := I.tuple hq
    exact call_tuple_same pl ⟨.ref p, H, I, rfl, q⟩
/-- tuple * int -/
def rRepS (K : PySem.W.Frag) : R2 := fun x y H Q => ∃ l k xs, x = .ref l ∧ y = .int k ∧ SqT K H l xs ∧ xs ≠ [] ∧ 2 ≤ k ∧ k ≤ 1000 ∧ xs.length ≤ 1000 ∧ NewT H (List.replicate k.toNat xs).flatten Q
theorem op_repS : OpR X (binaryOp .Mult) (rRepS X.K) := by
  intro pins s σ H x y v u Q I rx ry h
  obtain ⟨l, k, xs, rfl, rfl, hT, hne, h1, h2, hz, q⟩ := h
  cases rx
  obtain ⟨t, rfl⟩ := ry
  obtain ⟨its, r, ⟨⟨cls, dd, data, sl⟩, ho, hc, n, hd⟩, hs⟩ := I.tuple hT
  simp only at hc hd
  subst hc hd
  have hle : its.length = xs.length := r.length.symm
  have hn : its ≠ [] := fun e => hne (by
    rw [e] at hle
    exact List.eq_nil_of_length_eq_zero hle.symm)
  have hi : its.toArray.isEmpty = false := by
    cases its with
    | nil => exact absurd rfl hn
    | cons a b => rfl
  have hsz0 : its.toArray.size = xs.length := by rw [List.size_toArray, hle]
  have hm : ((its.toArray.size : Nat) : Int) * k ≤ 1000000 := by
    rw [hsz0]
    have a1 : ((xs.length : Nat) : Int) * k ≤ 1000 * k := Int.mul_le_mul_of_nonneg_right (by omega) (by omega)
    omega
  have flen : (List.replicate k.toNat its).flatten.length ≤ sizeLine := by
    rw [PyProof.Rows.lm_len_rep_flat, hle, sizeLine_eq]
    have a1 : k.toNat * xs.length ≤ 1000 * 1000 := Nat.mul_le_mul (by omega) hz
    omega
  have c0 : (decide (k < -(2 ^ 63)) || decide (k ≥ 2 ^ 63)) = false := by
    rw [decide_eq_false (by omega), decide_eq_false (by omega)] <;> rfl
  have c1 : (its.toArray.isEmpty || k == 1) = false := by
    rw [hi, Bool.false_or]
    exact beq_eq_false_iff_ne.mpr (by omega)
  have c2 : (decide (k ≤ 0) || its.toArray.isEmpty) = false := by
    rw [hi, Bool.or_false]
    exact decide_eq_false (by omega)
  have c4 : Builtin.Tuple.tupleTooMany (((its.toArray.size : Nat) : Int) * k) = false := by
    unfold Builtin.Tuple.tupleTooMany
    rw [sizeLine_eq]
    exact decide_eq_false (by omega)
  refine wpAny_binaryOp_repeat_ref (T := "tuple") (U := "int") (by decide) ⟨_, ho, rfl⟩ (fun s' => typeIs_int s' k t) noFill_tuple_mul F.fills_int_mul F.slot_int_rmul repeat_tuple F.slot_int_index.lookup
    (call_meets F.slot_int_rmul (typeIs_int s k t) F.entry_int_rmul (F.args_int_rmul_2 _ _) (int_rmul_tuple k t l its.toArray n dd sl)
      ⟨ho, rfl, ⟨_, ho, rfl⟩, call_meets F.slot_tuple_mul ⟨_, ho, rfl⟩ F.entry_tuple_mul (F.args_tuple_mul_2 _ _) (tuple_mulW l its.toArray n dd sl k t c0 c1 c2 (by omega) c4 (by rw [size_rep, List.size_toArray]; exact flen)) ⟨ho, ?_⟩⟩)
  rw [size_rep]
  exact laidT I (r.rep k.toNat) (by rw [PyProof.Rows.lm_len_rep_flat, sizeLine_eq]; have a1 : k.toNat * xs.length ≤ 1000 * 1000 := Nat.mul_le_mul (by omega) hz; omega) q
/-- sorted of pairs of ints -/
def rSortedS (K : PySem.W.Frag) : List V → Hp → VK → Prop := fun vs H Q => ∃ (a : Addr) (xs : List V) (k : V → Int × Int), vs = [V.ref a] ∧ SqL K H a xs ∧ (∀ x ∈ xs, ∃ t, x = V.ref t ∧ SqT K H t [.int (k x).1, .int (k x).2]) ∧
  ∀ ys p, SrtO.Srtd (ltP k) ys → SrtO.Stb (ltP k) ys xs → H p = none → Q (.ref p) (upd H p (.lst ys))
theorem cr_sortedS : CallR X (.builtin "sorted") (rSortedS X.K) := by
  intro pins s σ H vs us Q I r h
  obtain ⟨a, xs, k, rfl, hs, hx, q⟩ := h
  obtain ⟨its, rv, hl, hz⟩ := I.list hs
  obtain ⟨u, rfl, ru⟩ := vals1 r
  obtain rfl : u = Value.ref a := ru
  obtain ⟨e1, e2⟩ := refs_back rv fun x m => by
    obtain ⟨t, e, _⟩ := hx x m
    exact ⟨t, e⟩
  refine SrtO.sorted_pairsO (k := fun u => k (backV u)) hl.isList (by rw [← rv.length]; exact hz) (fun v hv => ?_) fun h' d out h1 h2 kp hd hn => ?_
  · obtain ⟨t, rfl⟩ := e2 v hv
    have hm : V.ref t ∈ xs := by rw [e1]; exact List.mem_map.mpr ⟨_, hv, rfl⟩
    obtain ⟨t', e, ht⟩ := hx _ hm
    cases e
    obtain ⟨its2, r2, ⟨o, ho, hc, n, hd⟩, _⟩ := I.tuple ht
    obtain ⟨u1, u2, rfl, ri, rj⟩ := vals2 r2
    obtain ⟨t1, rfl⟩ := ri
    obtain ⟨t2, rfl⟩ := rj
    exact ⟨t, o, t1, t2, n, rfl, ho, hc, hd⟩
  · have h3 : ∀ u ∈ out, ∃ a, u = Value.ref a := fun u hu => e2 u (h2.perm.mem_iff.mp hu)
    obtain ⟨n, hn⟩ := hn
    have hb : SrtO.Stb (ltP k) (out.map backV) xs := by
      rw [e1]
      exact SrtO.Stb.map (ltP_swo k) backV h2
    refine ⟨.ref d, upd H d (.lst (out.map backV)), I.laid (t' := s.toks) kp hd ⟨?_, out, n, vals_back h3, hn⟩, rfl, q _ d (SrtO.srtd_map h1) hb (I.hok.fresh hd)⟩
    rw [hb.len]
    exact hz
end
end DL

set_option Elab.async false
set_option linter.all false
set_option maxRecDepth 100000
set_option maxHeartbeats 4000000
namespace DL
open PySem PySem.Spec PyProof.Rows L2
abbrev St := L2.St

/-! ### data -/
inductive D where
  | non | bl (b : Bool) | int (i : Int) | str (x : Str)
  | tup (xs : List D) | trn (xs : List D) | lst (xs : List D) | dct (kvs : List (Key × D))
  | cnt | scr (ns : List Int) | rcd (c h : D)
def D.isR : D → Bool
  | .rcd _ _ => true
  | _ => false
/-- what the class of the records must have -/
structure TwK (K : PySem.W.Frag) (C : Addr) : Prop where
  cls : Cls K C
  nc : NoAttr K C "claim"
  nh : NoAttr K C "how"
  ha : PySem.W.findIn K (.ref C) "__class__" = some (some (.builtin "object.__class__"))
  hn : PySem.W.specialIn K (.builtin "object.__class__") "__get__" = some (some (.builtin "getset_descriptor.__get__"))
  htk : PySem.W.takesIn K (.builtin "object.__class__") = some true
  hm : PySem.W.mroIn K C (.type "object") = some true
  ki : PySem.W.kitOne K (.ref C) (.type "int") = some false
  kb : PySem.W.kitOne K (.ref C) (.type "bool") = some false
  ks : PySem.W.kitOne K (.ref C) (.type "str") = some false
  kt : PySem.W.kitOne K (.ref C) (.type "tuple") = some false
  own : PySem.W.nsIn K mainGlobals "Town" = some (some (.ref C))
/-- a record: an instance with its fields, not owned -/
def RcO (K : PySem.W.Frag) (O : Addr → Prop) (H : Hp) (a : Addr) (v1 v2 : V) : Prop := ∃ (C dx p q : Addr), TwK K C ∧ H a = some (.ins C dx [("claim", v1), ("how", v2), ("past", .ref p), ("calls", .ref q)]) ∧ ¬ O a

def TupO (K : PySem.W.Frag) (O : Addr → Prop) (H : Hp) (a : Addr) (xs : List V) : Prop :=
  (SlT H a xs ∧ ¬ O a) ∨
    ((∃ ss : List Str, xs = ss.map V.str) ∧ ∃ (o : Obj) (its : Array Value) (n : Nat), K.lookup a = some o ∧ o.cls = .type "tuple" ∧ o.data = .seq its n ∧ its.size ≤ sizeLine ∧ Vals xs its.toList)
theorem TupO.sq {K : PySem.W.Frag} {O : Addr → Prop} {H : Hp} {a : Addr} {xs : List V} (h : TupO K O H a xs) : SqT K H a xs := by
  rcases h with h | h
  · exact .inl h.1.rd
  · exact .inr h.2

def LstO (K : PySem.W.Frag) (O : Addr → Prop) (H : Hp) (a : Addr) (xs : List V) : Prop :=
  (Rd H a (.lst xs) ∧ ¬ O a) ∨
    ∃ (o : Obj) (its : Array Value) (n : Nat), K.lookup a = some o ∧ o.cls = .type "list" ∧ o.dict = none ∧ o.data = .seq its n ∧ its.size ≤ sizeLine ∧ Vals xs its.toList
theorem LstO.sq {K : PySem.W.Frag} {O : Addr → Prop} {H : Hp} {a : Addr} {xs : List V} (h : LstO K O H a xs) : SqL K H a xs := by
  rcases h with h | h
  · exact .inl h.1
  · exact .inr h

mutual
inductive Rp (K : PySem.W.Frag) (aT : Addr) (O : Addr → Prop) (H : Hp) : V → D → Prop
  | non : Rp K aT O H .non .non
  | bl (b : Bool) : Rp K aT O H (.bl b) (.bl b)
  | int (i : Int) : Rp K aT O H (.int i) (.int i)
  | str (x : Str) : Rp K aT O H (.str x) (.str x)
  | tup {a : Addr} {xs : List V} {ds : List D} : TupO K O H a xs → Rps K aT O H xs ds → Rp K aT O H (.ref a) (.tup ds)
  | trn {a : Addr} {xs : List V} {ds : List D} : H a = some (.tup xs) → ¬ O a → Rps K aT O H xs ds → Rp K aT O H (.ref a) (.trn ds)
  | lst {a : Addr} {xs : List V} {ds : List D} : H a = some (.lst xs) → ¬ O a → Rps K aT O H xs ds → Rp K aT O H (.ref a) (.lst ds)
  | dct {a : Addr} {kvs : List (Key × V)} {kds : List (Key × D)} : H a = some (.dK kvs) → ¬ O a → Rpk K aT O H kvs kds → Rp K aT O H (.ref a) (.dct kds)
  | cnt : Rp K aT O H (.ref aT) .cnt
  | scr {a : Addr} {ns : List Int} : LstO K O H a (ns.map V.int) → Rp K aT O H (.ref a) (.scr ns)
  | rcd {a : Addr} {v1 v2 : V} {c h : D} : RcO K O H a v1 v2 → Rp K aT O H v1 c → Rp K aT O H v2 h → Rp K aT O H (.ref a) (.rcd c h)
inductive Rps (K : PySem.W.Frag) (aT : Addr) (O : Addr → Prop) (H : Hp) : List V → List D → Prop
  | nil : Rps K aT O H [] []
  | cons {v : V} {vs : List V} {d : D} {ds : List D} : Rp K aT O H v d → Rps K aT O H vs ds → Rps K aT O H (v :: vs) (d :: ds)
inductive Rpk (K : PySem.W.Frag) (aT : Addr) (O : Addr → Prop) (H : Hp) : List (Key × V) → List (Key × D) → Prop
  | nil : Rpk K aT O H [] []
  | cons {k : Key} {v : V} {vs : List (Key × V)} {d : D} {ds : List (Key × D)} : Rp K aT O H v d → Rpk K aT O H vs ds → Rpk K aT O H ((k, v) :: vs) ((k, d) :: ds)
end

/-- what was there and not owned stays, and stays not owned -/
def Kp (O : Addr → Prop) (H : Hp) (O' : Addr → Prop) (H' : Hp) : Prop := ∀ a u, H a = some u → ¬ O a → H' a = some u ∧ ¬ O' a
theorem Kp.rd {O O' : Addr → Prop} {H H' : Hp} {a : Addr} {u : HO} (k : Kp O H O' H') (h : Rd H a u) (n : ¬ O a) : Rd H' a u ∧ ¬ O' a := by
  rcases h with h | ⟨o, h⟩
  · exact ⟨.inl (k a _ h n).1, (k a _ h n).2⟩
  · exact ⟨.inr ⟨o, (k a _ h n).1⟩, (k a _ h n).2⟩
theorem Kp.tup {K : PySem.W.Frag} {O O' : Addr → Prop} {H H' : Hp} {a : Addr} {xs : List V} (k : Kp O H O' H') (h : TupO K O H a xs) : TupO K O' H' a xs := by
  rcases h with ⟨⟨o, hd, h⟩, n⟩ | h
  · exact .inl ⟨⟨o, hd, (k _ _ h n).1⟩, (k _ _ h n).2⟩
  · exact .inr h
theorem Kp.lst {K : PySem.W.Frag} {O O' : Addr → Prop} {H H' : Hp} {a : Addr} {xs : List V} (k : Kp O H O' H') (h : LstO K O H a xs) : LstO K O' H' a xs := by
  rcases h with ⟨h, n⟩ | h
  · exact .inl (k.rd h n)
  · exact .inr h
theorem Kp.rcd {K : PySem.W.Frag} {O O' : Addr → Prop} {H H' : Hp} {a : Addr} {v1 v2 : V} (k : Kp O H O' H') (h : RcO K O H a v1 v2) : RcO K O' H' a v1 v2 := by
  obtain ⟨C, dx, p, q, t, e, n⟩ := h
  exact ⟨C, dx, p, q, t, (k _ _ e n).1, (k _ _ e n).2⟩
theorem Kp.trans {O1 O2 O3 : Addr → Prop} {H1 H2 H3 : Hp} (a : Kp O1 H1 O2 H2) (b : Kp O2 H2 O3 H3) : Kp O1 H1 O3 H3 := fun x u e n => b x u (a x u e n).1 (a x u e n).2
theorem Kp.anti {O O' : Addr → Prop} {H : Hp} (h : ∀ a, O' a → O a) : Kp O H O' H := fun a u e n => ⟨e, fun z => n (h a z)⟩

section
variable {K : PySem.W.Frag} {aT : Addr} {O O' : Addr → Prop} {H H' : Hp}
mutual
theorem Rp.mono (k : Kp O H O' H') : ∀ {v : V} {d : D}, Rp K aT O H v d → Rp K aT O' H' v d
  | _, _, .non => .non
  | _, _, .bl b => .bl b
  | _, _, .int i => .int i
  | _, _, .str x => .str x
  | _, _, .tup h r => .tup (k.tup h) (Rps.mono k r)
  | _, _, .trn h n r => .trn (k _ _ h n).1 (k _ _ h n).2 (Rps.mono k r)
  | _, _, .lst h n r => .lst (k _ _ h n).1 (k _ _ h n).2 (Rps.mono k r)
  | _, _, .dct h n r => .dct (k _ _ h n).1 (k _ _ h n).2 (Rpk.mono k r)
  | _, _, .cnt => .cnt
  | _, _, .scr h => .scr (k.lst h)
  | _, _, .rcd h r1 r2 => .rcd (k.rcd h) (Rp.mono k r1) (Rp.mono k r2)
theorem Rps.mono (k : Kp O H O' H') : ∀ {v : List V} {d : List D}, Rps K aT O H v d → Rps K aT O' H' v d
  | _, _, .nil => .nil
  | _, _, .cons a b => .cons (Rp.mono k a) (Rps.mono k b)
theorem Rpk.mono (k : Kp O H O' H') : ∀ {v : List (Key × V)} {d : List (Key × D)}, Rpk K aT O H v d → Rpk K aT O' H' v d
  | _, _, .nil => .nil
  | _, _, .cons a b => .cons (Rp.mono k a) (Rpk.mono k b)
end
theorem Rps.length : ∀ {vs : List V} {ds : List D}, Rps K aT O H vs ds → vs.length = ds.length
  | _, _, .nil => rfl
  | _, _, .cons _ t => by simp [Rps.length t]
theorem Rps.get : ∀ {vs : List V} {ds : List D} {i : Nat} {d : D}, Rps K aT O H vs ds → ds[i]? = some d → ∃ v, vs[i]? = some v ∧ Rp K aT O H v d
  | _, _, _, _, .nil, e => by simp at e
  | _, _, 0, _, .cons r _, e => by simp at e; subst e; exact ⟨_, rfl, r⟩
  | _, _, i + 1, d, .cons _ t, e => by
    obtain ⟨v, h1, h2⟩ := Rps.get (i := i) (d := d) t (by simpa using e)
    exact ⟨v, by simpa using h1, h2⟩
theorem Rps.getV : ∀ {vs : List V} {ds : List D} {i : Nat} {v : V}, Rps K aT O H vs ds → vs[i]? = some v → ∃ d, ds[i]? = some d ∧ Rp K aT O H v d
  | _, _, _, _, .nil, e => by simp at e
  | _, _, 0, _, .cons r _, e => by simp at e; subst e; exact ⟨_, rfl, r⟩
  | _, _, i + 1, d, .cons _ t, e => by
    obtain ⟨v, h1, h2⟩ := Rps.getV (i := i) (v := d) t (by simpa using e)
    exact ⟨v, by simpa using h1, h2⟩
theorem Rps.append : ∀ {xs ys : List V} {us ws : List D}, Rps K aT O H xs us → Rps K aT O H ys ws → Rps K aT O H (xs ++ ys) (us ++ ws)
  | _, _, _, _, .nil, s => s
  | _, _, _, _, .cons r t, s => .cons r (Rps.append t s)
theorem Rps.take : ∀ {xs : List V} {us : List D} (n : Nat), Rps K aT O H xs us → Rps K aT O H (xs.take n) (us.take n)
  | _, _, 0, _ => .nil
  | _, _, _ + 1, .nil => .nil
  | _, _, n + 1, .cons r t => .cons r (Rps.take n t)
theorem Rps.drop : ∀ {xs : List V} {us : List D} (n : Nat), Rps K aT O H xs us → Rps K aT O H (xs.drop n) (us.drop n)
  | _, _, 0, r => r
  | _, _, _ + 1, .nil => .nil
  | _, _, n + 1, .cons _ t => Rps.drop n t
theorem Rps.ints : ∀ {xs : List V} {ns : List Int}, Rps K aT O H xs (ns.map D.int) → xs = ns.map V.int
  | _, [], h => by cases h; rfl
  | _, n :: r, h => by
    cases h with
    | cons a b =>
      cases a
      rw [Rps.ints (ns := r) b]
      rfl
theorem Rps.strs : ∀ {xs : List V} {ns : List Str}, Rps K aT O H xs (ns.map D.str) → xs = ns.map V.str
  | _, [], h => by cases h; rfl
  | _, n :: r, h => by
    cases h with
    | cons a b =>
      cases a
      rw [Rps.strs (ns := r) b]
      rfl
theorem Rps.bls : ∀ {xs : List V} {ns : List Bool}, Rps K aT O H xs (ns.map D.bl) → xs = ns.map V.bl
  | _, [], h => by cases h; rfl
  | _, n :: r, h => by
    cases h with
    | cons a b =>
      cases a
      rw [Rps.bls (ns := r) b]
      rfl
theorem Rps.of_ints : ∀ (ns : List Int), Rps K aT O H (ns.map V.int) (ns.map D.int)
  | [] => .nil
  | n :: r => .cons (.int n) (Rps.of_ints r)
theorem Rps.of_strs : ∀ (ns : List Str), Rps K aT O H (ns.map V.str) (ns.map D.str)
  | [] => .nil
  | n :: r => .cons (.str n) (Rps.of_strs r)
end

/-! ### results -/
inductive Rs (α : Type) where
  | ok (a : α) (n : Nat) | ex (c : Str) (n : Nat) | no | amb (f : Nat → Rs α)
def Rs.bind {α β : Type} (r : Rs α) (k : α → Nat → Rs β) : Rs β := match r with
  | .ok a n => k a n
  | .ex c n => .ex c n
  | .no => .no
  | .amb f => .amb fun b => (f b).bind k
@[simp] theorem Rs.bind_amb {α β : Type} (f : Nat → Rs α) (k : α → Nat → Rs β) : (Rs.amb f).bind k = .amb fun b => (f b).bind k := rfl
/-- the same, where nothing may be raised -/
def Rs.bindN {α β : Type} (r : Rs α) (k : α → Nat → Rs β) : Rs β := match r with
  | .ok a n => k a n
  | .ex _ _ => .no
  | .no => .no
  | .amb f => .amb fun b => (f b).bindN k
@[simp] theorem Rs.bindN_ok {α β : Type} (a : α) (n : Nat) (k : α → Nat → Rs β) : (Rs.ok a n).bindN k = k a n := rfl
@[simp] theorem Rs.bindN_no {α β : Type} (k : α → Nat → Rs β) : (Rs.no : Rs α).bindN k = .no := rfl
@[simp] theorem Rs.bindN_amb {α β : Type} (f : Nat → Rs α) (k : α → Nat → Rs β) : (Rs.amb f).bindN k = .amb fun b => (f b).bindN k := rfl
theorem Rs.bind_assoc {α β γ : Type} (r : Rs α) (k : α → Nat → Rs β) (l : β → Nat → Rs γ) : (r.bind k).bind l = r.bind fun a n => (k a n).bind l := by
  induction r with
  | ok a n => rfl
  | ex c n => rfl
  | no => rfl
  | amb f ih => simp only [Rs.bind_amb]; congr 1; funext b; exact ih b
theorem Rs.bindN_bind {α β γ : Type} (r : Rs α) (k : α → Nat → Rs β) (l : β → Nat → Rs γ) : (r.bindN k).bind l = r.bindN fun a n => (k a n).bind l := by
  induction r with
  | ok a n => rfl
  | ex c n => rfl
  | no => rfl
  | amb f ih => simp only [Rs.bind_amb, Rs.bindN_amb]; congr 1; funext b; exact ih b
@[simp] theorem Rs.bind_ok {α β : Type} (a : α) (n : Nat) (k : α → Nat → Rs β) : (Rs.ok a n).bind k = k a n := rfl
@[simp] theorem Rs.bind_ex {α β : Type} (c : Str) (n : Nat) (k : α → Nat → Rs β) : (Rs.ex c n : Rs α).bind k = .ex c n := rfl
@[simp] theorem Rs.bind_no {α β : Type} (k : α → Nat → Rs β) : (Rs.no : Rs α).bind k = .no := rfl
def Rs.of {α : Type} (o : Option α) (n : Nat) : Rs α := match o with
  | some a => .ok a n
  | none => .no
@[simp] theorem Rs.of_some {α : Type} (a : α) (n : Nat) : Rs.of (some a) n = .ok a n := rfl
@[simp] theorem Rs.of_none {α : Type} (n : Nat) : (Rs.of none n : Rs α) = .no := rfl

inductive Sl where
  | no | sh (d : D) | ow (d : D) | tw (k : Nat) (a : Addr)
abbrev Ev := List Sl
inductive Fl where
  | nx (ρ : Ev) | rt (d : D)
abbrev SE := Ev → Nat → Rs D
abbrev ST := Ev → Nat → Rs Bool
abbrev SA := Ev → Nat → Rs (List D)
abbrev SS := Ev → Nat → Rs Fl

/-! ### the state -/
def townMax : Nat := 100000
def Tw (aT : Addr) (H : Hp) (n : Nat) : Prop := H aT = some (.lst (List.replicate n (.int 0))) ∧ n ≤ townMax
def Ex1 (aT : Addr) (H H' : Hp) : Prop := ∀ b u, b ≠ aT → H b = some u → H' b = some u
theorem Ex1.refl {aT : Addr} {H : Hp} : Ex1 aT H H := fun _ _ _ h => h
theorem Ex1.trans {aT : Addr} {H H1 H2 : Hp} (a : Ex1 aT H H1) (b : Ex1 aT H1 H2) : Ex1 aT H H2 := fun x u n h => b x u n (a x u n h)
theorem Ex1.new {aT : Addr} {H : Hp} {p : Addr} {o : HO} (h : H p = none) : Ex1 aT H (upd H p o) := fun b u _ e => by
  rw [upd_ne (ne_of_none e h)]; exact e
theorem Ex1.mut {aT : Addr} {H H' : Hp} {p : Addr} {o : HO} (e : Ex1 aT H H') (h : H p = none ∨ p = aT) : Ex1 aT H (upd H' p o) := fun b u n hb => by
  have : b ≠ p := by
    rcases h with h | h
    · exact ne_of_none hb h
    · rw [h]; exact n
  rw [upd_ne this]
  exact e b u n hb
theorem Tw.new {aT : Addr} {H : Hp} {n : Nat} {p : Addr} {o : HO} (t : Tw aT H n) (h : H p = none) : Tw aT (upd H p o) n := ⟨by rw [upd_ne (ne_of_none t.1 h)]; exact t.1, t.2⟩

def Oo (Oc : Addr → Prop) (σ : St) (ρ : Ev) (b : Addr) : Prop := Oc b ∨ ∃ (i : Nat) (d : D), ρ[i]? = some (.ow d) ∧ σ[i]? = some (some (.ref b))
def Own (K : PySem.W.Frag) (aT : Addr) (O : Addr → Prop) (H : Hp) (a : Addr) : D → Prop
  | .lst ds => ∃ xs, H a = some (.lst xs) ∧ Rps K aT O H xs ds
  | .dct ds => ∃ kvs, H a = some (.dK kvs) ∧ Rpk K aT O H kvs ds
  | _ => False
theorem Own.mono {K : PySem.W.Frag} {aT : Addr} {O O' : Addr → Prop} {H H' : Hp} {a : Addr} {d : D} (o : Own K aT O H a d) (k : Kp O H O' H') (h : ∀ u, H a = some u → H' a = some u) : Own K aT O' H' a d := by
  cases d <;> try exact o.elim
  · obtain ⟨xs, e, r⟩ := o
    exact ⟨xs, h _ e, r.mono k⟩
  · obtain ⟨xs, e, r⟩ := o
    exact ⟨xs, h _ e, r.mono k⟩

structure StE (K : PySem.W.Frag) (aT : Addr) (Oc : Addr → Prop) (H : Hp) (σ : St) (ρ : Ev) (n : Nat) : Prop where
  tw : Tw aT H n
  oT : Oc aT
  dom : ∀ b, Oc b → H b ≠ none
  len : σ.length = ρ.length
  sh : ∀ (i : Nat) (d : D), ρ[i]? = some (.sh d) → ∃ v, σ[i]? = some (some v) ∧ Rp K aT (Oo Oc σ ρ) H v d
  ow : ∀ (i : Nat) (d : D), ρ[i]? = some (.ow d) → ∃ a, σ[i]? = some (some (.ref a)) ∧ ¬ Oc a ∧ Own K aT (Oo Oc σ ρ) H a d
  inj : ∀ (i j : Nat) (d e : D) (a : Addr), ρ[i]? = some (.ow d) → ρ[j]? = some (.ow e) → σ[i]? = some (some (.ref a)) → σ[j]? = some (some (.ref a)) → i = j
  ad : ∀ (i k : Nat) (a : Addr), ρ[i]? = some (.tw k a) → σ[i]? = some (some (.ref a))

theorem Ex1.kp {aT : Addr} {O : Addr → Prop} {H H' : Hp} (e : Ex1 aT H H') (h : O aT) : Kp O H O H' := fun a u q n => ⟨e a u (fun z => n (by rw [z]; exact h)) q, n⟩
theorem Ex1.some {aT : Addr} {H H' : Hp} {n : Nat} (e : Ex1 aT H H') (t : Tw aT H' n) {b : Addr} (h : H b ≠ none) : H' b ≠ none := by
  by_cases z : b = aT
  · rw [z, t.1]; intro q; cases q
  · cases q : H b with
    | none => exact absurd q h
    | some u => rw [e b u z q]; intro q; cases q
theorem StE.step {K : PySem.W.Frag} {aT : Addr} {Oc : Addr → Prop} {H H' : Hp} {σ : St} {ρ : Ev} {n n' : Nat} (s : StE K aT Oc H σ ρ n) (e : Ex1 aT H H') (t : Tw aT H' n') : StE K aT Oc H' σ ρ n' := by
  have k : Kp (Oo Oc σ ρ) H (Oo Oc σ ρ) H' := e.kp (.inl s.oT)
  refine ⟨t, s.oT, fun b hb => e.some t (s.dom b hb), s.len, fun i d h => ?_, fun i d h => ?_, s.inj, s.ad⟩
  · obtain ⟨v, h1, h2⟩ := s.sh i d h
    exact ⟨v, h1, h2.mono k⟩
  · obtain ⟨a, h1, h2, h3⟩ := s.ow i d h
    exact ⟨a, h1, h2, h3.mono k fun u q => e a u (fun z => h2 (by rw [z]; exact s.oT)) q⟩

/-- a borrowed thing: as it is, or an owned one -/
def Rb (K : PySem.W.Frag) (aT : Addr) (O : Addr → Prop) (H : Hp) (v : V) (d : D) : Prop := Rp K aT O H v d ∨ ∃ a, v = .ref a ∧ Own K aT O H a d ∧ a ≠ aT
theorem Rb.step {K : PySem.W.Frag} {aT : Addr} {O : Addr → Prop} {H H' : Hp} {v : V} {d : D} (r : Rb K aT O H v d) (e : Ex1 aT H H') (h : O aT) : Rb K aT O H' v d := by
  rcases r with r | ⟨a, e1, o, n⟩
  · exact .inl (r.mono (e.kp h))
  · exact .inr ⟨a, e1, o.mono (e.kp h) fun u q => e a u n q, n⟩

/-! ### readings -/
abbrev Rl (β α : Type) := Addr → (Addr → Prop) → Hp → Hp → β → α → Prop
def Mo {β α : Type} (R : Rl β α) : Prop := ∀ aT O H H1 H2 n v d, Ex1 aT H H1 → Tw aT H1 n → R aT O H1 H2 v d → R aT O H H2 v d
def GoAt {α β : Type} (mg : Str → Option Value) (W : WX) (R : Hp → Hp → β → α → Prop) (aT : Addr) (σ : St) (H : Hp) (r : Rs α) (Q : β → Hp → Prop) : Prop := match r with
  | .ok d n' => ∀ v H', Ex1 aT H H' → Tw aT H' n' → R H H' v d → Q v H'
  | .ex c n' => ∃ u, mg c = some u ∧ ∀ H', Ex1 aT H H' → Tw aT H' n' → W u none σ H'
  | .no => False
  | .amb f => ∀ b, GoAt mg W R aT σ H (f b) Q
def Go {α β : Type} (X : Cx) (W : WX) (R : Rl β α) (f : Ev → Nat → Rs α) (σ : St) (H : Hp) (Q : β → Hp → Prop) : Prop :=
  ∃ (aT : Addr) (Oc : Addr → Prop) (ρ : Ev) (n : Nat), StE X.K aT Oc H σ ρ n ∧ GoAt X.mg W (R aT (Oo Oc σ ρ)) aT σ H (f ρ n) Q
abbrev RpX (X : Cx) : Rl V D := fun aT O _ H v d => Rp X.K aT O H v d
abbrev RbX (X : Cx) : Rl V D := fun aT O _ H v d => Rb X.K aT O H v d
abbrev RaX (X : Cx) : Rl (List V) (List D) := fun aT O _ H v d => Rps X.K aT O H v d
abbrev RqX (X : Cx) : Rl (List V) (List D) := fun aT O _ H v d => Paired (Rb X.K aT O H) v d
abbrev RtX : Rl Bool Bool := fun _ _ _ _ v d => v = d
/-- a new list or dict, nobody else's -/
def RfX (X : Cx) : Rl V D := fun aT O H H' v d => ∃ a, v = .ref a ∧ H a = none ∧ ¬ O a ∧ Own X.K aT (fun b => O b ∨ b = a) H' a d
theorem mo_c {β α : Type} {R : Addr → (Addr → Prop) → Hp → β → α → Prop} : Mo (fun aT O _ H v d => R aT O H v d) := fun _ _ _ _ _ _ _ _ _ _ r => r
theorem Ex1.none {aT : Addr} {H H1 : Hp} {n : Nat} (e : Ex1 aT H H1) (t : Tw aT H1 n) {a : Addr} (h : H1 a = none) : H a = none := by
  cases q : H a with
  | none => rfl
  | some u =>
    have na : a ≠ aT := fun z => by rw [z, t.1] at h; cases h
    rw [e a u na q] at h; cases h
theorem mo_f {X : Cx} : Mo (RfX X) := fun aT O H H1 H2 n v d e t ⟨a, h1, h2, h3⟩ => ⟨a, h1, e.none t h2, h3⟩
theorem GoAt.step {α β : Type} {mg : Str → Option Value} {W : WX} {R : Rl β α} (mo : Mo R) {O : Addr → Prop} {aT : Addr} {σ : St} {H H1 : Hp} {n : Nat} {r : Rs α} {Q : β → Hp → Prop} (e : Ex1 aT H H1) (t : Tw aT H1 n) (h : GoAt mg W (R aT O) aT σ H r Q) : GoAt mg W (R aT O) aT σ H1 r Q := by
  induction r with
  | ok d n2 => exact fun v H2 e2 t2 r2 => h v H2 (e.trans e2) t2 (mo _ _ _ _ _ _ _ _ e t r2)
  | ex c n2 =>
    obtain ⟨u, q, h⟩ := h
    exact ⟨u, q, fun H2 e2 t2 => h H2 (e.trans e2) t2⟩
  | no => exact h
  | amb f ih => exact fun b => ih b (h b)
theorem GoAt.bind {α β γ δ : Type} {X : Cx} {W : WX} {R : Rl β α} {R' : Rl δ γ} (mo : Mo R') {aT : Addr} {Oc : Addr → Prop} {σ : St} {H : Hp} {ρ : Ev} {n : Nat} {f : Ev → Nat → Rs α} {k : α → Nat → Rs γ} {Q : δ → Hp → Prop} {Q1 : β → Hp → Prop}
    (s : StE X.K aT Oc H σ ρ n) (h : GoAt X.mg W (R' aT (Oo Oc σ ρ)) aT σ H ((f ρ n).bind k) Q)
    (step : ∀ H1 v a n1, StE X.K aT Oc H1 σ ρ n1 → Ex1 aT H H1 → R aT (Oo Oc σ ρ) H H1 v a → GoAt X.mg W (R' aT (Oo Oc σ ρ)) aT σ H1 (k a n1) Q → Q1 v H1) : Go X W R f σ H Q1 := by
  refine ⟨aT, Oc, ρ, n, s, ?_⟩
  generalize f ρ n = r at h
  induction r with
  | ok a n1 =>
    intro v H1 e t r
    exact step H1 v a n1 (s.step e t) e r (GoAt.step mo e t (show GoAt X.mg W (R' aT (Oo Oc σ ρ)) aT σ H (k a n1) Q from h))
  | ex c n1 => exact h
  | no => exact h
  | amb f ih => exact fun b => ih b (h b)
/-- where nothing may be raised -/
theorem GoAt.bindN {α β γ δ : Type} {mg : Str → Option Value} {W W1 : WX} {R : Hp → Hp → β → α → Prop} {R' : Hp → Hp → δ → γ → Prop} {aT : Addr} {σ σ1 : St} {H H1 : Hp} {r : Rs α} {k : α → Nat → Rs γ} {Q : δ → Hp → Prop} {Q1 : β → Hp → Prop}
    (h : GoAt mg W R' aT σ H (r.bindN k) Q) (step : ∀ a n1 v H', Ex1 aT H1 H' → Tw aT H' n1 → R H1 H' v a → GoAt mg W R' aT σ H (k a n1) Q → Q1 v H') : GoAt mg W1 R aT σ1 H1 r Q1 := by
  induction r with
  | ok a n1 => exact fun v H' e t r => step a n1 v H' e t r h
  | ex c n1 => exact h.elim
  | no => exact h.elim
  | amb f ih => exact fun b => ih b (h b)
theorem Go.bind {α β γ δ : Type} {X : Cx} {W : WX} {R : Rl β α} {R' : Rl δ γ} (mo : Mo R') {σ : St} {H : Hp} {f : Ev → Nat → Rs α} {k : α → Ev → Nat → Rs γ} {Q : δ → Hp → Prop} {Q1 : β → Hp → Prop}
    (h : Go X W R' (fun ρ n => (f ρ n).bind fun a n1 => k a ρ n1) σ H Q)
    (step : ∀ aT Oc ρ H1 v a n1, StE X.K aT Oc H1 σ ρ n1 → R aT (Oo Oc σ ρ) H H1 v a → GoAt X.mg W (R' aT (Oo Oc σ ρ)) aT σ H1 (k a ρ n1) Q → Q1 v H1) : Go X W R f σ H Q1 := by
  obtain ⟨aT, Oc, ρ, n, s, h⟩ := h
  exact GoAt.bind mo s h fun H1 v a n1 s1 _ r g => step aT Oc ρ H1 v a n1 s1 r g
/-- the end of a reading -/
theorem GoAt.ok {α β : Type} {mg : Str → Option Value} {W : WX} {R : Hp → Hp → β → α → Prop} {aT : Addr} {σ : St} {H : Hp} {d : α} {n : Nat} {Q : β → Hp → Prop} (h : GoAt mg W R aT σ H (.ok d n) Q) {v : β} {H' : Hp} (e : Ex1 aT H H') (t : Tw aT H' n) (r : R H H' v d) : Q v H' := h v H' e t r
theorem GoAt.of {α β : Type} {mg : Str → Option Value} {W : WX} {R : Hp → Hp → β → α → Prop} {aT : Addr} {σ : St} {H : Hp} {o : Option α} {n : Nat} {Q : β → Hp → Prop} (h : GoAt mg W R aT σ H (Rs.of o n) Q) : ∃ d, o = some d ∧ ∀ v H', Ex1 aT H H' → Tw aT H' n → R H H' v d → Q v H' := by
  cases o with
  | none => exact h.elim
  | some d => exact ⟨d, rfl, h⟩
theorem Go.imp {α β : Type} {X : Cx} {W : WX} {R R' : Rl β α} {σ : St} {H : Hp} {f : Ev → Nat → Rs α} {Q : β → Hp → Prop} (h : Go X W R f σ H Q) (hR : ∀ aT O H H' v d, R' aT O H H' v d → R aT O H H' v d) : Go X W R' f σ H Q := by
  obtain ⟨aT, Oc, ρ, n, s, h⟩ := h
  refine ⟨aT, Oc, ρ, n, s, ?_⟩
  generalize f ρ n = r at h ⊢
  induction r with
  | ok a n1 => exact fun v H' e t r => h v H' e t (hR _ _ _ _ _ _ r)
  | ex c n1 => exact h
  | no => exact h
  | amb f ih => exact fun b => ih b (h b)

/-- an expression that is handed on; one that is only looked at; one that makes a new list or dict; a test; arguments -/
def DE (X : Cx) (W : WX) (e : Expr) (f : SE) : Prop := PE X e (Go X W (RpX X) f)
def DB (X : Cx) (W : WX) (e : Expr) (f : SE) : Prop := PE X e (Go X W (RbX X) f)
def DF (X : Cx) (W : WX) (e : Expr) (f : SE) : Prop := PE X e (Go X W (RfX X) f)
def DT (X : Cx) (W : WX) (e : Expr) (f : ST) : Prop := PT X e (Go X W RtX f)
def DW (X : Cx) (W : WX) (e : Expr) (f : ST) : Prop := PW X e (Go X W RtX f)
def DA (X : Cx) (W : WX) (es : List Expr) (f : SA) : Prop := PA X es (Go X W (RaX X) f)
def DQ (X : Cx) (W : WX) (es : List Expr) (f : SA) : Prop := PA X es (Go X W (RqX X) f)
theorem PE.imp {X : Cx} {e : Expr} {t t' : TE} (h : PE X e t) (i : ∀ σ H Q, t' σ H Q → t σ H Q) : PE X e t' := ⟨fun pins s σ H Q I q => h.run pins s σ H Q I (i σ H Q q)⟩
theorem PT.imp {X : Cx} {e : Expr} {t t' : TT} (h : PT X e t) (i : ∀ σ H Q, t' σ H Q → t σ H Q) : PT X e t' := ⟨fun pins s σ H Q I q => h.run pins s σ H Q I (i σ H Q q)⟩
theorem PW.imp {X : Cx} {e : Expr} {t t' : TT} (h : PW X e t) (i : ∀ σ H Q, t' σ H Q → t σ H Q) : PW X e t' := ⟨fun w pins s σ H Q I q => h.run w pins s σ H Q I (i σ H Q q)⟩
theorem PA.imp {X : Cx} {e : List Expr} {t t' : TA} (h : PA X e t) (i : ∀ σ H Q, t' σ H Q → t σ H Q) : PA X e t' := ⟨fun pos pins s σ H Q I q => h.run pos pins s σ H Q I (i σ H Q q)⟩
theorem PS.imp {X : Cx} {e : Stmt} {t t' : TS} (h : PS X e t) (i : ∀ D σ H, t' D σ H → t D σ H) : PS X e t' := ⟨fun pins s σ H D I q => h.run pins s σ H D I (i D σ H q)⟩
theorem PSs.imp {X : Cx} {e : List Stmt} {t t' : TS} (h : PSs X e t) (i : ∀ D σ H, t' D σ H → t D σ H) : PSs X e t' := ⟨fun pins s σ H D I q => h.run pins s σ H D I (i D σ H q)⟩
section
variable {X : Cx} {W : WX} {a b c e : Expr} {es : List Expr} {fa fb fc : SE} {pos : Pos}
theorem db (h : DE X W e fa) : DB X W e fa := PE.imp h fun σ H Q q => q.imp fun _ _ _ _ _ _ r => .inl r
theorem RfX.rp {aT : Addr} {O : Addr → Prop} {H H' : Hp} {v : V} {d : D} (r : RfX X aT O H H' v d) : Rp X.K aT O H' v d := by
  obtain ⟨a, rfl, _, n, o⟩ := r
  have k : Kp (fun b => O b ∨ b = a) H' O H' := Kp.anti fun b h => .inl h
  cases d <;> try exact o.elim
  · obtain ⟨xs, e, r⟩ := o
    exact .lst e n (r.mono k)
  · obtain ⟨xs, e, r⟩ := o
    exact .dct e n (r.mono k)
theorem df (h : DF X W e fa) : DE X W e fa := PE.imp h fun σ H Q q => q.imp fun _ _ _ _ _ _ r => r.rp

/-! ### names and constants -/
def eVar (i : Nat) : SE := fun ρ n => match ρ[i]? with
  | some (.sh d) => .ok d n
  | _ => .no
def eVarB (i : Nat) : SE := fun ρ n => match ρ[i]? with
  | some (.sh d) => .ok d n
  | some (.ow d) => .ok d n
  | _ => .no
theorem de_var (i : Nat) {x : Str} (hN : X.N[i]? = some x := by rfl) (hv : Vis X.env.scope x := by first | exact Or.inl rfl | exact Or.inr (Or.inl rfl) | exact Or.inr (Or.inr rfl)) (hd : (x == ("__debug__" : Str)) = false := by decide)
    (hcd : (x == ("__classdict__" : Str)) = false := by decide) : DE X W (.Name x pos) (eVar i) := PE.imp (pe_var hN hv hd hcd) fun σ H Q h => by
  obtain ⟨aT, Oc, ρ, n, s, h⟩ := h
  unfold eVar at h
  cases q : ρ[i]? with
  | none => rw [q] at h; exact h.elim
  | some w =>
    rw [q] at h
    cases w with
    | no => exact h.elim
    | tw _ _ => exact h.elim
    | ow d => exact h.elim
    | sh d =>
      obtain ⟨v, e, r⟩ := s.sh i d q
      exact ⟨v, e, h.ok .refl s.tw r⟩
theorem db_var (i : Nat) {x : Str} (hN : X.N[i]? = some x := by rfl) (hv : Vis X.env.scope x := by first | exact Or.inl rfl | exact Or.inr (Or.inl rfl) | exact Or.inr (Or.inr rfl)) (hd : (x == ("__debug__" : Str)) = false := by decide)
    (hcd : (x == ("__classdict__" : Str)) = false := by decide) : DB X W (.Name x pos) (eVarB i) := PE.imp (pe_var hN hv hd hcd) fun σ H Q h => by
  obtain ⟨aT, Oc, ρ, n, s, h⟩ := h
  unfold eVarB at h
  cases q : ρ[i]? with
  | none => rw [q] at h; exact h.elim
  | some w =>
    rw [q] at h
    cases w with
    | no => exact h.elim
    | tw _ _ => exact h.elim
    | ow d =>
      obtain ⟨v, e, r, o⟩ := s.ow i d q
      exact ⟨_, e, h.ok .refl s.tw (.inr ⟨v, rfl, o, fun z => r (by rw [z]; exact s.oT)⟩)⟩
    | sh d =>
      obtain ⟨v, e, r⟩ := s.sh i d q
      exact ⟨v, e, h.ok .refl s.tw (.inl r)⟩
def eC (d : D) : SE := fun _ n => .ok d n
theorem de_c {v : V} {d : D} (h : PE X e (tC v)) (r : ∀ aT O H, Rp X.K aT O H v d) : DE X W e (eC d) := PE.imp h fun σ H Q h => by
  obtain ⟨aT, Oc, ρ, n, s, h⟩ := h
  exact h.ok .refl s.tw (r _ _ _)
theorem de_int {i : Int} {j : Nat} : DE X W (.Constant (.int i) j pos) (eC (.int i)) := de_c pe_int fun _ _ _ => .int i
theorem de_bl {i : Bool} {j : Nat} : DE X W (.Constant (.bool i) j pos) (eC (.bl i)) := de_c pe_bl fun _ _ _ => .bl i
theorem de_non {j : Nat} : DE X W (.Constant .none j pos) (eC .non) := de_c pe_non fun _ _ _ => .non
theorem de_str {x : Str} {j : Nat} : DE X W (.Constant (.str x) j pos) (eC (.str x)) := de_c pe_str fun _ _ _ => .str x
/-- a constant of the module -/
def GlD (K : PySem.W.Frag) (mg : Str → Option Value) (x : Str) (d : D) : Prop := ∃ v u, mg x = some u ∧ RelV v u ∧ ∀ aT O H, Rp K aT O H v d
theorem de_glob {x : Str} {d : D} (h : GlD X.K X.mg x d) (hg : Gl X x := by rfl) (hd : (x == ("__debug__" : Str)) = false := by decide) : DE X W (.Name x pos) (eC d) := by
  obtain ⟨v, u, h1, h2, h3⟩ := h
  exact de_c (pe_glob hg h1 h2 hd) h3

/-! ### arguments -/
def eNil : SA := fun _ n => .ok [] n
def eCons (f : SE) (g : SA) : SA := fun ρ n => (f ρ n).bind fun d n1 => (g ρ n1).bind fun ds n2 => .ok (d :: ds) n2
theorem da_nil : DA X W [] eNil := PA.imp pa_nil fun σ H Q h => by
  obtain ⟨aT, Oc, ρ, n, s, h⟩ := h
  exact h.ok .refl s.tw .nil
theorem dq_nil : DQ X W [] eNil := PA.imp pa_nil fun σ H Q h => by
  obtain ⟨aT, Oc, ρ, n, s, h⟩ := h
  exact h.ok .refl s.tw .nil
theorem da_cons {fr : SA} (ha : DE X W e fa) (hr : DA X W es fr) (hs : starEach (e :: es) X.env = (false, eval e X.env) :: starEach es X.env := by rfl) : DA X W (e :: es) (eCons fa fr) := PA.imp (pa_cons ha hr hs) fun σ H Q h => by
  refine Go.bind mo_c h fun aT Oc ρ H1 v d n1 s1 r g => ?_
  refine GoAt.bind mo_c s1 g fun H2 vs ds n2 s2 e2 r2 g2 => ?_
  exact g2.ok .refl s2.tw (.cons (r.mono (e2.kp (.inl s1.oT))) r2)
theorem Pb.step {K : PySem.W.Frag} {aT : Addr} {O : Addr → Prop} {H H' : Hp} (e : Ex1 aT H H') (h : O aT) {vs : List V} {ds : List D} (r : Paired (Rb K aT O H) vs ds) : Paired (Rb K aT O H') vs ds := L2.Paired.mapP r fun _ _ q => q.step e h
theorem dq_cons {fr : SA} (ha : DB X W e fa) (hr : DQ X W es fr) (hs : starEach (e :: es) X.env = (false, eval e X.env) :: starEach es X.env := by rfl) : DQ X W (e :: es) (eCons fa fr) := PA.imp (pa_cons ha hr hs) fun σ H Q h => by
  refine Go.bind (R' := RqX X) mo_c h fun aT Oc ρ H1 v d n1 s1 r g => ?_
  refine GoAt.bind (R' := RqX X) mo_c s1 g fun H2 vs ds n2 s2 e2 r2 g2 => ?_
  exact g2.ok .refl s2.tw (.cons (r.step e2 (.inl s1.oT)) r2)
theorem StE.fresh {K : PySem.W.Frag} {aT : Addr} {Oc : Addr → Prop} {H : Hp} {σ : St} {ρ : Ev} {n : Nat} (s : StE K aT Oc H σ ρ n) {p : Addr} (h : H p = none) : ¬ Oo Oc σ ρ p := by
  rintro (z | ⟨i, d, h1, h2⟩)
  · exact s.dom p z h
  · obtain ⟨a, e1, e2, o⟩ := s.ow i d h1
    rw [h2] at e1
    cases e1
    cases d <;> try exact o.elim
    · obtain ⟨xs, e, _⟩ := o
      rw [h] at e; cases e
    · obtain ⟨xs, e, _⟩ := o
      rw [h] at e; cases e
/-- a new tuple, list -/
theorem StE.newTup {K : PySem.W.Frag} {aT : Addr} {Oc : Addr → Prop} {H : Hp} {σ : St} {ρ : Ev} {n : Nat} (s : StE K aT Oc H σ ρ n) {p : Addr} {o : Obj} (h : H p = none) (hd : o.dict = none) {xs : List V} {ds : List D} (r : Rps K aT (Oo Oc σ ρ) H xs ds) : Rp K aT (Oo Oc σ ρ) (upd H p (.frz o (.tup xs))) (.ref p) (.tup ds) :=
  .tup (.inl ⟨⟨o, hd, upd_same⟩, s.fresh h⟩) (r.mono ((Ex1.new h).kp (.inl s.oT)))
theorem StE.newLst {aT : Addr} {Oc : Addr → Prop} {H : Hp} {σ : St} {ρ : Ev} {n : Nat} (s : StE X.K aT Oc H σ ρ n) {p : Addr} (h : H p = none) {xs : List V} {ds : List D} (r : Rps X.K aT (Oo Oc σ ρ) H xs ds) : RfX X aT (Oo Oc σ ρ) H (upd H p (.lst xs)) (.ref p) (.lst ds) := by
  refine ⟨p, rfl, h, s.fresh h, xs, upd_same, r.mono fun a u e n => ⟨?_, ?_⟩⟩
  · rw [upd_ne (ne_of_none e h)]; exact e
  · rintro (z | z)
    · exact n z
    · exact ne_of_none e h z
def szMax : Nat := 100000
theorem sz {n : Nat} (h : n ≤ szMax) : n ≤ sizeLine := Nat.le_trans h (by decide)
theorem sz1 {n : Nat} (h : n < szMax) : n < sizeLine := Nat.lt_of_lt_of_le h (by decide)
def eTup (f : SA) : SE := fun ρ n => (f ρ n).bind fun ds n1 => Rs.of (if ds.length ≤ szMax then some (.tup ds) else none) n1
def eLst (f : SA) : SE := fun ρ n => (f ρ n).bind fun ds n1 => Rs.of (if ds.length ≤ szMax then some (.lst ds) else none) n1
theorem some_ite {α : Type} {c : Prop} [Decidable c] {x y : α} (h : (if c then some x else none) = some y) : c ∧ x = y := by
  by_cases hc : c
  · rw [if_pos hc] at h; exact ⟨hc, Option.some.inj h⟩
  · rw [if_neg hc] at h; cases h
theorem de_tup {k : Nat} {f : SA} (h : DA X W es f) : DE X W (.Tuple es k pos) (eTup f) := PE.imp (pe_tupS h) fun σ H Q h => by
  refine Go.bind mo_c h fun aT Oc ρ H1 v d n1 s1 r g => ?_
  obtain ⟨z, hz, g⟩ := g.of
  obtain ⟨h1, rfl⟩ := some_ite hz
  exact ⟨sz (by rw [r.length]; exact h1), fun p o hp ho => g _ _ (.new hp) (s1.tw.new hp) (s1.newTup hp ho r)⟩
theorem df_lst {f : SA} (h : DA X W es f) : DF X W (.List es pos) (eLst f) := PE.imp (pe_lst h) fun σ H Q h => by
  refine Go.bind mo_f h fun aT Oc ρ H1 v d n1 s1 r g => ?_
  obtain ⟨z, hz, g⟩ := g.of
  obtain ⟨h1, rfl⟩ := some_ite hz
  exact ⟨sz (by rw [r.length]; exact h1), fun p hp => g _ _ (.new hp) (s1.tw.new hp) (s1.newLst hp r)⟩
end
end DL

set_option Elab.async false
set_option linter.all false
set_option maxRecDepth 100000
set_option maxHeartbeats 4000000
namespace DL
open PySem PySem.Spec PyProof.Rows L2

theorem no_some {α : Type} {z : α} (h : (none : Option α) = some z) : False := nomatch h
/-! ### data as the kit's -/
mutual
def D.toPy : D → PyData
  | .non => .none
  | .bl b => .bool b
  | .int i => .int i
  | .str x => .str x
  | .tup xs => .tuple (toPys xs)
  | .lst xs => .list (toPys xs)
  | .scr ns => .list (ns.map .int)
  | .dct _ => .none
  | .trn _ => .none
  | .cnt => .none
  | .rcd _ _ => .none
def toPys : List D → List PyData
  | [] => []
  | x :: xs => x.toPy :: toPys xs
end
mutual
/-- plain data, at most k deep -/
def D.pl : Nat → D → Bool
  | _, .non => true
  | _, .bl _ => true
  | _, .int _ => true
  | _, .str x => PyData.strOk x
  | k, .tup xs => decide (0 < k) && plAll (k - 1) xs
  | k, .lst xs => decide (0 < k) && plAll (k - 1) xs
  | k, .scr _ => decide (0 < k)
  | _, .dct _ => false
  | _, .trn _ => false
  | _, .cnt => false
  | _, .rcd _ _ => false
def plAll : Nat → List D → Bool
  | _, [] => true
  | k, x :: xs => D.pl k x && plAll k xs
end
theorem layInts : ∀ ns : List Int, PyData.canLayAll0 (ns.map .int) = true
  | [] => rfl
  | n :: r => by simp [PyData.canLayAll0, PyData.canLay0, layInts r]
theorem depInts : ∀ ns : List Int, PyData.depthAll (ns.map .int) = 0
  | [] => rfl
  | n :: r => by simp [PyData.depthAll, PyData.depth, depInts r]
mutual
theorem D.pl_lay : ∀ (d : D) (k : Nat), d.pl k = true → d.toPy.canLay0 = true ∧ d.toPy.depth ≤ k
  | .non, _, _ => by simp [D.toPy, PyData.canLay0, PyData.depth]
  | .bl _, _, _ => by simp [D.toPy, PyData.canLay0, PyData.depth]
  | .int _, _, _ => by simp [D.toPy, PyData.canLay0, PyData.depth]
  | .str x, _, h => by
    have h : PyData.strOk x = true := by simpa [D.pl] using h
    simp [D.toPy, PyData.canLay0, PyData.depth, h]
  | .tup xs, k, h => by
    simp only [D.pl, Bool.and_eq_true, decide_eq_true_eq] at h
    have := plAll_lay xs (k - 1) h.2
    simp only [D.toPy, PyData.canLay0, PyData.depth]
    exact ⟨this.1, by omega⟩
  | .lst xs, k, h => by
    simp only [D.pl, Bool.and_eq_true, decide_eq_true_eq] at h
    have := plAll_lay xs (k - 1) h.2
    simp only [D.toPy, PyData.canLay0, PyData.depth]
    exact ⟨this.1, by omega⟩
  | .scr ns, k, h => by
    simp only [D.pl, decide_eq_true_eq] at h
    simp only [D.toPy, PyData.canLay0, PyData.depth, layInts, depInts]
    exact ⟨trivial, by omega⟩
  | .dct _, _, h => by simp [D.pl] at h
  | .trn _, _, h => by simp [D.pl] at h
  | .cnt, _, h => by simp [D.pl] at h
  | .rcd _ _, _, h => by simp [D.pl] at h
theorem plAll_lay : ∀ (ds : List D) (k : Nat), plAll k ds = true → PyData.canLayAll0 (toPys ds) = true ∧ PyData.depthAll (toPys ds) ≤ k
  | [], _, _ => by simp [toPys, PyData.canLayAll0, PyData.depthAll]
  | d :: ds, k, h => by
    simp only [plAll, Bool.and_eq_true] at h
    have h1 := D.pl_lay d k h.1
    have h2 := plAll_lay ds k h.2
    simp only [toPys, PyData.canLayAll0, PyData.depthAll, h1.1, h2.1, Bool.and_self]
    exact ⟨trivial, by omega⟩
end
theorem D.shaped {d : D} (h : d.pl 60 = true) : SeqAt.shaped d.toPy = true := by
  have := D.pl_lay d 60 h
  show (d.toPy.canLay0 && decide (d.toPy.depth ≤ 64)) = true
  rw [this.1, decide_eq_true (by omega)]; rfl
section
variable {K : PySem.W.Frag} {aT : Addr} {O : Addr → Prop} {H : Hp}
theorem DpAll.ints : ∀ ns : List Int, DpAll K H (ns.map V.int) (ns.map .int)
  | [] => .nil
  | n :: r => .cons (.int n) (DpAll.ints r)
mutual
theorem Rp.dp : ∀ {v : V} {d : D} (k : Nat), Rp K aT O H v d → d.pl k = true → Dp K H v d.toPy
  | _, _, _, .non, _ => .non
  | _, _, _, .bl b, _ => .bl b
  | _, _, _, .int i, _ => .int i
  | _, _, _, .str x, _ => .str x
  | _, _, k, .tup h r, q => by
    simp only [D.pl, Bool.and_eq_true] at q
    exact .tup h.sq (Rps.dp (k - 1) r q.2)
  | _, _, k, .lst h _ r, q => by
    simp only [D.pl, Bool.and_eq_true] at q
    exact .lst (SqL.of h) (Rps.dp (k - 1) r q.2)
  | _, _, _, .dct _ _ _, q => by simp [D.pl] at q
  | _, _, _, .trn _ _ _, q => by simp [D.pl] at q
  | _, _, _, .cnt, q => by simp [D.pl] at q
  | _, _, _, .scr h, _ => .lst h.sq (DpAll.ints _)
theorem Rps.dp : ∀ {v : List V} {d : List D} (k : Nat), Rps K aT O H v d → plAll k d = true → DpAll K H v (toPys d)
  | _, _, _, .nil, _ => .nil
  | _, _, k, .cons a b, q => by
    simp only [plAll, Bool.and_eq_true] at q
    exact .cons (Rp.dp k a q.1) (Rps.dp k b q.2)
end
theorem Rb.dp {v : V} {d : D} {k : Nat} (r : Rb K aT O H v d) (q : d.pl k = true) : Dp K H v d.toPy := by
  rcases r with r | ⟨a, rfl, o, _⟩
  · exact r.dp k q
  · cases d <;> try exact o.elim
    · obtain ⟨xs, e, r⟩ := o
      simp only [D.pl, Bool.and_eq_true] at q
      exact .lst (SqL.of e) (Rps.dp (k - 1) r q.2)
    · simp [D.pl] at q
/-- a list that is looked at -/
theorem Rb.lst {v : V} {ds : List D} (r : Rb K aT O H v (.lst ds)) : ∃ a xs, v = .ref a ∧ H a = some (.lst xs) ∧ Rps K aT O H xs ds := by
  rcases r with r | ⟨a, rfl, o, _⟩
  · cases r with
    | lst h n r => exact ⟨_, _, rfl, h, r⟩
  · obtain ⟨xs, e, r⟩ := o
    exact ⟨a, xs, rfl, e, r⟩
theorem Rb.dct {v : V} {ds : List (Key × D)} (r : Rb K aT O H v (.dct ds)) : ∃ a xs, v = .ref a ∧ H a = some (.dK xs) ∧ Rpk K aT O H xs ds := by
  rcases r with r | ⟨a, rfl, o, _⟩
  · cases r with
    | dct h n r => exact ⟨_, _, rfl, h, r⟩
  · obtain ⟨xs, e, r⟩ := o
    exact ⟨a, xs, rfl, e, r⟩
theorem Rb.tup {v : V} {ds : List D} (r : Rb K aT O H v (.tup ds)) : ∃ a xs, v = .ref a ∧ TupO K O H a xs ∧ Rps K aT O H xs ds := by
  rcases r with r | ⟨a, rfl, o, _⟩
  · cases r with
    | tup h r => exact ⟨_, _, rfl, h, r⟩
  · exact o.elim
theorem Rb.int {v : V} {i : Int} (r : Rb K aT O H v (.int i)) : v = .int i := by
  rcases r with r | ⟨a, rfl, o, _⟩
  · cases r; rfl
  · exact o.elim
theorem Rb.bl {v : V} {i : Bool} (r : Rb K aT O H v (.bl i)) : v = .bl i := by
  rcases r with r | ⟨a, rfl, o, _⟩
  · cases r; rfl
  · exact o.elim
theorem Rb.str {v : V} {i : Str} (r : Rb K aT O H v (.str i)) : v = .str i := by
  rcases r with r | ⟨a, rfl, o, _⟩
  · cases r; rfl
  · exact o.elim
theorem Rb.non {v : V} (r : Rb K aT O H v .non) : v = .non := by
  rcases r with r | ⟨a, rfl, o, _⟩
  · cases r; rfl
  · exact o.elim
theorem Rb.cnt {v : V} (r : Rb K aT O H v .cnt) : v = .ref aT := by
  rcases r with r | ⟨a, rfl, o, _⟩
  · cases r; rfl
  · exact o.elim
theorem Rb.scr {v : V} {ns : List Int} (r : Rb K aT O H v (.scr ns)) : ∃ a, v = .ref a ∧ LstO K O H a (ns.map V.int) := by
  rcases r with r | ⟨a, rfl, o, _⟩
  · cases r with
    | scr h => exact ⟨_, rfl, h⟩
  · exact o.elim
end

/-! ### operators -/
def OpD (X : Cx) (sem : Value → Value → Sem Value) (R : Rl V D) (g : D → D → Option D) : Prop :=
  ∃ r : R2, OpR X sem r ∧ ∀ aT Oc σ ρ n H x y d e z (Q : VK), StE X.K aT Oc H σ ρ n → Rb X.K aT (Oo Oc σ ρ) H x d → Rb X.K aT (Oo Oc σ ρ) H y e → g d e = some z →
    (∀ v H', Ex1 aT H H' → Tw aT H' n → R aT (Oo Oc σ ρ) H H' v z → Q v H') → r x y H Q
def eOp (g : D → D → Option D) (fa fb : SE) : SE := fun ρ n => (fa ρ n).bind fun d n1 => (fb ρ n1).bind fun e n2 => Rs.of (g d e) n2
section
variable {X : Cx} {W : WX} {a b c e : Expr} {es : List Expr} {fa fb fc : SE} {pos : Pos}
theorem OpD.or {sem : Value → Value → Sem Value} {R : Rl V D} {g g' : D → D → Option D} (h : OpD X sem R g) (h' : OpD X sem R g') : OpD X sem R (fun d e => (g d e).orElse fun _ => g' d e) := by
  obtain ⟨r, h1, h2⟩ := h
  obtain ⟨r', h1', h2'⟩ := h'
  refine ⟨_, OpR.or h1 h1', fun aT Oc σ ρ n H x y d e z Q s rx ry hz q => ?_⟩
  have hz : (g d e).orElse (fun _ => g' d e) = some z := hz
  cases hg : g d e with
  | some w =>
    rw [hg] at hz
    cases hz
    exact .inl (h2 aT Oc σ ρ n H x y d e _ Q s rx ry hg q)
  | none =>
    rw [hg] at hz
    exact .inr (h2' aT Oc σ ρ n H x y d e _ Q s rx ry hz q)
theorem OpD.rp {sem : Value → Value → Sem Value} {g : D → D → Option D} (h : OpD X sem (RfX X) g) : OpD X sem (RpX X) g := by
  obtain ⟨r, h1, h2⟩ := h
  exact ⟨r, h1, fun aT Oc σ ρ n H x y d e z Q s rx ry hz q => h2 aT Oc σ ρ n H x y d e z Q s rx ry hz fun v H' e t r => q v H' e t r.rp⟩
theorem d_op {R : Rl V D} (mo : Mo R) {op : Operator} {g : D → D → Option D} (ho : OpD X (binaryOp op) R g) (ha : DB X W a fa) (hb : DB X W b fb) : PE X (.BinOp a op b pos) (Go X W R (eOp g fa fb)) := by
  obtain ⟨r, h1, h2⟩ := ho
  refine PE.imp (pe_op h1 ha hb) fun σ H Q h => ?_
  refine Go.bind mo h fun aT Oc ρ H1 v d n1 s1 r g => ?_
  refine GoAt.bind mo s1 g fun H2 u e n2 s2 e2 r2 g2 => ?_
  obtain ⟨z, hz, q⟩ := g2.of
  exact h2 aT Oc σ ρ n2 H2 v u d e z Q s2 (r.step e2 (.inl s1.oT)) r2 hz q
theorem de_op {op : Operator} {g : D → D → Option D} (ho : OpD X (binaryOp op) (RpX X) g) (ha : DB X W a fa) (hb : DB X W b fb) : DE X W (.BinOp a op b pos) (eOp g fa fb) := d_op mo_c ho ha hb
theorem df_op {op : Operator} {g : D → D → Option D} (ho : OpD X (binaryOp op) (RfX X) g) (ha : DB X W a fa) (hb : DB X W b fb) : DF X W (.BinOp a op b pos) (eOp g fa fb) := d_op mo_f ho ha hb

/-! ints -/
def iD (C : Int → Int → Bool) (f : Int → Int → Int) : D → D → Option D
  | .int i, .int j => if C i j = true then some (.int (f i j)) else none
  | _, _ => none
theorem op_iD {sem : Value → Value → Sem Value} {P : Int → Int → Prop} {C : Int → Int → Bool} {f : Int → Int → Int} (h : OpR X sem (rI P fun i j => .int (f i j))) (hc : ∀ i j, C i j = true → P i j) : OpD X sem (RpX X) (iD C f) := by
  refine ⟨_, h, fun aT Oc σ ρ n H x y d e z Q s rx ry hz q => ?_⟩
  cases d <;> cases e <;> try (exact (no_some hz).elim)
  obtain ⟨h1, rfl⟩ := some_ite hz
  have := rx.int
  have := ry.int
  subst x y
  exact ⟨_, _, rfl, rfl, hc _ _ h1, q _ _ .refl s.tw (.int _)⟩
def iD0 (f : Int → Int → Int) : D → D → Option D
  | .int i, .int j => some (.int (f i j))
  | _, _ => none
theorem op_iD0 {sem : Value → Value → Sem Value} {f : Int → Int → Int} (h : OpR X sem (rI0 fun i j => .int (f i j))) : OpD X sem (RpX X) (iD0 f) := by
  refine ⟨_, h, fun aT Oc σ ρ n H x y d e z Q s rx ry hz q => ?_⟩
  cases d <;> cases e <;> try (exact (no_some hz).elim)
  cases hz
  have := rx.int
  have := ry.int
  subst x y
  exact ⟨_, _, rfl, rfl, q _ _ .refl s.tw (.int _)⟩
def strCatD : D → D → Option D
  | .str x, .str y => if x.length + y.length ≤ szMax then some (.str (x ++ y)) else none
  | _, _ => none
theorem op_strCatD : OpD X (binaryOp .Add) (RpX X) strCatD := by
  refine ⟨_, op_add_str, fun aT Oc σ ρ n H x y d e z Q s rx ry hz q => ?_⟩
  cases d <;> cases e <;> try (exact (no_some hz).elim)
  obtain ⟨h1, rfl⟩ := some_ite hz
  have := rx.str
  have := ry.str
  subst x y
  exact ⟨_, _, rfl, rfl, sz h1, q _ _ .refl s.tw (.str _)⟩
def tupCatD : D → D → Option D
  | .tup x, .tup y => if x.length + y.length ≤ szMax then some (.tup (x ++ y)) else none
  | _, _ => none
theorem op_tupCatD : OpD X (binaryOp .Add) (RpX X) tupCatD := by
  refine ⟨_, op_catS, fun aT Oc σ ρ n H x y d e z Q s rx ry hz q => ?_⟩
  cases d <;> cases e <;> try (exact (no_some hz).elim)
  obtain ⟨h1, rfl⟩ := some_ite hz
  obtain ⟨a, xs, rfl, ta, ra⟩ := rx.tup
  obtain ⟨b, ys, rfl, tb, rb⟩ := ry.tup
  refine ⟨a, b, xs, ys, rfl, rfl, ta.sq, tb.sq, sz (by rw [ra.length, rb.length]; exact h1), fun e => ?_, fun _ e => ?_, fun _ _ p o hp ho => ?_⟩
  · subst e
    cases ra
    exact q _ _ .refl s.tw (.tup tb rb)
  · subst e
    cases rb
    rw [List.append_nil] at q
    exact q _ _ .refl s.tw (.tup ta ra)
  · exact q _ _ (.new hp) (s.tw.new hp) (s.newTup hp ho (ra.append rb))
def lstCatD : D → D → Option D
  | .lst x, .lst y => if x.length + y.length ≤ szMax then some (.lst (x ++ y)) else none
  | _, _ => none
theorem op_lstCatD : OpD X (binaryOp .Add) (RfX X) lstCatD := by
  refine ⟨_, op_cat, fun aT Oc σ ρ n H x y d e z Q s rx ry hz q => ?_⟩
  cases d <;> cases e <;> try (exact (no_some hz).elim)
  obtain ⟨h1, rfl⟩ := some_ite hz
  obtain ⟨a, xs, rfl, ta, ra⟩ := rx.lst
  obtain ⟨b, ys, rfl, tb, rb⟩ := ry.lst
  exact ⟨a, b, xs, ys, rfl, rfl, ta, tb, sz (by rw [ra.length, rb.length]; exact h1), fun p hp => q _ _ (.new hp) (s.tw.new hp) (s.newLst hp (ra.append rb))⟩
/-- + -/
def addD : D → D → Option D := fun d e => (iD0 (fun i j => i + j) d e).orElse fun _ => (strCatD d e).orElse fun _ => (tupCatD d e).orElse fun _ => lstCatD d e
theorem op_addD : OpD X (binaryOp .Add) (RpX X) addD := OpD.or (op_iD0 op_add) (OpD.or op_strCatD (OpD.or op_tupCatD op_lstCatD.rp))
def subD : D → D → Option D := iD0 fun i j => i - j
theorem op_subD : OpD X (binaryOp .Sub) (RpX X) subD := op_iD0 op_sub
def cMul (i j : Int) : Bool := decide ((-(2 ^ 64) < i ∧ i < 2 ^ 64) ∨ (-(2 ^ 64) < j ∧ j < 2 ^ 64))
def modD : D → D → Option D := iD (fun _ j => decide (0 < j)) fun i j => i % j
theorem op_modD : OpD X (binaryOp .Mod) (RpX X) modD := op_iD op_mod fun i j h => by simpa using h
def fdivD : D → D → Option D := iD (fun _ j => decide (0 < j ∧ j < 1073741824)) fun i j => i / j
theorem op_fdivD : OpD X (binaryOp .FloorDiv) (RpX X) fdivD := op_iD op_fdiv fun i j h => of_decide_eq_true (p := 0 < j ∧ j < 1073741824) h
def powD : D → D → Option D := iD (fun i j => decide (0 ≤ j ∧ j ≤ 1000000 ∧ i.natAbs < 2 ^ 64)) fun i j => i ^ j.toNat
theorem op_powD : OpD X (binaryOp .Pow) (RpX X) powD := op_iD op_pow fun i j h => of_decide_eq_true (p := 0 ≤ j ∧ j ≤ 1000000 ∧ i.natAbs < 2 ^ 64) h
def lstRepD : D → D → Option D
  | .lst xs, .int k => if (-(2 ^ 63) ≤ k ∧ k < 2 ^ 63) ∧ xs.length * k.toNat ≤ szMax then some (.lst (List.replicate k.toNat xs).flatten) else none
  | _, _ => none
theorem Rps.rep {K : PySem.W.Frag} {aT : Addr} {O : Addr → Prop} {H : Hp} {xs : List V} {ds : List D} (r : Rps K aT O H xs ds) : ∀ k : Nat, Rps K aT O H (List.replicate k xs).flatten (List.replicate k ds).flatten
  | 0 => .nil
  | k + 1 => by
    rw [List.replicate_succ, List.replicate_succ, List.flatten_cons, List.flatten_cons]
    exact r.append (Rps.rep r k)
theorem op_lstRepD : OpD X (binaryOp .Mult) (RfX X) lstRepD := by
  refine ⟨_, op_rep, fun aT Oc σ ρ n H x y d e z Q s rx ry hz q => ?_⟩
  cases d <;> cases e <;> try (exact (no_some hz).elim)
  obtain ⟨h1, rfl⟩ := some_ite hz
  obtain ⟨a, xs, rfl, ta, ra⟩ := rx.lst
  have := ry.int
  subst y
  exact ⟨a, _, xs, rfl, rfl, ta, h1.1.1, h1.1.2, sz (by rw [ra.length]; exact h1.2), fun p hp => q _ _ (.new hp) (s.tw.new hp) (s.newLst hp (ra.rep _))⟩
def tupRepD : D → D → Option D
  | .tup xs, .int k => if (2 ≤ k ∧ k ≤ 1000) ∧ xs ≠ [] ∧ xs.length ≤ 1000 then some (.tup (List.replicate k.toNat xs).flatten) else none
  | _, _ => none
theorem op_tupRepD : OpD X (binaryOp .Mult) (RpX X) tupRepD := by
  refine ⟨_, op_repS, fun aT Oc σ ρ n H x y d e z Q s rx ry hz q => ?_⟩
  cases d <;> cases e <;> try (exact (no_some hz).elim)
  obtain ⟨h1, rfl⟩ := some_ite hz
  obtain ⟨a, xs, rfl, ta, ra⟩ := rx.tup
  have := ry.int
  subst y
  refine ⟨a, _, xs, rfl, rfl, ta.sq, fun z => h1.2.1 ?_, h1.1.1, h1.1.2, by rw [ra.length]; exact h1.2.2, fun p o hp ho => q _ _ (.new hp) (s.tw.new hp) (s.newTup hp ho (ra.rep _))⟩
  subst z
  cases ra
  rfl
def mulD : D → D → Option D := fun d e => (iD cMul (fun i j => i * j) d e).orElse fun _ => (lstRepD d e).orElse fun _ => tupRepD d e
theorem op_mulD : OpD X (binaryOp .Mult) (RpX X) mulD := OpD.or (op_iD op_mul fun i j h => of_decide_eq_true (p := (-(2 ^ 64) < i ∧ i < 2 ^ 64) ∨ (-(2 ^ 64) < j ∧ j < 2 ^ 64)) h) (OpD.or op_lstRepD.rp op_tupRepD)
/-- a minus -/
def eNeg (fa : SE) : SE := fun ρ n => (fa ρ n).bind fun d n1 => match d with
  | .int i => .ok (.int (-i)) n1
  | _ => .no
theorem de_neg (ha : DB X W a fa) : DE X W (.UnaryOp .USub a pos) (eNeg fa) := PE.imp (pe_un un_neg ha) fun σ H Q h => by
  refine Go.bind mo_c h fun aT Oc ρ H1 v d n1 s1 r g => ?_
  cases d <;> try exact g.elim
  have := r.int
  subst v
  exact ⟨_, rfl, g.ok .refl s1.tw (.int _)⟩

/-! ### comparisons -/
def CmD (X : Cx) (op : CmpOp) (g : D → D → Option Bool) : Prop :=
  ∃ r : R2, OpR X (compareOp op) r ∧ ∀ aT O H x y d e z (Q : VK), Rb X.K aT O H x d → Rb X.K aT O H y e → g d e = some z → Q (.bl z) H → r x y H Q
def eCmp (g : D → D → Option Bool) (fa fb : SE) : SE := fun ρ n => (fa ρ n).bind fun d n1 => (fb ρ n1).bind fun e n2 => Rs.of ((g d e).map D.bl) n2
def tCm (g : D → D → Option Bool) (fa fb : SE) : ST := fun ρ n => (fa ρ n).bind fun d n1 => (fb ρ n1).bind fun e n2 => Rs.of (g d e) n2
theorem CmD.or {op : CmpOp} {g g' : D → D → Option Bool} (h : CmD X op g) (h' : CmD X op g') : CmD X op (fun d e => (g d e).orElse fun _ => g' d e) := by
  obtain ⟨r, h1, h2⟩ := h
  obtain ⟨r', h1', h2'⟩ := h'
  refine ⟨_, OpR.or h1 h1', fun aT O H x y d e z Q rx ry hz q => ?_⟩
  have hz : (g d e).orElse (fun _ => g' d e) = some z := hz
  cases hg : g d e with
  | some w =>
    rw [hg] at hz
    cases hz
    exact .inl (h2 aT O H x y d e _ Q rx ry hg q)
  | none =>
    rw [hg] at hz
    exact .inr (h2' aT O H x y d e _ Q rx ry hz q)
theorem de_cmp {op : CmpOp} {g : D → D → Option Bool} (ho : CmD X op g) (ha : DB X W a fa) (hb : DB X W b fb) (hm : behindInMarks op b = false := by rfl) : DE X W (.Compare a [op] [b] pos) (eCmp g fa fb) := by
  obtain ⟨r, h1, h2⟩ := ho
  refine PE.imp (pe_cmpR h1 ha hb hm) fun σ H Q h => ?_
  refine Go.bind mo_c h fun aT Oc ρ H1 v d n1 s1 r g => ?_
  refine GoAt.bind mo_c s1 g fun H2 u e n2 s2 e2 r2 g2 => ?_
  obtain ⟨z, hz, q⟩ := g2.of
  obtain ⟨w, hw, rfl⟩ := Option.map_eq_some_iff.mp hz
  exact h2 aT _ H2 v u d e w Q (r.step e2 (.inl s1.oT)) r2 hw (q _ _ .refl s2.tw (.bl w))
theorem dt_cmp {op : CmpOp} {g : D → D → Option Bool} (ho : CmD X op g) (ha : DB X W a fa) (hb : DB X W b fb) (hm : behindInMarks op b = false := by rfl) : DT X W (.Compare a [op] [b] pos) (tCm g fa fb) := by
  obtain ⟨r, h1, h2⟩ := ho
  refine PT.imp (pt_cmpR h1 ha hb hm) fun σ H Q h => ?_
  refine Go.bind (R' := RtX) mo_c h fun aT Oc ρ H1 v d n1 s1 r g => ?_
  refine GoAt.bind (R' := RtX) mo_c s1 g fun H2 u e n2 s2 e2 r2 g2 => ?_
  obtain ⟨z, hz, q⟩ := g2.of
  exact h2 aT _ H2 v u d e z _ (r.step e2 (.inl s1.oT)) r2 hz ⟨z, rfl, q _ _ .refl s2.tw rfl⟩
/-- a op b op' c -/
def eChain (g g' : D → D → Option Bool) (fa fb fc : SE) : SE := fun ρ n => (fa ρ n).bind fun d n1 => (fb ρ n1).bind fun e n2 => (Rs.of (g d e) n2).bind fun z n2 => if z = true then (fc ρ n2).bind fun k n3 => Rs.of ((g' e k).map D.bl) n3 else .ok (.bl false) n2
theorem de_chain {op op' : CmpOp} {g g' : D → D → Option Bool} (ho : CmD X op g) (ho' : CmD X op' g') (ha : DB X W a fa) (hb : DB X W b fb) (hc : DB X W c fc) (hm : lastMarks [op, op'] [b, c] = false := by with_unfolding_all rfl) : DE X W (.Compare a [op, op'] [b, c] pos) (eChain g g' fa fb fc) := by
  obtain ⟨r, h1, h2⟩ := ho
  obtain ⟨r', h1', h2'⟩ := ho'
  refine PE.imp (pe_chain h1 h1' ha hb hc hm) fun σ H Q h => ?_
  refine Go.bind mo_c h fun aT Oc ρ H1 v d n1 s1 r q1 => ?_
  refine GoAt.bind mo_c s1 q1 fun H2 u e n2 s2 e2 r2 g2 => ?_
  cases hz : g d e with
  | none => rw [hz] at g2; exact g2.elim
  | some z =>
    rw [hz] at g2
    refine h2 aT _ H2 v u d e z _ (r.step e2 (.inl s1.oT)) r2 hz ⟨z, rfl, ?_⟩
    cases z with
    | false =>
      rw [if_neg (by decide)]
      have g3 : GoAt X.mg W (RpX X aT (Oo Oc σ ρ)) aT σ H2 (.ok (D.bl false) n2) Q := g2
      exact g3.ok .refl s2.tw (Rp.bl false)
    | true =>
      rw [if_pos rfl]
      refine GoAt.bind mo_c s2 g2 fun H3 w k n3 s3 e3 r3 g3 => ?_
      obtain ⟨z, hz, q⟩ := g3.of
      obtain ⟨w', hw, rfl⟩ := Option.map_eq_some_iff.mp hz
      exact h2' aT _ H3 u w e k w' Q (r2.step e3 (.inl s1.oT)) r3 hw (q _ _ .refl s3.tw (.bl w'))

def icD (p : Int → Int → Bool) : D → D → Option Bool
  | .int i, .int j => some (p i j)
  | _, _ => none
theorem cm_int {op : CmpOp} {p : Int → Int → Bool} (h : OpR X (compareOp op) (rI0 fun i j => .bl (p i j))) : CmD X op (icD p) := by
  refine ⟨_, h, fun aT O H x y d e z Q rx ry hz q => ?_⟩
  cases d <;> cases e <;> try (exact (no_some hz).elim)
  cases hz
  have := rx.int
  have := ry.int
  subst x y
  exact ⟨_, _, rfl, rfl, q⟩
def intsD : List D → Option (List Int)
  | [] => some []
  | .int i :: r => (intsD r).map (i :: ·)
  | _ :: _ => none
theorem intsD_map : ∀ {ds : List D} {ns : List Int}, intsD ds = some ns → ds = ns.map D.int
  | [], ns, h => by cases h; rfl
  | d :: r, ns, h => by
    cases d <;> try (exact (no_some h).elim)
    obtain ⟨ms, h1, rfl⟩ := Option.map_eq_some_iff.mp (show (intsD r).map _ = some ns from h)
    rw [intsD_map h1]; rfl
@[simp] theorem intsD_of : ∀ ns : List Int, intsD (ns.map D.int) = some ns
  | [] => rfl
  | n :: r => by simp [intsD, intsD_of r]
def tlD : D → D → Option Bool
  | .tup xs, .tup ys => (intsD xs).bind fun ns => (intsD ys).map fun ms => HT.lexLt ns ms
  | _, _ => none
theorem cm_tlt (hu : X.A.units < cLine) : CmD X .Lt tlD := by
  refine ⟨_, op_ltT hu, fun aT O H x y d e z Q rx ry hz q => ?_⟩
  cases d <;> cases e <;> try (exact (no_some hz).elim)
  obtain ⟨ns, h1, h2⟩ := Option.bind_eq_some_iff.mp (show (intsD _).bind _ = _ from hz)
  obtain ⟨ms, h3, rfl⟩ := Option.map_eq_some_iff.mp h2
  obtain ⟨a, xs, rfl, ta, ra⟩ := rx.tup
  obtain ⟨b, ys, rfl, tb, rb⟩ := ry.tup
  rw [intsD_map h1] at ra
  rw [intsD_map h3] at rb
  rw [ra.ints] at ta
  rw [rb.ints] at tb
  exact ⟨a, b, ns, ms, rfl, rfl, ta.sq, tb.sq, q⟩
def ltD : D → D → Option Bool := fun d e => (icD (fun i j => decide (i < j)) d e).orElse fun _ => tlD d e
theorem cm_lt (hu : X.A.units < cLine) : CmD X .Lt ltD := CmD.or (cm_int op_lt) (cm_tlt hu)
def leD : D → D → Option Bool := icD fun i j => decide (i ≤ j)
theorem cm_le : CmD X .LtE leD := cm_int op_le
def gtD : D → D → Option Bool := icD fun i j => decide (j < i)
theorem cm_gt : CmD X .Gt gtD := cm_int op_gt
def geD : D → D → Option Bool := icD fun i j => decide (j ≤ i)
theorem cm_ge : CmD X .GtE geD := cm_int op_ge
def eqD (d e : D) : Option Bool := if d.pl 60 = true ∧ e.pl 60 = true then some (PyData.eqv d.toPy e.toPy) else none
def neD (d e : D) : Option Bool := if d.pl 60 = true ∧ e.pl 60 = true then some (!PyData.eqv d.toPy e.toPy) else none
theorem cm_eq (hu : X.A.units + 64 < cLine) : CmD X .Eq eqD := by
  refine ⟨_, op_eqD hu, fun aT O H x y d e z Q rx ry hz q => ?_⟩
  obtain ⟨h1, rfl⟩ := some_ite hz
  exact ⟨_, _, rx.dp h1.1, ry.dp h1.2, D.shaped h1.1, D.shaped h1.2, q⟩
theorem cm_ne (hu : X.A.units + 64 < cLine) : CmD X .NotEq neD := by
  refine ⟨_, op_neD hu, fun aT O H x y d e z Q rx ry hz q => ?_⟩
  obtain ⟨h1, rfl⟩ := some_ite hz
  exact ⟨_, _, rx.dp h1.1, ry.dp h1.2, D.shaped h1.1, D.shaped h1.2, q⟩
/-! in -/
def rInTD (K : PySem.W.Frag) (neg : Bool) : R2 := fun x y H Q => ∃ d ds, Dp K H x d ∧ Dp K H y (.tuple ds) ∧ SeqAt.shaped d = true ∧ SeqAt.shaped (.tuple ds) = true ∧ Q (.bl (if neg then !(ds.any fun z => PyData.eqv z d) else ds.any fun z => PyData.eqv z d)) H
theorem op_inTD (hu : X.A.units + 65 < cLine) : OpR X (compareOp .In) (rInTD X.K false) := by
  intro pins s σ H x y v u Q I rx ry h
  obtain ⟨d, ds, hd, he, sd, se, q⟩ := h
  obtain ⟨as, r1⟩ := Dp.reads I d x v hd rx
  obtain ⟨bs, r2⟩ := Dp.reads I (.tuple ds) y u he ry
  exact SeqAt.in_tuple_reads r2 r1 (SeqAt.canLay_of_shaped se) (SeqAt.canLay_of_shaped sd) (room_in_shaped sd hu) ⟨.bl _, H, I, rfl, q⟩
theorem op_notInTD (hu : X.A.units + 65 < cLine) : OpR X (compareOp .NotIn) (rInTD X.K true) := by
  intro pins s σ H x y v u Q I rx ry h
  obtain ⟨d, ds, hd, he, sd, se, q⟩ := h
  obtain ⟨as, r1⟩ := Dp.reads I d x v hd rx
  obtain ⟨bs, r2⟩ := Dp.reads I (.tuple ds) y u he ry
  exact SeqAt.notIn_tuple_reads r2 r1 (SeqAt.canLay_of_shaped se) (SeqAt.canLay_of_shaped sd) (room_in_shaped sd hu) ⟨.bl _, H, I, rfl, q⟩
def anyEqv (d : D) (ds : List D) : Bool := (toPys ds).any fun z => PyData.eqv z d.toPy
def inTD (d e : D) : Option Bool := match e with
  | .tup ds => if d.pl 60 = true ∧ (D.tup ds).pl 60 = true then some (anyEqv d ds) else none
  | _ => none
def inLD (d e : D) : Option Bool := match e with
  | .lst ds => if d.pl 60 = true ∧ (D.lst ds).pl 60 = true then some (anyEqv d ds) else none
  | _ => none
theorem cm_inT (hu : X.A.units + 65 < cLine) : CmD X .In inTD := by
  refine ⟨_, op_inTD hu, fun aT O H x y d e z Q rx ry hz q => ?_⟩
  cases e <;> try (exact (no_some hz).elim)
  obtain ⟨h1, rfl⟩ := some_ite hz
  exact ⟨_, _, rx.dp h1.1, ry.dp h1.2, D.shaped h1.1, D.shaped h1.2, q⟩
theorem cm_ninT (hu : X.A.units + 65 < cLine) : CmD X .NotIn (fun d e => (inTD d e).map (!·)) := by
  refine ⟨_, op_notInTD hu, fun aT O H x y d e z Q rx ry hz q => ?_⟩
  obtain ⟨w, hw, rfl⟩ := Option.map_eq_some_iff.mp hz
  cases e <;> try (exact (no_some hw).elim)
  obtain ⟨h1, rfl⟩ := some_ite hw
  exact ⟨_, _, rx.dp h1.1, ry.dp h1.2, D.shaped h1.1, D.shaped h1.2, q⟩
theorem cm_inL (hu : X.A.units + 65 < cLine) : CmD X .In inLD := by
  refine ⟨_, op_inD hu, fun aT O H x y d e z Q rx ry hz q => ?_⟩
  cases e <;> try (exact (no_some hz).elim)
  obtain ⟨h1, rfl⟩ := some_ite hz
  exact ⟨_, _, rx.dp h1.1, ry.dp h1.2, D.shaped h1.1, D.shaped h1.2, q⟩
theorem cm_ninL (hu : X.A.units + 65 < cLine) : CmD X .NotIn (fun d e => (inLD d e).map (!·)) := by
  refine ⟨_, op_notInD hu, fun aT O H x y d e z Q rx ry hz q => ?_⟩
  obtain ⟨w, hw, rfl⟩ := Option.map_eq_some_iff.mp hz
  cases e <;> try (exact (no_some hw).elim)
  obtain ⟨h1, rfl⟩ := some_ite hw
  exact ⟨_, _, rx.dp h1.1, ry.dp h1.2, D.shaped h1.1, D.shaped h1.2, q⟩
def keyD : D → Option Key
  | .int i => some (.inl i)
  | .str x => some (.inr x)
  | _ => none
def valD (kds : List (Key × D)) (k : Key) : Option D := (kds.find? fun kv => decide (kv.1 = k)).map (·.2)
def putD (kds : List (Key × D)) (k : Key) (d : D) : List (Key × D) :=
  if (kds.any fun kv => decide (kv.1 = k)) = true then kds.map (fun kv => if kv.1 = k then (kv.1, d) else kv) else kds ++ [(k, d)]
theorem Rb.key {K : PySem.W.Frag} {aT : Addr} {O : Addr → Prop} {H : Hp} {v : V} {d : D} {k : Key} (r : Rb K aT O H v d) (h : keyD d = some k) : v = kV k := by
  cases d <;> try (exact (no_some h).elim)
  · cases h; exact r.int
  · cases h; exact r.str
theorem Rpk.val {K : PySem.W.Frag} {aT : Addr} {O : Addr → Prop} {H : Hp} (k : Key) : ∀ {kvs : List (Key × V)} {kds : List (Key × D)}, Rpk K aT O H kvs kds → (valD kds k = none ∧ valV kvs k = none) ∨ ∃ d v, valD kds k = some d ∧ valV kvs k = some v ∧ Rp K aT O H v d
  | _, _, .nil => .inl ⟨rfl, rfl⟩
  | _, _, .cons (k := k0) (v := v) (vs := vs) (d := d) (ds := ds) r t => by
    by_cases e : k0 = k
    · right
      refine ⟨d, v, ?_, ?_, r⟩
      · simp [valD, e]
      · exact valV_pos e
    · have h1 : valD ((k0, d) :: ds) k = valD ds k := by simp [valD, e]
      have h2 : valV ((k0, v) :: vs) k = valV vs k := valV_neg e
      rw [h1, h2]
      exact Rpk.val k t
theorem Rpk.any {K : PySem.W.Frag} {aT : Addr} {O : Addr → Prop} {H : Hp} (k : Key) : ∀ {kvs : List (Key × V)} {kds : List (Key × D)}, Rpk K aT O H kvs kds → (kvs.any fun kv => decide (kv.1 = k)) = (kds.any fun kv => decide (kv.1 = k))
  | _, _, .nil => rfl
  | _, _, .cons r t => by simp [Rpk.any k t]
theorem Rpk.length {K : PySem.W.Frag} {aT : Addr} {O : Addr → Prop} {H : Hp} : ∀ {kvs : List (Key × V)} {kds : List (Key × D)}, Rpk K aT O H kvs kds → kvs.length = kds.length
  | _, _, .nil => rfl
  | _, _, .cons r t => by simp [Rpk.length t]
theorem Rpk.app {K : PySem.W.Frag} {aT : Addr} {O : Addr → Prop} {H : Hp} : ∀ {kvs kvs' : List (Key × V)} {kds kds' : List (Key × D)}, Rpk K aT O H kvs kds → Rpk K aT O H kvs' kds' → Rpk K aT O H (kvs ++ kvs') (kds ++ kds')
  | _, _, _, _, .nil, s => s
  | _, _, _, _, .cons r t, s => .cons r (Rpk.app t s)
theorem Rpk.repl {K : PySem.W.Frag} {aT : Addr} {O : Addr → Prop} {H : Hp} {k : Key} {w : V} {e : D} (rw' : Rp K aT O H w e) : ∀ {kvs : List (Key × V)} {kds : List (Key × D)}, Rpk K aT O H kvs kds →
    Rpk K aT O H (kvs.map fun kv => if kv.1 = k then (kv.1, w) else kv) (kds.map fun kv => if kv.1 = k then (kv.1, e) else kv)
  | _, _, .nil => .nil
  | _, _, .cons (k := k0) r t => by
    simp only [List.map_cons]
    by_cases h : k0 = k
    · simp only [h, if_true]; exact .cons rw' (Rpk.repl rw' t)
    · simp only [h, if_false]; exact .cons r (Rpk.repl rw' t)
theorem Rpk.put {K : PySem.W.Frag} {aT : Addr} {O : Addr → Prop} {H : Hp} {k : Key} {v : V} {d : D} {kvs : List (Key × V)} {kds : List (Key × D)} (r : Rpk K aT O H kvs kds) (q : Rp K aT O H v d) : Rpk K aT O H (putK kvs k v) (putD kds k d) := by
  unfold putK putD
  rw [r.any k]
  split
  · exact r.repl q
  · exact r.app (.cons q .nil)
def inDD (d e : D) : Option Bool := match e with
  | .dct kds => (keyD d).map fun k => (valD kds k).isSome
  | _ => none
theorem or_din (hu : X.A.units + 1 < cLine) : OpR X (compareOp .In) (fun y x H Q => ∃ a o, x = .ref a ∧ DGet H a y o ∧ Q (.bl o.isSome) H) := by
  intro pins s σ H x y v u Q I rx ry h
  obtain ⟨a, o, rfl, g, q⟩ := h
  cases ry
  exact d_in hu I g rx fun s' I' => ⟨.bl _, H, I', rfl, q⟩
theorem or_dnin (hu : X.A.units + 1 < cLine) : OpR X (compareOp .NotIn) (fun y x H Q => ∃ a o, x = .ref a ∧ DGet H a y o ∧ Q (.bl (!o.isSome)) H) := by
  intro pins s σ H x y v u Q I rx ry h
  obtain ⟨a, o, rfl, g, q⟩ := h
  cases ry
  exact d_notIn hu I g rx fun s' I' => ⟨.bl _, H, I', rfl, q⟩
theorem Rpk.dget {K : PySem.W.Frag} {aT : Addr} {O : Addr → Prop} {H : Hp} {a : Addr} {kvs : List (Key × V)} {kds : List (Key × D)} (h : H a = some (.dK kvs)) (r : Rpk K aT O H kvs kds) (k : Key) : ∃ o, DGet H a (kV k) o ∧ o.isSome = (valD kds k).isSome := by
  refine ⟨valV kvs k, DGet.k h, ?_⟩
  rcases r.val k with ⟨e1, e2⟩ | ⟨d, v, e1, e2, _⟩ <;> rw [e1, e2] <;> rfl
theorem cm_inD (hu : X.A.units + 1 < cLine) : CmD X .In inDD := by
  refine ⟨_, or_din hu, fun aT O H x y d e z Q rx ry hz q => ?_⟩
  cases e <;> try (exact (no_some hz).elim)
  obtain ⟨k, h1, rfl⟩ := Option.map_eq_some_iff.mp (show (keyD d).map _ = some z from hz)
  obtain ⟨a, xs, rfl, ha, ra⟩ := ry.dct
  have := rx.key h1
  subst x
  obtain ⟨o, h2, h3⟩ := ra.dget ha k
  exact ⟨a, o, rfl, h2, by rw [h3]; exact q⟩
theorem cm_ninD (hu : X.A.units + 1 < cLine) : CmD X .NotIn (fun d e => (inDD d e).map (!·)) := by
  refine ⟨_, or_dnin hu, fun aT O H x y d e z Q rx ry hz q => ?_⟩
  obtain ⟨w, hw, rfl⟩ := Option.map_eq_some_iff.mp hz
  cases e <;> try (exact (no_some hw).elim)
  obtain ⟨k, h1, rfl⟩ := Option.map_eq_some_iff.mp (show (keyD d).map _ = some w from hw)
  obtain ⟨a, xs, rfl, ha, ra⟩ := ry.dct
  have := rx.key h1
  subst x
  obtain ⟨o, h2, h3⟩ := ra.dget ha k
  exact ⟨a, o, rfl, h2, by rw [h3]; exact q⟩
def inSD (d e : D) : Option Bool := match d, e with
  | .str i, .str j => some (!(Builtin.Str.occurrences j i 0 j.length 1).isEmpty)
  | _, _ => none
theorem cm_inS : CmD X .In inSD := by
  refine ⟨_, op_in_str, fun aT O H x y d e z Q rx ry hz q => ?_⟩
  cases d <;> cases e <;> try (exact (no_some hz).elim)
  cases hz
  have := rx.str
  have := ry.str
  subst x y
  exact ⟨_, _, rfl, rfl, q⟩
theorem cm_ninS : CmD X .NotIn (fun d e => (inSD d e).map (!·)) := by
  refine ⟨_, op_notin_str, fun aT O H x y d e z Q rx ry hz q => ?_⟩
  obtain ⟨w, hw, rfl⟩ := Option.map_eq_some_iff.mp hz
  cases d <;> cases e <;> try (exact (no_some hw).elim)
  cases hw
  have := rx.str
  have := ry.str
  subst x y
  exact ⟨_, _, rfl, rfl, q⟩
def inD (d e : D) : Option Bool := (inTD d e).orElse fun _ => (inLD d e).orElse fun _ => (inDD d e).orElse fun _ => inSD d e
def ninD (d e : D) : Option Bool := ((inTD d e).map (!·)).orElse fun _ => ((inLD d e).map (!·)).orElse fun _ => ((inDD d e).map (!·)).orElse fun _ => (inSD d e).map (!·)
theorem cm_in (hu : X.A.units + 65 < cLine) : CmD X .In inD := CmD.or (cm_inT hu) (CmD.or (cm_inL hu) (CmD.or (cm_inD (by omega)) cm_inS))
theorem cm_nin (hu : X.A.units + 65 < cLine) : CmD X .NotIn ninD := CmD.or (cm_ninT hu) (CmD.or (cm_ninL hu) (CmD.or (cm_ninD (by omega)) cm_ninS))
/-! is -/
def isND (d e : D) : Option Bool := match e with
  | .non => match d with
    | .non => some true
    | _ => some false
  | _ => none
theorem Rb.isN {K : PySem.W.Frag} {aT : Addr} {O : Addr → Prop} {H : Hp} {v : V} {d : D} (r : Rb K aT O H v d) : isND d .non = some (decide (v = .non)) := by
  rcases r with r | ⟨a, rfl, o, _⟩
  · cases r <;> rfl
  · cases d <;> first | rfl | exact o.elim
def isBD : D → D → Option Bool
  | .bl a, .bl b => some (decide (a = b))
  | _, _ => none
theorem cm_isN : CmD X .Is isND := by
  refine ⟨_, op_isN, fun aT O H x y d e z Q rx ry hz q => ?_⟩
  cases e <;> try (exact (no_some hz).elim)
  have h := rx.isN
  rw [hz] at h
  have h := Option.some.inj h
  exact ⟨ry.non, by rw [← h]; exact q⟩
theorem cm_isB : CmD X .Is isBD := by
  refine ⟨_, op_isBl, fun aT O H x y d e z Q rx ry hz q => ?_⟩
  cases d <;> cases e <;> try (exact (no_some hz).elim)
  cases hz
  have := rx.bl
  have := ry.bl
  subst x y
  exact ⟨_, _, rfl, rfl, q⟩
theorem cm_notN : CmD X .IsNot (fun d e => (isND d e).map (!·)) := by
  refine ⟨_, op_notN, fun aT O H x y d e z Q rx ry hz q => ?_⟩
  obtain ⟨w, hw, rfl⟩ := Option.map_eq_some_iff.mp hz
  cases e <;> try (exact (no_some hw).elim)
  have h := rx.isN
  rw [hw] at h
  have h := Option.some.inj h
  exact ⟨ry.non, by rw [← h]; exact q⟩
theorem cm_notB : CmD X .IsNot (fun d e => (isBD d e).map (!·)) := by
  refine ⟨_, op_notBl, fun aT O H x y d e z Q rx ry hz q => ?_⟩
  obtain ⟨w, hw, rfl⟩ := Option.map_eq_some_iff.mp hz
  cases d <;> cases e <;> try (exact (no_some hw).elim)
  cases hw
  have := rx.bl
  have := ry.bl
  subst x y
  exact ⟨_, _, rfl, rfl, q⟩
def isD (d e : D) : Option Bool := (isND d e).orElse fun _ => isBD d e
def isnD (d e : D) : Option Bool := ((isND d e).map (!·)).orElse fun _ => (isBD d e).map (!·)
theorem cm_is : CmD X .Is isD := CmD.or cm_isN cm_isB
theorem cm_isn : CmD X .IsNot isnD := CmD.or cm_notN cm_notB

/-! ### tests, and, or, not, if -/
def tOf (f : SE) : ST := fun ρ n => (f ρ n).bind fun d n1 => match d with
  | .bl b => .ok b n1
  | _ => .no
theorem dt_val (h : DB X W e fa) (he : ∀ whole, isTrue e X.env whole = (do let v ← whole; standAt e.pos; holding [v] (truthy v)) := by intro _; rfl) : DT X W e (tOf fa) := PT.imp (pt_val h he) fun σ H Q h => by
  refine Go.bind (R' := RtX) mo_c h fun aT Oc ρ H1 v d n1 s1 r g => ?_
  cases d <;> try exact g.elim
  exact ⟨_, r.bl, g.ok .refl s1.tw rfl⟩
variable {ta tb : ST} {rest : List Expr}
def tAn (ta tb : ST) : ST := fun ρ n => (ta ρ n).bind fun b n1 => if b = true then tb ρ n1 else .ok false n1
def tOrr (ta tb : ST) : ST := fun ρ n => (ta ρ n).bind fun b n1 => if b = true then .ok true n1 else tb ρ n1
def tNo (ta : ST) : ST := fun ρ n => (ta ρ n).bind fun b n1 => .ok (!b) n1
theorem dt_w (h : DW X W e ta) : DT X W e ta := L2.PW.pt h
theorem dw_and1 (h : DT X W a ta) : DW X W (.BoolOp .And [a] pos) ta := pw_and1 h
theorem dw_or1 (h : DT X W a ta) : DW X W (.BoolOp .Or [a] pos) ta := pw_or1 h
theorem dw_and (ha : DT X W a ta) (hb : DW X W (.BoolOp .And (b :: rest) pos) tb) : DW X W (.BoolOp .And (a :: b :: rest) pos) (tAn ta tb) := PW.imp (pw_and ha hb) fun σ H Q h => by
  refine Go.bind (R' := RtX) mo_c h fun aT Oc ρ H1 v d n1 s1 r g => ?_
  subst r
  cases v with
  | true => exact ⟨aT, Oc, ρ, n1, s1, g⟩
  | false => exact GoAt.ok (show GoAt _ _ _ _ _ _ (.ok false n1) _ from g) .refl s1.tw rfl
theorem dw_or (ha : DT X W a ta) (hb : DW X W (.BoolOp .Or (b :: rest) pos) tb) : DW X W (.BoolOp .Or (a :: b :: rest) pos) (tOrr ta tb) := PW.imp (pw_or ha hb) fun σ H Q h => by
  refine Go.bind (R' := RtX) mo_c h fun aT Oc ρ H1 v d n1 s1 r g => ?_
  subst r
  cases v with
  | false => exact ⟨aT, Oc, ρ, n1, s1, g⟩
  | true => exact GoAt.ok (show GoAt _ _ _ _ _ _ (.ok true n1) _ from g) .refl s1.tw rfl
theorem dt_not (ha : DT X W a ta) : DT X W (.UnaryOp .Not a pos) (tNo ta) := PT.imp (pt_not ha) fun σ H Q h => by
  refine Go.bind (R' := RtX) mo_c h fun aT Oc ρ H1 v d n1 s1 r g => ?_
  subst r
  exact g.ok .refl s1.tw rfl
/-- as values -/
def eAnd (fa fb : SE) : SE := fun ρ n => (fa ρ n).bind fun d n1 => match d with
  | .bl true => fb ρ n1
  | .bl false => .ok (.bl false) n1
  | _ => .no
def eOr (fa fb : SE) : SE := fun ρ n => (fa ρ n).bind fun d n1 => match d with
  | .bl true => .ok (.bl true) n1
  | .bl false => fb ρ n1
  | _ => .no
def eNot (fa : SE) : SE := fun ρ n => (fa ρ n).bind fun d n1 => match d with
  | .bl b => .ok (.bl (!b)) n1
  | _ => .no
theorem de_one {op : BoolOp} (h : DE X W a fa) : DE X W (.BoolOp op [a] pos) fa := pe_one h
theorem de_and (ha : DB X W a fa) (hb : DE X W (.BoolOp .And (b :: rest) pos) fb) : DE X W (.BoolOp .And (a :: b :: rest) pos) (eAnd fa fb) := PE.imp (pe_and ha hb) fun σ H Q h => by
  refine Go.bind mo_c h fun aT Oc ρ H1 v d n1 s1 r g => ?_
  cases d <;> try exact g.elim
  rename_i b
  refine ⟨b, r.bl, ?_⟩
  cases b with
  | true => exact ⟨aT, Oc, ρ, n1, s1, g⟩
  | false => exact GoAt.ok (show GoAt X.mg W (RpX X aT (Oo Oc σ ρ)) aT σ H1 (.ok (D.bl false) n1) Q from g) .refl s1.tw (Rp.bl false)
theorem de_or (ha : DB X W a fa) (hb : DE X W (.BoolOp .Or (b :: rest) pos) fb) : DE X W (.BoolOp .Or (a :: b :: rest) pos) (eOr fa fb) := PE.imp (pe_or ha hb) fun σ H Q h => by
  refine Go.bind mo_c h fun aT Oc ρ H1 v d n1 s1 r g => ?_
  cases d <;> try exact g.elim
  rename_i b
  refine ⟨b, r.bl, ?_⟩
  cases b with
  | false => exact ⟨aT, Oc, ρ, n1, s1, g⟩
  | true => exact GoAt.ok (show GoAt X.mg W (RpX X aT (Oo Oc σ ρ)) aT σ H1 (.ok (D.bl true) n1) Q from g) .refl s1.tw (Rp.bl true)
theorem de_not (ha : DB X W a fa) : DE X W (.UnaryOp .Not a pos) (eNot fa) := PE.imp (pe_not ha) fun σ H Q h => by
  refine Go.bind mo_c h fun aT Oc ρ H1 v d n1 s1 r g => ?_
  cases d <;> try exact g.elim
  exact ⟨_, r.bl, g.ok .refl s1.tw (.bl _)⟩
def eIf (t : ST) (fa fb : SE) : SE := fun ρ n => (t ρ n).bind fun b n1 => if b = true then fa ρ n1 else fb ρ n1
theorem d_if {R : Rl V D} (mo : Mo R) (hc : DT X W c ta) (ha : PE X a (Go X W R fa)) (hb : PE X b (Go X W R fb)) : PE X (.IfExp c a b pos) (Go X W R (eIf ta fa fb)) := PE.imp (pe_ifExp hc ha hb) fun σ H Q h => by
  refine Go.bind mo h fun aT Oc ρ H1 v d n1 s1 r g => ?_
  subst r
  cases v with
  | true => exact ⟨aT, Oc, ρ, n1, s1, g⟩
  | false => exact ⟨aT, Oc, ρ, n1, s1, g⟩
theorem de_if (hc : DT X W c ta) (ha : DE X W a fa) (hb : DE X W b fb) : DE X W (.IfExp c a b pos) (eIf ta fa fb) := d_if mo_c hc ha hb
theorem db_if (hc : DT X W c ta) (ha : DB X W a fa) (hb : DB X W b fb) : DB X W (.IfExp c a b pos) (eIf ta fa fb) := d_if mo_c hc ha hb
theorem df_if (hc : DT X W c ta) (ha : DF X W a fa) (hb : DF X W b fb) : DF X W (.IfExp c a b pos) (eIf ta fa fb) := d_if mo_f hc ha hb
end
end DL

set_option Elab.async false
set_option linter.all false
set_option maxRecDepth 100000
set_option maxHeartbeats 4000000
namespace DL
open PySem PySem.Spec PyProof.Rows L2
section
variable {X : Cx} {W : WX} {a b c e : Expr} {es : List Expr} {fa fb fc : SE} {pos : Pos}

/-! ### subscripts -/
def rIxDc : R2 := fun x y H Q => ∃ a v, x = .ref a ∧ DGet H a y (some v) ∧ Q v H
theorem ix_dct (hu : X.A.units + 1 < cLine) : IxR X rIxDc := by
  intro value slice pins s σ H x y v u Q I rx ry h hs
  obtain ⟨a, z, rfl, g, q⟩ := h
  cases rx
  exact tail_any (dict_typeIs I g) PySem.F.slot_dict_getitem.lookup (d_getItem hu I g ry fun w' s3 I3 rw' => ⟨z, H, I3, rw', q⟩) hs
def ixD (d e : D) : Option D := match d with
  | .lst ds => match e with
    | .int i => atI ds i
    | _ => none
  | .tup ds => match e with
    | .int i => atI ds i
    | _ => none
  | .scr ns => match e with
    | .int i => (atI ns i).map D.int
    | _ => none
  | .str x => match e with
    | .int i => if x.length ≤ szMax then (atI x.cps.toList i).map (fun c => D.str ⟨#[c]⟩) else none
    | _ => none
  | .dct kds => (keyD e).bind (valD kds)
  | _ => none
theorem Rps.at {K : PySem.W.Frag} {aT : Addr} {O : Addr → Prop} {H : Hp} {xs : List V} {ds : List D} {i : Int} {d : D} (r : Rps K aT O H xs ds) (h : atI ds i = some d) : ∃ v, atI xs i = some v ∧ Rp K aT O H v d := by
  unfold atI at h ⊢
  rw [r.length]
  obtain ⟨j, h1, h2⟩ := Option.bind_eq_some_iff.mp h
  obtain ⟨v, h3, h4⟩ := r.get h2
  exact ⟨v, by rw [h1]; exact h3, h4⟩
theorem de_ix (hu : X.A.units + 1 < cLine) (ha : DB X W a fa) (hb : DB X W b fb) (hs : PlainIx b := by intro _ _; rfl) : DE X W (.Subscript a b pos) (eOp ixD fa fb) := by
  refine PE.imp (pe_ix (IxR.or ix_list (IxR.or ix_tup (IxR.or ix_str (ix_dct hu)))) ha hb hs) fun σ H Q h => ?_
  refine Go.bind mo_c h fun aT Oc ρ H1 v d n1 s1 r g => ?_
  refine GoAt.bind mo_c s1 g fun H2 u e n2 s2 e2 r2 g2 => ?_
  obtain ⟨z, hz, q⟩ := g2.of
  replace r := r.step e2 (O := Oo Oc σ ρ) (.inl s1.oT)
  clear g g2
  cases d <;> try (exact (no_some hz).elim)
  · rename_i x
    cases e <;> try (exact (no_some hz).elim)
    rename_i i
    have hz : (if x.length ≤ szMax then (atI x.cps.toList i).map (fun c => D.str ⟨#[c]⟩) else none) = some z := hz
    by_cases hl : x.length ≤ szMax
    · rw [if_pos hl] at hz
      obtain ⟨c, h1, rfl⟩ := Option.map_eq_some_iff.mp hz
      exact .inr (.inr (.inl ⟨x, i, c, r.str, r2.int, sz hl, h1, q _ _ .refl s2.tw (.str _)⟩))
    · rw [if_neg hl] at hz; exact (no_some hz).elim
  · cases e <;> try (exact (no_some hz).elim)
    rename_i i
    obtain ⟨p, xs, rfl, hp, rp⟩ := r.tup
    obtain ⟨w, h1, h2⟩ := rp.at (i := i) hz
    exact .inr (.inl ⟨p, xs, i, w, rfl, r2.int, hp.sq, h1, q _ _ .refl s2.tw h2⟩)
  · cases e <;> try (exact (no_some hz).elim)
    rename_i i
    obtain ⟨p, xs, rfl, hp, rp⟩ := r.lst
    obtain ⟨w, h1, h2⟩ := rp.at (i := i) hz
    exact .inl ⟨p, xs, i, w, rfl, r2.int, SqL.of hp, h1, q _ _ .refl s2.tw h2⟩
  · rename_i kds
    obtain ⟨k, h1, h2⟩ := Option.bind_eq_some_iff.mp (show (keyD e).bind _ = some z from hz)
    obtain ⟨p, xs, rfl, hp, rp⟩ := r.dct
    have := r2.key h1
    subst u
    rcases rp.val k with ⟨z1, z2⟩ | ⟨d', v', z1, z2, z3⟩
    · rw [z1] at h2; exact (no_some h2).elim
    · rw [z1] at h2
      cases h2
      exact .inr (.inr (.inr ⟨p, v', rfl, by rw [← z2]; exact DGet.k hp, q _ _ .refl s2.tw z3⟩))
  · rename_i ns
    cases e <;> try (exact (no_some hz).elim)
    rename_i i
    obtain ⟨k, h1, rfl⟩ := Option.map_eq_some_iff.mp (show (atI ns i).map _ = some z from hz)
    obtain ⟨p, rfl, hp⟩ := r.scr
    refine .inl ⟨p, ns.map V.int, i, .int k, rfl, r2.int, hp.sq, ?_, q _ _ .refl s2.tw (.int k)⟩
    unfold atI at h1 ⊢
    rw [List.length_map]
    obtain ⟨j, z1, z2⟩ := Option.bind_eq_some_iff.mp h1
    rw [z1]
    show (ns.map V.int)[j]? = _
    rw [List.getElem?_map, z2]; rfl
/-! slices -/
abbrev SO := Ev → Nat → Rs (Option Int)
abbrev RoX : Rl (Option Int) (Option Int) := fun _ _ _ _ v d => v = d
def DO (X : Cx) (W : WX) (e : Option Expr) (f : SO) : Prop := PO X e (Go X W RoX f)
theorem PO.imp {X : Cx} {e : Option Expr} {t t' : TO} (h : PO X e t) (i : ∀ σ H Q, t' σ H Q → t σ H Q) : PO X e t' := ⟨fun pins s σ H Q I q => h.run pins s σ H Q I (i σ H Q q)⟩
def oNone : SO := fun _ n => .ok none n
def oSome (f : SE) : SO := fun ρ n => (f ρ n).bind fun d n1 => match d with
  | .int i => .ok (some i) n1
  | _ => .no
theorem do_none : DO X W none oNone := PO.imp po_none fun σ H Q h => by
  obtain ⟨aT, Oc, ρ, n, s, h⟩ := h
  exact GoAt.ok (R := RoX aT (Oo Oc σ ρ)) h .refl s.tw rfl
theorem do_some (h : DB X W e fa) : DO X W (some e) (oSome fa) := PO.imp (po_some h) fun σ H Q h => by
  refine Go.bind (R' := RoX) mo_c h fun aT Oc ρ H1 v d n1 s1 r g => ?_
  cases d <;> try exact g.elim
  exact ⟨_, r.int, GoAt.ok (R := RoX aT (Oo Oc σ ρ)) g .refl s1.tw rfl⟩
def cutD (xs : List D) (lo hi : Option Int) : List D := (xs.drop (HT.sIx xs.length 0 lo)).take (HT.sIx xs.length xs.length hi - HT.sIx xs.length 0 lo)
theorem Rps.cut {K : PySem.W.Frag} {aT : Addr} {O : Addr → Prop} {H : Hp} {xs : List V} {ds : List D} (r : Rps K aT O H xs ds) (lo hi : Option Int) : Rps K aT O H (cutV xs lo hi) (cutD ds lo hi) := by
  unfold cutV cutD
  rw [r.length]
  exact (r.drop _).take _
def slD (d : D) (lo hi : Option Int) : Option D := match d with
  | .tup ds => some (.tup (cutD ds lo hi))
  | .lst ds => some (.lst (cutD ds lo hi))
  | .str x => if x.length ≤ szMax then some (.str (Txt.slice x lo hi)) else none
  | _ => none
def eSl (fa : SE) (fl fh : SO) : SE := fun ρ n => (fa ρ n).bind fun d n1 => (fl ρ n1).bind fun lo n2 => (fh ρ n2).bind fun hi n3 => Rs.of (slD d lo hi) n3
theorem cut_whole {ds : List D} {lo hi : Option Int} (h : HT.sIx ds.length 0 lo = 0 ∧ HT.sIx ds.length ds.length hi = ds.length) : cutD ds lo hi = ds := by
  unfold cutD
  rw [h.1, h.2]
  simp
theorem de_sl {lo hi : Option Expr} {fl fh : SO} {p2 : Pos} (ha : DB X W a fa) (hl : DO X W lo fl) (hh : DO X W hi fh) : DE X W (.Subscript a (.Slice lo hi none p2) pos) (eSl fa fl fh) := by
  refine PE.imp (pe_slice (SlR.or sl_list (SlR.or sl_tupS C8.sl_txt)) ha hl hh) fun σ H Q h => ?_
  refine Go.bind mo_c h fun aT Oc ρ H1 v d n1 s1 r g => ?_
  refine GoAt.bind mo_c s1 g fun H2 l l' n2 s2 e2 r2 g2 => ?_
  refine GoAt.bind mo_c s2 g2 fun H3 u u' n3 s3 e3 r3 g3 => ?_
  obtain ⟨z, hz, q⟩ := g3.of
  have r2 : l = l' := r2
  have r3 : u = u' := r3
  subst r2 r3
  replace r := (r.step e2 (O := Oo Oc σ ρ) (.inl s1.oT)).step e3 (.inl s1.oT)
  cases d <;> try (exact (no_some hz).elim)
  · obtain ⟨hl, rfl⟩ := some_ite hz
    exact .inr (.inr ⟨_, r.str, sz hl, q _ _ .refl s3.tw (.str _)⟩)
  · cases hz
    obtain ⟨p, xs, rfl, hp, rp⟩ := r.tup
    refine .inr (.inl ⟨p, xs, rfl, hp.sq, fun hw => ?_, fun _ t o ht ho => q _ _ (.new ht) (s3.tw.new ht) (s3.newTup ht ho (rp.cut l u))⟩)
    rw [rp.length] at hw
    rw [cut_whole hw] at q
    exact q _ _ .refl s3.tw (.tup hp rp)
  · cases hz
    obtain ⟨p, xs, rfl, hp, rp⟩ := r.lst
    exact .inl ⟨p, xs, rfl, SqL.of hp, fun t ht => q _ _ (.new ht) (s3.tw.new ht) (s3.newLst ht (rp.cut l u)).rp⟩

/-! ### built-in calls -/
def CaD (X : Cx) (f : Value) (R : Rl V D) (g : List D → Nat → Option D) : Prop :=
  ∃ r : List V → Hp → VK → Prop, CallR X f r ∧ ∀ aT Oc σ ρ n H vs ds z (Q : VK), StE X.K aT Oc H σ ρ n → Paired (Rb X.K aT (Oo Oc σ ρ) H) vs ds → g ds n = some z →
    (∀ v H', Ex1 aT H H' → Tw aT H' n → R aT (Oo Oc σ ρ) H H' v z → Q v H') → r vs H Q
theorem CaD.or {f : Value} {R : Rl V D} {g g' : List D → Nat → Option D} (h : CaD X f R g) (h' : CaD X f R g') : CaD X f R (fun d n => (g d n).orElse fun _ => g' d n) := by
  obtain ⟨r, h1, h2⟩ := h
  obtain ⟨r', h1', h2'⟩ := h'
  refine ⟨_, CallR.or h1 h1', fun aT Oc σ ρ n H vs ds z Q s rs hz q => ?_⟩
  have hz : (g ds n).orElse (fun _ => g' ds n) = some z := hz
  cases hg : g ds n with
  | some w =>
    rw [hg] at hz
    cases hz
    exact .inl (h2 aT Oc σ ρ n H vs ds _ Q s rs hg q)
  | none =>
    rw [hg] at hz
    exact .inr (h2' aT Oc σ ρ n H vs ds _ Q s rs hz q)
theorem CaD.rp {f : Value} {g : List D → Nat → Option D} (h : CaD X f (RfX X) g) : CaD X f (RpX X) g := by
  obtain ⟨r, h1, h2⟩ := h
  exact ⟨r, h1, fun aT Oc σ ρ n H vs ds z Q s rs hz q => h2 aT Oc σ ρ n H vs ds z Q s rs hz fun v H' e t r => q v H' e t r.rp⟩
def eCa (g : List D → Nat → Option D) (f : SA) : SE := fun ρ n => (f ρ n).bind fun ds n1 => Rs.of (g ds n1) n1
theorem d_callB {R : Rl V D} (mo : Mo R) {id : String} {x : Str} {p : Pos} {g : List D → Nat → Option D} {f : SA} (ho : CaD X (.builtin id) R g) (ha : DQ X W (e :: es) f) (hm : X.mg x = none) (hv : bootBuiltins x = some (.builtin id)) (hg : Gl X x := by rfl) (hn : x ≠ "__name__" := by decide) (hdb : (x == ("__debug__" : Str)) = false := by decide)
    (he : starEach (e :: es) X.env = (false, eval e X.env) :: starEach es X.env := by rfl) (hpl : (backTo pos (starEach es X.env)).any (·.1) = false := by rfl) : PE X (.Call (.Name x p) (e :: es) [] pos) (Go X W R (eCa g f)) := by
  obtain ⟨r, h1, h2⟩ := ho
  refine PE.imp (pe_callB h1 hg hm hv ha hn hdb he hpl) fun σ H Q h => ?_
  refine Go.bind mo h fun aT Oc ρ H1 vs ds n1 s1 rs g => ?_
  obtain ⟨z, hz, q⟩ := g.of
  exact h2 aT Oc σ ρ n1 H1 vs ds z Q s1 rs hz q
theorem d_callTy {R : Rl V D} (mo : Mo R) {T : String} {x : Str} {p : Pos} {g : List D → Nat → Option D} {f : SA} (ho : CaD X (.type T) R g) (ha : DQ X W (e :: es) f) (hm : X.mg x = none) (hv : bootBuiltins x = some (.type T)) (hg : Gl X x := by rfl) (hn : x ≠ "__name__" := by decide) (hdb : (x == ("__debug__" : Str)) = false := by decide)
    (he : starEach (e :: es) X.env = (false, eval e X.env) :: starEach es X.env := by rfl) (hpl : (backTo pos (starEach es X.env)).any (·.1) = false := by rfl) : PE X (.Call (.Name x p) (e :: es) [] pos) (Go X W R (eCa g f)) := by
  obtain ⟨r, h1, h2⟩ := ho
  refine PE.imp (pe_callTy h1 hg hm hv ha hn hdb he hpl) fun σ H Q h => ?_
  refine Go.bind mo h fun aT Oc ρ H1 vs ds n1 s1 rs g => ?_
  obtain ⟨z, hz, q⟩ := g.of
  exact h2 aT Oc σ ρ n1 H1 vs ds z Q s1 rs hz q
theorem Pb.one {K : PySem.W.Frag} {aT : Addr} {O : Addr → Prop} {H : Hp} {vs : List V} {d : D} (r : Paired (Rb K aT O H) vs [d]) : ∃ v, vs = [v] ∧ Rb K aT O H v d := by
  cases r with
  | cons r t => cases t; exact ⟨_, rfl, r⟩
theorem Pb.two {K : PySem.W.Frag} {aT : Addr} {O : Addr → Prop} {H : Hp} {vs : List V} {d e : D} (r : Paired (Rb K aT O H) vs [d, e]) : ∃ v w, vs = [v, w] ∧ Rb K aT O H v d ∧ Rb K aT O H w e := by
  cases r with
  | cons r t =>
    obtain ⟨w, rfl, r2⟩ := Pb.one t
    exact ⟨_, w, rfl, r, r2⟩
/-- a list or tuple, read -/
theorem Rb.seqL {K : PySem.W.Frag} {aT : Addr} {O : Addr → Prop} {H : Hp} {v : V} {ds : List D} (r : Rb K aT O H v (.lst ds)) : ∃ a xs, v = .ref a ∧ SqL K H a xs ∧ Rps K aT O H xs ds := by
  obtain ⟨a, xs, e, h, r⟩ := r.lst
  exact ⟨a, xs, e, SqL.of h, r⟩
def lenD (ds : List D) (n : Nat) : Option D := match ds with
  | [.lst xs] => some (.int xs.length)
  | [.tup xs] => some (.int xs.length)
  | [.scr xs] => some (.int xs.length)
  | [.str x] => if x.length ≤ szMax then some (.int x.length) else none
  | [.cnt] => some (.int n)
  | _ => none
theorem Rpk.ca {α : Type} {β : Type} {x : α} {xs : List α} {P : β} (h : xs = [x]) : True := trivial
theorem ca_len : CaD X (.builtin "len") (RpX X) lenD := by
  refine ⟨_, CallR.or call_len_seq call_len_str, fun aT Oc σ ρ n H vs ds z Q s rs hz q => ?_⟩
  cases ds with
  | nil => exact (no_some hz).elim
  | cons d t =>
    cases t with
    | cons _ _ => cases d <;> exact (no_some hz).elim
    | nil =>
      obtain ⟨v, rfl, r⟩ := Pb.one rs
      cases d <;> try (exact (no_some hz).elim)
      · obtain ⟨hl, rfl⟩ := some_ite hz
        exact .inr ⟨_, by rw [r.str], sz hl, q _ _ .refl s.tw (.int _)⟩
      · cases hz
        obtain ⟨p, xs, rfl, hp, rp⟩ := r.tup
        refine .inl ⟨p, xs, rfl, .inr hp.sq, ?_⟩
        rw [rp.length]
        exact q _ _ .refl s.tw (.int _)
      · cases hz
        obtain ⟨p, xs, rfl, hp, rp⟩ := r.lst
        refine .inl ⟨p, xs, rfl, .inl (SqL.of hp), ?_⟩
        rw [rp.length]
        exact q _ _ .refl s.tw (.int _)
      · cases hz
        have := r.cnt
        subst v
        refine .inl ⟨aT, _, rfl, .inl (SqL.of s.tw.1), ?_⟩
        rw [List.length_replicate]
        exact q _ _ .refl s.tw (.int _)
      · cases hz
        obtain ⟨p, rfl, hp⟩ := r.scr
        refine .inl ⟨p, _, rfl, .inl hp.sq, ?_⟩
        rw [List.length_map]
        exact q _ _ .refl s.tw (.int _)
/-- the one argument, a list of ints; of bools -/
def L1 {α : Type} (sel : List D → Option α) (g : α → Option D) (ds : List D) (_ : Nat) : Option D := match ds with
  | [.lst xs] => (sel xs).bind g
  | _ => none
theorem L1_some {α : Type} {sel : List D → Option α} {g : α → Option D} {ds : List D} {n : Nat} {z : D} (h : L1 sel g ds n = some z) : ∃ xs a, ds = [.lst xs] ∧ sel xs = some a ∧ g a = some z := by
  cases ds with
  | nil => exact (no_some h).elim
  | cons d t =>
    cases t with
    | cons _ _ => cases d <;> exact (no_some h).elim
    | nil =>
      cases d <;> try (exact (no_some h).elim)
      rename_i xs
      obtain ⟨a, h1, h2⟩ := Option.bind_eq_some_iff.mp (show (sel xs).bind g = some z from h)
      exact ⟨xs, a, rfl, h1, h2⟩
def blsD : List D → Option (List Bool)
  | [] => some []
  | .bl i :: r => (blsD r).map (i :: ·)
  | _ :: _ => none
theorem blsD_map : ∀ {ds : List D} {ns : List Bool}, blsD ds = some ns → ds = ns.map D.bl
  | [], ns, h => by cases h; rfl
  | d :: r, ns, h => by
    cases d <;> try (exact (no_some h).elim)
    obtain ⟨ms, h1, rfl⟩ := Option.map_eq_some_iff.mp (show (blsD r).map _ = some ns from h)
    rw [blsD_map h1]; rfl
@[simp] theorem blsD_of : ∀ ns : List Bool, blsD (ns.map D.bl) = some ns
  | [] => rfl
  | n :: r => by simp [blsD, blsD_of r]
theorem ca_all (hc : X.calm = true) : CaD X (.builtin "all") (RpX X) (L1 blsD fun bs => some (.bl (bs.all id))) := by
  refine ⟨_, cr_all hc, fun aT Oc σ ρ n H vs ds z Q s rs hz q => ?_⟩
  obtain ⟨xs, bs, rfl, h1, h2⟩ := L1_some hz
  cases h2
  obtain ⟨v, rfl, r⟩ := Pb.one rs
  obtain ⟨p, ys, rfl, hp, rp⟩ := r.lst
  rw [blsD_map h1] at rp
  rw [rp.bls] at hp
  exact ⟨p, bs, rfl, SqL.of hp, q _ _ .refl s.tw (.bl _)⟩
theorem ca_any (hc : X.calm = true) : CaD X (.builtin "any") (RpX X) (L1 blsD fun bs => some (.bl (bs.any id))) := by
  refine ⟨_, cr_any hc, fun aT Oc σ ρ n H vs ds z Q s rs hz q => ?_⟩
  obtain ⟨xs, bs, rfl, h1, h2⟩ := L1_some hz
  cases h2
  obtain ⟨v, rfl, r⟩ := Pb.one rs
  obtain ⟨p, ys, rfl, hp, rp⟩ := r.lst
  rw [blsD_map h1] at rp
  rw [rp.bls] at hp
  exact ⟨p, bs, rfl, SqL.of hp, q _ _ .refl s.tw (.bl _)⟩
theorem ca_sum (hc : X.calm = true) : CaD X (.builtin "sum") (RpX X) (L1 intsD fun bs => some (.int bs.sum)) := by
  refine ⟨_, cr_sum hc, fun aT Oc σ ρ n H vs ds z Q s rs hz q => ?_⟩
  obtain ⟨xs, bs, rfl, h1, h2⟩ := L1_some hz
  cases h2
  obtain ⟨v, rfl, r⟩ := Pb.one rs
  obtain ⟨p, ys, rfl, hp, rp⟩ := r.lst
  rw [intsD_map h1] at rp
  rw [rp.ints] at hp
  exact ⟨p, bs, rfl, SqL.of hp, q _ _ .refl s.tw (.int _)⟩
def minI : List Int → Option Int
  | [] => none
  | x :: r => some (r.foldl min x)
def maxI : List Int → Option Int
  | [] => none
  | x :: r => some (r.foldl max x)
theorem foldl_min : ∀ (r : List Int) (x : Int), r.foldl min x ≤ x ∧ (∀ y ∈ r, r.foldl min x ≤ y) ∧ (r.foldl min x = x ∨ r.foldl min x ∈ r)
  | [], x => ⟨Int.le_refl _, by simp, .inl rfl⟩
  | y :: r, x => by
    obtain ⟨h1, h2, h3⟩ := foldl_min r (min x y)
    simp only [List.foldl_cons, List.mem_cons]
    refine ⟨by omega, fun z hz => ?_, ?_⟩
    · rcases hz with rfl | hz
      · omega
      · exact h2 z hz
    · rcases h3 with h3 | h3
      · rw [h3]
        rcases Int.le_total x y with h | h
        · left; omega
        · right; left; omega
      · exact .inr (.inr h3)
theorem foldl_max : ∀ (r : List Int) (x : Int), x ≤ r.foldl max x ∧ (∀ y ∈ r, y ≤ r.foldl max x) ∧ (r.foldl max x = x ∨ r.foldl max x ∈ r)
  | [], x => ⟨Int.le_refl _, by simp, .inl rfl⟩
  | y :: r, x => by
    obtain ⟨h1, h2, h3⟩ := foldl_max r (max x y)
    simp only [List.foldl_cons, List.mem_cons]
    refine ⟨by omega, fun z hz => ?_, ?_⟩
    · rcases hz with rfl | hz
      · omega
      · exact h2 z hz
    · rcases h3 with h3 | h3
      · rw [h3]
        rcases Int.le_total x y with h | h
        · right; left; omega
        · left; omega
      · exact .inr (.inr h3)
theorem minI_mem {ns : List Int} {m : Int} (h : minI ns = some m) : m ∈ ns ∧ ∀ y ∈ ns, m ≤ y := by
  cases ns with
  | nil => exact (no_some h).elim
  | cons x r =>
    cases h
    obtain ⟨h1, h2, h3⟩ := foldl_min r x
    refine ⟨?_, fun y hy => ?_⟩
    · rcases h3 with h3 | h3
      · rw [h3]; exact List.mem_cons_self
      · exact List.mem_cons_of_mem _ h3
    · rcases List.mem_cons.mp hy with rfl | hy
      · exact h1
      · exact h2 y hy
theorem maxI_mem {ns : List Int} {m : Int} (h : maxI ns = some m) : m ∈ ns ∧ ∀ y ∈ ns, y ≤ m := by
  cases ns with
  | nil => exact (no_some h).elim
  | cons x r =>
    cases h
    obtain ⟨h1, h2, h3⟩ := foldl_max r x
    refine ⟨?_, fun y hy => ?_⟩
    · rcases h3 with h3 | h3
      · rw [h3]; exact List.mem_cons_self
      · exact List.mem_cons_of_mem _ h3
    · rcases List.mem_cons.mp hy with rfl | hy
      · exact h1
      · exact h2 y hy
theorem pos_of_minI {ns : List Int} {m : Int} (h : m ∈ ns) : 0 < ns.length := by
  cases ns with
  | nil => cases h
  | cons _ _ => simp
theorem ca_minL (hc : X.calm = true) : CaD X (.builtin "min") (RpX X) (L1 intsD fun ns => (minI ns).map D.int) := by
  refine ⟨_, cr_min hc, fun aT Oc σ ρ n H vs ds z Q s rs hz q => ?_⟩
  obtain ⟨xs, ns, rfl, h1, h2⟩ := L1_some hz
  obtain ⟨m, h3, rfl⟩ := Option.map_eq_some_iff.mp h2
  obtain ⟨v, rfl, r⟩ := Pb.one rs
  obtain ⟨p, ys, rfl, hp, rp⟩ := r.lst
  rw [intsD_map h1] at rp
  rw [rp.ints] at hp
  obtain ⟨m1, m2⟩ := minI_mem h3
  refine ⟨p, ns, rfl, SqL.of hp, pos_of_minI m1, fun k k1 k2 => ?_⟩
  have : k = m := Int.le_antisymm (k2 m m1) (m2 k k1)
  subst k
  exact q _ _ .refl s.tw (.int _)
theorem ca_maxL (hc : X.calm = true) : CaD X (.builtin "max") (RpX X) (L1 intsD fun ns => (maxI ns).map D.int) := by
  refine ⟨_, cr_max hc, fun aT Oc σ ρ n H vs ds z Q s rs hz q => ?_⟩
  obtain ⟨xs, ns, rfl, h1, h2⟩ := L1_some hz
  obtain ⟨m, h3, rfl⟩ := Option.map_eq_some_iff.mp h2
  obtain ⟨v, rfl, r⟩ := Pb.one rs
  obtain ⟨p, ys, rfl, hp, rp⟩ := r.lst
  rw [intsD_map h1] at rp
  rw [rp.ints] at hp
  obtain ⟨m1, m2⟩ := maxI_mem h3
  refine ⟨p, ns, rfl, SqL.of hp, pos_of_minI m1, fun k k1 k2 => ?_⟩
  have : k = m := Int.le_antisymm (m2 k k1) (k2 m m1)
  subst k
  exact q _ _ .refl s.tw (.int _)
def I2 (g : Int → Int → Int) (ds : List D) (_ : Nat) : Option D := match ds with
  | [.int i, .int j] => some (.int (g i j))
  | _ => none
theorem I2_some {g : Int → Int → Int} {ds : List D} {n : Nat} {z : D} (h : I2 g ds n = some z) : ∃ i j, ds = [.int i, .int j] ∧ z = .int (g i j) := by
  unfold I2 at h
  split at h
  · exact ⟨_, _, rfl, (Option.some.inj h).symm⟩
  · exact (no_some h).elim
theorem ca_min2 (hc : X.calm = true) : CaD X (.builtin "min") (RpX X) (I2 fun i j => if j < i then j else i) := by
  refine ⟨_, call_min2 hc, fun aT Oc σ ρ n H vs ds z Q s rs hz q => ?_⟩
  obtain ⟨i, j, rfl, rfl⟩ := I2_some hz
  obtain ⟨v, w, rfl, r1, r2⟩ := Pb.two rs
  exact ⟨i, j, by rw [r1.int, r2.int], q _ _ .refl s.tw (.int _)⟩
theorem ca_max2 (hc : X.calm = true) : CaD X (.builtin "max") (RpX X) (I2 fun i j => if j > i then j else i) := by
  refine ⟨_, call_max2 hc, fun aT Oc σ ρ n H vs ds z Q s rs hz q => ?_⟩
  obtain ⟨i, j, rfl, rfl⟩ := I2_some hz
  obtain ⟨v, w, rfl, r1, r2⟩ := Pb.two rs
  exact ⟨i, j, by rw [r1.int, r2.int], q _ _ .refl s.tw (.int _)⟩
def minD (ds : List D) (n : Nat) : Option D := (L1 intsD (fun ns => (minI ns).map D.int) ds n).orElse fun _ => I2 (fun i j => if j < i then j else i) ds n
def maxD (ds : List D) (n : Nat) : Option D := (L1 intsD (fun ns => (maxI ns).map D.int) ds n).orElse fun _ => I2 (fun i j => if j > i then j else i) ds n
theorem ca_min (hc : X.calm = true) : CaD X (.builtin "min") (RpX X) minD := CaD.or (ca_minL hc) (ca_min2 hc)
theorem ca_max (hc : X.calm = true) : CaD X (.builtin "max") (RpX X) maxD := CaD.or (ca_maxL hc) (ca_max2 hc)
/-! list, tuple, int, str -/
def seqD : D → Option (List D)
  | .lst xs => some xs
  | .tup xs => some xs
  | _ => none
theorem Rb.seq {K : PySem.W.Frag} {aT : Addr} {O : Addr → Prop} {H : Hp} {v : V} {d : D} {ds : List D} (r : Rb K aT O H v d) (h : seqD d = some ds) : ∃ a xs, v = .ref a ∧ (SqL K H a xs ∨ SqT K H a xs) ∧ Rps K aT O H xs ds := by
  cases d <;> try (exact (no_some h).elim)
  · cases h
    obtain ⟨p, xs, e, hp, rp⟩ := r.tup
    exact ⟨p, xs, e, .inr hp.sq, rp⟩
  · cases h
    obtain ⟨p, xs, e, hp, rp⟩ := r.lst
    exact ⟨p, xs, e, .inl (SqL.of hp), rp⟩
def listD (ds : List D) (_ : Nat) : Option D := match ds with
  | [d] => (seqD d).map D.lst
  | _ => none
theorem ca_list : CaD X (.type "list") (RfX X) listD := by
  refine ⟨_, call_list_of, fun aT Oc σ ρ n H vs ds z Q s rs hz q => ?_⟩
  unfold listD at hz
  split at hz
  · obtain ⟨xs, h1, rfl⟩ := Option.map_eq_some_iff.mp hz
    obtain ⟨v, rfl, r⟩ := Pb.one rs
    obtain ⟨p, ys, rfl, hp, rp⟩ := r.seq h1
    exact ⟨p, ys, rfl, hp, fun l hl => q _ _ (.new hl) (s.tw.new hl) (s.newLst hl rp)⟩
  · exact (no_some hz).elim
def tupleD (ds : List D) (_ : Nat) : Option D := match ds with
  | [d] => (seqD d).map D.tup
  | _ => none
theorem ca_tuple : CaD X (.type "tuple") (RpX X) tupleD := by
  refine ⟨_, call_tupS, fun aT Oc σ ρ n H vs ds z Q s rs hz q => ?_⟩
  unfold tupleD at hz
  split at hz
  · obtain ⟨xs, h1, rfl⟩ := Option.map_eq_some_iff.mp hz
    obtain ⟨v, rfl, r⟩ := Pb.one rs
    rename_i d
    cases d <;> try (exact (no_some h1).elim)
    · cases h1
      obtain ⟨p, ys, rfl, hp, rp⟩ := r.tup
      exact ⟨p, ys, rfl, .inr ⟨hp.sq, q _ _ .refl s.tw (.tup hp rp)⟩⟩
    · cases h1
      obtain ⟨p, ys, rfl, hp, rp⟩ := r.lst
      exact ⟨p, ys, rfl, .inl ⟨SqL.of hp, fun l o hl ho => q _ _ (.new hl) (s.tw.new hl) (s.newTup hl ho rp)⟩⟩
  · exact (no_some hz).elim
def intD (ds : List D) (_ : Nat) : Option D := match ds with
  | [.int i] => some (.int i)
  | [.bl b] => some (.int (if b then 1 else 0))
  | _ => none
theorem ca_int : CaD X (.type "int") (RpX X) intD := by
  refine ⟨_, call_int1, fun aT Oc σ ρ n H vs ds z Q s rs hz q => ?_⟩
  unfold intD at hz
  split at hz
  · cases hz
    obtain ⟨v, rfl, r⟩ := Pb.one rs
    exact .inl ⟨_, by rw [r.int], q _ _ .refl s.tw (.int _)⟩
  · cases hz
    obtain ⟨v, rfl, r⟩ := Pb.one rs
    exact .inr ⟨_, by rw [r.bl], q _ _ .refl s.tw (.int _)⟩
  · exact (no_some hz).elim
def strD (ds : List D) (_ : Nat) : Option D := match ds with
  | [.int i] => if i.natAbs.log2 < 1920 then some (.str (toString i)) else none
  | _ => none
theorem ca_str : CaD X (.type "str") (RpX X) strD := by
  refine ⟨_, call_str_int, fun aT Oc σ ρ n H vs ds z Q s rs hz q => ?_⟩
  unfold strD at hz
  split at hz
  · obtain ⟨h1, rfl⟩ := some_ite hz
    obtain ⟨v, rfl, r⟩ := Pb.one rs
    exact ⟨_, by rw [r.int], h1, q _ _ .refl s.tw (.str _)⟩
  · exact (no_some hz).elim
end
end DL

set_option Elab.async false
set_option linter.all false
set_option maxRecDepth 100000
set_option maxHeartbeats 4000000
namespace DL
open PySem PySem.Spec PyProof.Rows L2
section
variable {X : Cx} {W : WX} {a b c e : Expr} {es : List Expr} {fa fb fc : SE} {pos : Pos}

/-! ### isinstance -/
def tyD : D → String
  | .non => "NoneType"
  | .bl _ => "bool"
  | .int _ => "int"
  | .str _ => "str"
  | .tup _ => "tuple"
  | .lst _ => "list"
  | .scr _ => "list"
  | .cnt => "list"
  | .dct _ => "dict"
  | .trn _ => "tuple"
  | .rcd _ _ => "Town"
def isiD (T : String) (d : D) : Bool := (tyD d == T) || (tyD d == "bool" && T == "int")
/-- the built-in types of the programs -/
def KitT (K : PySem.W.Frag) (T : String) : Prop := (∀ d : D, d.isR = false → PySem.W.kitOne K (.type (tyD d)) (.type T) = some (isiD T d)) ∧ ∀ C, TwK K C → PySem.W.kitOne K (.ref C) (.type T) = some (isiD T (.rcd .non .non))
theorem kit_int (K : PySem.W.Frag) : KitT K "int" := ⟨fun d h => (by cases d <;> first | rfl | cases h), fun C t => t.ki⟩
theorem kit_bool (K : PySem.W.Frag) : KitT K "bool" := ⟨fun d h => (by cases d <;> first | rfl | cases h), fun C t => t.kb⟩
theorem kit_str (K : PySem.W.Frag) : KitT K "str" := ⟨fun d h => (by cases d <;> first | rfl | cases h), fun C t => t.ks⟩
theorem kit_tuple (K : PySem.W.Frag) : KitT K "tuple" := ⟨fun d h => (by cases d <;> first | rfl | cases h), fun C t => t.kt⟩
theorem StE.ty {aT : Addr} {Oc : Addr → Prop} {H : Hp} {σ : St} {ρ : Ev} {n : Nat} (s : StE X.K aT Oc H σ ρ n) {v : V} {d : D} (r : Rb X.K aT (Oo Oc σ ρ) H v d) (hR : d.isR = false) : TyX X.K H v (.type (tyD d)) := by
  cases d with
  | rcd _ _ => cases hR
  | non => rw [r.non]; exact .base .non
  | bl b => rw [r.bl]; exact .base (.bl b)
  | int i => rw [r.int]; exact .base (.int i)
  | str x => rw [r.str]; exact .base (.str x)
  | tup ds =>
    obtain ⟨p, xs, rfl, hp, _⟩ := r.tup
    rcases hp with ⟨h, _⟩ | ⟨_, o, its, n, h1, h2, _⟩
    · obtain ⟨_, _, h⟩ := h
      exact .fTuple h
    · exact .kTuple h1 h2
  | trn ds =>
    rcases r with r | ⟨_, _, o, _⟩
    · cases r with
      | trn h _ _ => exact .base (.tup h)
    · exact o.elim
  | lst ds =>
    obtain ⟨p, xs, rfl, hp, _⟩ := r.lst
    exact .base (.lst hp)
  | dct ds =>
    obtain ⟨p, xs, rfl, hp, _⟩ := r.dct
    exact .base (.dK hp)
  | cnt =>
    rw [r.cnt]
    exact .base (.lst s.tw.1)
  | scr ns =>
    obtain ⟨p, rfl, hp⟩ := r.scr
    rcases hp with ⟨h | ⟨o, h⟩, _⟩ | ⟨o, _, _, h1, h2, _⟩
    · exact .base (.lst h)
    · exact .base (.frz h)
    · exact .kList h1 h2
def eIsi (T : String) (fa : SE) : SE := fun ρ n => (fa ρ n).bind fun d n1 => .ok (.bl (isiD T d)) n1
theorem de_isi {T : String} {x : Str} {p p2 : Pos} (ha : DB X W a fa) (kt : KitT X.K T) (hm : X.mg "isinstance" = none) (hx : X.mg x = none) (hv : bootBuiltins x = some (.type T)) (hg : Gl X "isinstance" := by rfl) (hgx : Gl X x := by rfl)
    (hb : bootBuiltins "isinstance" = some (.builtin "isinstance") := by rfl) (hn : x ≠ "__name__" := by decide) (hd : (x == ("__debug__" : Str)) = false := by decide)
    (he : starEach [a, .Name x p2] X.env = (false, eval a X.env) :: starEach [.Name x p2] X.env := by rfl) (hpl : (backTo pos (starEach [.Name x p2] X.env)).any (·.1) = false := by rfl) (hs : starEach [.Name x p2] X.env = (false, eval (.Name x p2) X.env) :: starEach [] X.env := by rfl) :
    DE X W (.Call (.Name "isinstance" p) [a, .Name x p2] [] pos) (eIsi T fa) := by
  have hq : PE X (.Name x p2) (tC (.ty T)) := pe_bltn hgx hx hv rfl hn hd
  refine PE.imp (pe_callB call_isi hg hm hb (pa_cons ha (pa_cons hq pa_nil hs) he) (by decide) (by decide) he hpl) fun σ H Q h => ?_
  refine Go.bind mo_c h fun aT Oc ρ H1 v d n1 s1 r g => ?_
  cases hR : d.isR with
  | false => exact ⟨v, .ty T, _, _, _, rfl, .ty T, s1.ty r hR, kt.1 d hR, g.ok .refl s1.tw (.bl _)⟩
  | true =>
    cases d <;> try (cases hR; done)
    rename_i c h
    rcases r with r | ⟨_, _, o, _⟩
    · cases r with
      | rcd hr r1 r2 =>
        obtain ⟨C, dx, p, q, t, e, n⟩ := hr
        exact ⟨_, .ty T, _, _, _, rfl, .ty T, .base (.ins e t.cls t.ha t.hn t.htk t.hm), kt.2 C t, g.ok .refl s1.tw (.bl _)⟩
    · exact o.elim

/-! ### sorted -/
def insB {α : Type} (le : α → α → Bool) (x : α) : List α → List α
  | [] => [x]
  | y :: r => if le x y = true then x :: y :: r else y :: insB le x r
def sortB {α : Type} (le : α → α → Bool) : List α → List α
  | [] => []
  | x :: r => insB le x (sortB le r)
theorem insB_perm {α : Type} (le : α → α → Bool) (x : α) : ∀ l : List α, (insB le x l).Perm (x :: l)
  | [] => .refl _
  | y :: r => by
    unfold insB
    split
    · exact .refl _
    · exact ((insB_perm le x r).cons y).trans (.swap x y r)
theorem sortB_perm {α : Type} (le : α → α → Bool) : ∀ l : List α, (sortB le l).Perm l
  | [] => .refl _
  | x :: r => (insB_perm le x _).trans ((sortB_perm le r).cons x)
theorem insB_sorted {α : Type} {le : α → α → Bool} (tot : ∀ a b, le a b = true ∨ le b a = true) (tr : ∀ a b c, le a b = true → le b c = true → le a c = true) (x : α) : ∀ l : List α, l.Pairwise (fun a b => le a b = true) → (insB le x l).Pairwise (fun a b => le a b = true)
  | [], _ => by simp [insB]
  | y :: r, h => by
    unfold insB
    obtain ⟨h1, h2⟩ := List.pairwise_cons.mp h
    split
    · rename_i hxy
      refine List.pairwise_cons.mpr ⟨fun z hz => ?_, h⟩
      rcases List.mem_cons.mp hz with rfl | hz
      · exact hxy
      · exact tr _ _ _ hxy (h1 z hz)
    · rename_i hxy
      refine List.pairwise_cons.mpr ⟨fun z hz => ?_, insB_sorted tot tr x r h2⟩
      rcases List.mem_cons.mp ((insB_perm le x r).mem_iff.mp hz) with rfl | hz
      · exact (tot y z).resolve_right hxy
      · exact h1 z hz
theorem sortB_sorted {α : Type} {le : α → α → Bool} (tot : ∀ a b, le a b = true ∨ le b a = true) (tr : ∀ a b c, le a b = true → le b c = true → le a c = true) : ∀ l : List α, (sortB le l).Pairwise (fun a b => le a b = true)
  | [] => .nil
  | x :: r => insB_sorted tot tr x _ (sortB_sorted tot tr r)
theorem sorted_uniq {α : Type} {le : α → α → Bool} (anti : ∀ a b, le a b = true → le b a = true → a = b) {l m : List α} (hl : l.Pairwise (fun a b => le a b = true)) (hm : m.Pairwise (fun a b => le a b = true)) (p : l.Perm m) : l = m :=
  p.eq_of_pairwise (fun a b _ _ h1 h2 => anti a b h1 h2) hl hm
def leI (a b : Int) : Bool := decide (a ≤ b)
theorem leI_tot (a b : Int) : leI a b = true ∨ leI b a = true := by simp only [leI, decide_eq_true_eq]; omega
theorem leI_tr (a b c : Int) (h1 : leI a b = true) (h2 : leI b c = true) : leI a c = true := by simp only [leI, decide_eq_true_eq] at *; omega
theorem leI_anti (a b : Int) (h1 : leI a b = true) (h2 : leI b a = true) : a = b := by simp only [leI, decide_eq_true_eq] at *; omega
def sortI : List Int → List Int := sortB leI
theorem sortI_of {ns ms : List Int} (p : ms.Perm ns) (h : ms.Pairwise (· ≤ ·)) : ms = sortI ns :=
  sorted_uniq leI_anti (h.imp fun h => by simpa [leI] using h) (sortB_sorted leI_tot leI_tr ns) (p.trans (sortB_perm leI ns).symm)
theorem ca_sortI : CaD X (.builtin "sorted") (RfX X) (L1 intsD fun ns => some (.lst ((sortI ns).map D.int))) := by
  refine ⟨_, cr_sortedI, fun aT Oc σ ρ n H vs ds z Q s rs hz q => ?_⟩
  obtain ⟨xs, ns, rfl, h1, h2⟩ := L1_some hz
  cases h2
  obtain ⟨v, rfl, r⟩ := Pb.one rs
  obtain ⟨p, ys, rfl, hp, rp⟩ := r.lst
  rw [intsD_map h1] at rp
  rw [rp.ints] at hp
  refine ⟨p, ns, rfl, SqL.of hp, fun ns' t p1 p2 ht => ?_⟩
  rw [sortI_of p1 p2]
  exact q _ _ (.new ht) (s.tw.new ht) (s.newLst ht (Rps.of_ints _))
/-! pairs of ints -/
def pairD : D → Option (Int × Int)
  | .tup [.int i, .int j] => some (i, j)
  | _ => none
def pairsD : List D → Option (List (Int × Int))
  | [] => some []
  | d :: r => (pairD d).bind fun p => (pairsD r).map (p :: ·)
def encP (p : Int × Int) : D := .tup [.int p.1, .int p.2]
theorem pairD_eq {d : D} {p : Int × Int} (h : pairD d = some p) : d = encP p := by
  unfold pairD at h
  split at h
  · cases h; rfl
  · exact (no_some h).elim
theorem pairsD_map : ∀ {ds : List D} {ps : List (Int × Int)}, pairsD ds = some ps → ds = ps.map encP
  | [], ps, h => by cases h; rfl
  | d :: r, ps, h => by
    obtain ⟨p, h1, h2⟩ := Option.bind_eq_some_iff.mp (show (pairD d).bind _ = some ps from h)
    obtain ⟨qs, h3, rfl⟩ := Option.map_eq_some_iff.mp h2
    rw [pairsD_map h3, pairD_eq h1]; rfl
@[simp] theorem pairsD_of : ∀ ps : List (Int × Int), pairsD (ps.map encP) = some ps
  | [] => rfl
  | p :: r => by simp [pairsD, pairsD_of r, pairD, encP]
def leP (a b : Int × Int) : Bool := decide (a.1 < b.1 ∨ (a.1 = b.1 ∧ a.2 ≤ b.2))
theorem leP_tot (a b : Int × Int) : leP a b = true ∨ leP b a = true := by simp only [leP, decide_eq_true_eq]; omega
theorem leP_tr (a b c : Int × Int) (h1 : leP a b = true) (h2 : leP b c = true) : leP a c = true := by simp only [leP, decide_eq_true_eq] at *; omega
theorem leP_anti (a b : Int × Int) (h1 : leP a b = true) (h2 : leP b a = true) : a = b := by
  simp only [leP, decide_eq_true_eq] at *
  exact Prod.ext (by omega) (by omega)
def sortP : List (Int × Int) → List (Int × Int) := sortB leP
theorem Rps.key {K : PySem.W.Frag} {aT : Addr} {O : Addr → Prop} {H : Hp} : ∀ {xs : List V} {ps : List (Int × Int)}, Rps K aT O H xs (ps.map encP) → ∃ k : V → Int × Int, (∀ x ∈ xs, ∃ t, x = V.ref t ∧ SlT H t [.int (k x).1, .int (k x).2] ∧ ¬ O t) ∧ xs.map k = ps := by
  intro xs ps h
  let k : V → Int × Int := fun v => match v with
    | .ref t => match H t with
      | some (.frz _ (.tup [.int i, .int j])) => (i, j)
      | _ => (0, 0)
    | _ => (0, 0)
  refine ⟨k, ?_⟩
  induction ps generalizing xs with
  | nil => cases h; exact ⟨by simp, rfl⟩
  | cons p r ih =>
    cases h with
    | cons h1 h2 =>
      rename_i v vs
      obtain ⟨i1, i2⟩ := ih h2
      have hv : ∃ t, v = V.ref t ∧ SlT H t [.int p.1, .int p.2] ∧ ¬ O t := by
        cases h1 with
        | tup ht hr =>
          cases hr with
          | cons ha hb =>
            cases ha
            cases hb with
            | cons hc hd =>
              cases hc
              cases hd
              rcases ht with ⟨ht, hn⟩ | ⟨⟨ss, hs⟩, _⟩
              · exact ⟨_, rfl, ht, hn⟩
              · cases ss with
                | nil => cases hs
                | cons s ss => cases hs
      obtain ⟨t, rfl, ht, hn⟩ := hv
      have hk : k (.ref t) = p := by
        show (match H t with
          | some (.frz _ (.tup [.int i, .int j])) => (i, j)
          | _ => (0, 0)) = p
        obtain ⟨_, _, h⟩ := ht
        rw [h]
      refine ⟨fun x hx => ?_, ?_⟩
      · rcases List.mem_cons.mp hx with rfl | hx
        · exact ⟨t, rfl, by rw [hk]; exact ht, hn⟩
        · exact i1 x hx
      · rw [List.map_cons, hk, i2]
theorem Rps.unkey {K : PySem.W.Frag} {aT : Addr} {O : Addr → Prop} {H : Hp} {k : V → Int × Int} : ∀ {xs : List V}, (∀ x ∈ xs, ∃ t, x = V.ref t ∧ SlT H t [.int (k x).1, .int (k x).2] ∧ ¬ O t) → Rps K aT O H xs ((xs.map k).map encP)
  | [], _ => .nil
  | x :: r, h => by
    obtain ⟨t, e, ht, hn⟩ := h x List.mem_cons_self
    refine .cons ?_ (Rps.unkey fun y hy => h y (List.mem_cons_of_mem _ hy))
    have : Rp K aT O H (.ref t) (.tup [.int (k x).1, .int (k x).2]) := .tup (.inl ⟨ht, hn⟩) (.cons (.int _) (.cons (.int _) .nil))
    rw [e] at this ⊢
    exact this
theorem ca_sortP : CaD X (.builtin "sorted") (RfX X) (L1 pairsD fun ps => some (.lst ((sortP ps).map encP))) := by
  refine ⟨_, cr_sortedS, fun aT Oc σ ρ n H vs ds z Q s rs hz q => ?_⟩
  obtain ⟨xs, ps, rfl, h1, h2⟩ := L1_some hz
  cases h2
  obtain ⟨v, rfl, r⟩ := Pb.one rs
  obtain ⟨p, ys, rfl, hp, rp⟩ := r.lst
  rw [pairsD_map h1] at rp
  obtain ⟨k, k1, k2⟩ := rp.key
  refine ⟨p, ys, k, rfl, SqL.of hp, fun x hx => ?_, fun zs t z1 z2 ht => ?_⟩
  · obtain ⟨t, e, h, _⟩ := k1 x hx
    exact ⟨t, e, .inl h.rd⟩
  · have e : zs.map k = sortP ps := by
      refine sorted_uniq leP_anti ?_ (sortB_sorted leP_tot leP_tr ps) ?_
      · refine List.pairwise_map.mpr (z1.imp fun {x y} h => ?_)
        have h := SrtO.lexB_no.mp h
        simp only [leP, decide_eq_true_eq]
        omega
      · have := z2.perm.map k
        rw [k2] at this
        exact this.trans (sortB_perm leP ps).symm
    have rr : Rps X.K aT (Oo Oc σ ρ) H zs ((sortP ps).map encP) := by
      rw [← e]
      exact Rps.unkey fun x hx => k1 x (z2.perm.mem_iff.mp hx)
    exact q _ _ (.new ht) (s.tw.new ht) (s.newLst ht rr)
def sortedD (ds : List D) (n : Nat) : Option D := (L1 intsD (fun ns => some (.lst ((sortI ns).map D.int))) ds n).orElse fun _ => L1 pairsD (fun ps => some (.lst ((sortP ps).map encP))) ds n
theorem ca_sorted : CaD X (.builtin "sorted") (RfX X) sortedD := CaD.or ca_sortI ca_sortP

/-! ### defs -/
/-- what a def's answer asks of what follows -/
def SpO (K : PySem.W.Frag) (mg : Str → Option Value) (aT : Addr) (Oc : Addr → Prop) (H : Hp) (Q : VK) (E : XK) : Rs D → Prop
  | .ok d n' => ∀ v H', Ex1 aT H H' → Tw aT H' n' → Rp K aT Oc H' v d → Q v H'
  | .ex c n' => ∃ u, mg c = some u ∧ ∀ H', Ex1 aT H H' → Tw aT H' n' → E u none H'
  | .no => False
  | .amb f => ∀ b, SpO K mg aT Oc H Q E (f b)
def spD (K : PySem.W.Frag) (mg : Str → Option Value) (ar : Nat) (g : List D → Nat → Rs D) : Sp := fun vs H Q E => ∃ (aT : Addr) (Oc : Addr → Prop) (ds : List D) (n : Nat),
  Tw aT H n ∧ Oc aT ∧ (∀ b, Oc b → H b ≠ none) ∧ Rps K aT Oc H vs ds ∧ ds.length = ar ∧ SpO K mg aT Oc H Q E (g ds n)
structure CalD (P : Program) (w : World) (K : PySem.W.Frag) (mg : Str → Option Value) (base : Heap) (k : Nat) (x : Str) (ar : Nat) (g : List D → Nat → Rs D) : Prop where
  ex : ∃ (f : Addr) (fd : FuncData) (ps : List Str), FnOk P w K mg base (L2N.CX P w) k f fd ps (spD K mg ar g) ∧ mg x = some (.ref f) ∧ PySem.W.keepIn K (.ref f) = true ∧ Binds K fd ps []
def eDef (ar : Nat) (g : List D → Nat → Rs D) (f : SA) : SE := fun ρ n => (f ρ n).bind fun ds n1 => if ds.length = ar then g ds n1 else .no
theorem StE.domO {K : PySem.W.Frag} {aT : Addr} {Oc : Addr → Prop} {H : Hp} {σ : St} {ρ : Ev} {n : Nat} (s : StE K aT Oc H σ ρ n) : ∀ b, Oo Oc σ ρ b → H b ≠ none := fun b h z => s.fresh z h
theorem spD_of {ar : Nat} {g : List D → Nat → Rs D} {aT : Addr} {Oc : Addr → Prop} {σ : St} {ρ : Ev} {n : Nat} {H : Hp} {vs : List V} {ds : List D} {Q : VK} (s : StE X.K aT Oc H σ ρ n) (r : Rps X.K aT (Oo Oc σ ρ) H vs ds) (h : GoAt X.mg W (RpX X aT (Oo Oc σ ρ)) aT σ H (if ds.length = ar then g ds n else .no) Q) : spD X.K X.mg ar g vs H Q (WE W σ) := by
  by_cases hl : ds.length = ar
  · rw [if_pos hl] at h
    refine ⟨aT, _, ds, n, s.tw, .inl s.oT, s.domO, r, hl, ?_⟩
    generalize g ds n = r at h ⊢
    induction r with
    | ok d n' => exact h
    | ex c n' => exact h
    | no => exact h
    | amb f ih => exact fun b => ih b (h b)
  · rw [if_neg hl] at h
    exact h.elim
theorem de_call {k j ar : Nat} {x : Str} {g : List D → Nat → Rs D} {f : SA} {p : Pos} (c : CalD X.prog X.w X.K X.mg X.base k x ar g) (hr : Room j X.A) (hk : k ≤ j) (tk : L2N.Takes X W) (ha : DA X W (e :: es) f) (hg : Gl X x := by rfl) (hdb : (x == ("__debug__" : Str)) = false := by decide)
    (he : starEach (e :: es) X.env = (false, eval e X.env) :: starEach es X.env := by rfl) (hpl : (backTo pos (starEach es X.env)).any (·.1) = false := by rfl) : DE X W (.Call (.Name x p) (e :: es) [] pos) (eDef ar g f) := by
  obtain ⟨fa, fd, ps, F, hm, hkp, hb⟩ := c.ex
  refine PE.imp (pe_callS F (hr.mono hk) hg hm hkp hb (fun σ => L2N.passAt tk σ) ha hdb he hpl) fun σ H Q h => ?_
  refine Go.bind mo_c h fun aT Oc ρ H1 vs ds n1 s1 rs g => ?_
  exact spD_of s1 rs g
/-- a def without parameters -/
def eDef0 (g : List D → Nat → Rs D) : SE := fun _ n => (g [] n).bindN .ok
theorem passLN {X : Cx} : Passes (L2N.CX X.prog X.w) X E0 := fun _ _ _ _ _ _ _ h => by
  obtain ⟨_, _, _, _, _, _, _, _, _, _, _, _, z⟩ := h
  exact z.elim
theorem de_call0 {k j : Nat} {x : Str} {g : List D → Nat → Rs D} {p : Pos} (c : CalD X.prog X.w X.K X.mg X.base k x 0 g) (hr : Room j X.A) (hk : k ≤ j) (hg : Gl X x := by rfl) (hdb : (x == ("__debug__" : Str)) = false := by decide) : DE X W (.Call (.Name x p) [] [] pos) (eDef0 g) := by
  obtain ⟨fa, fd, ps, F, hm, hkp, hb⟩ := c.ex
  refine PE.imp (pe_call0 F (hr.mono hk) hg hm hkp hb .nil passLN (hdb := hdb)) fun σ H Q h => ?_
  obtain ⟨aT, Oc, ρ, n, s, h⟩ := h
  refine ⟨aT, Oo Oc σ ρ, [], n, s.tw, .inl s.oT, s.domO, .nil, rfl, ?_⟩
  unfold eDef0 at h
  generalize g [] n = r at h ⊢
  induction r with
  | ok d n' => exact h
  | ex c n' => exact h.elim
  | no => exact h.elim
  | amb f ih => exact fun b => ih b (h b)
end
end DL

set_option Elab.async false
set_option linter.all false
set_option maxRecDepth 100000
set_option maxHeartbeats 4000000
namespace DL
open PySem PySem.Spec PyProof.Rows L2

/-! ### slots set -/
section
variable {K : PySem.W.Frag} {aT : Addr} {Oc : Addr → Prop} {H : Hp} {σ : St} {ρ : Ev} {n : Nat}
theorem sh_ow {x : D} : ∀ d, Sl.sh x ≠ .ow d := fun _ h => by cases h
theorem no_ow : ∀ d, Sl.no ≠ .ow d := fun _ h => by cases h
theorem Oo.set_sub {i : Nat} {w : Option V} {s : Sl} (hs : ∀ d, s ≠ .ow d) {b : Addr} (h : Oo Oc (σ.set i w) (ρ.set i s) b) : Oo Oc σ ρ b := by
  rcases h with h | ⟨j, d, h1, h2⟩
  · exact .inl h
  · refine .inr ⟨j, d, ?_, ?_⟩
    · by_cases e : i = j
      · subst e
        by_cases hl : i < ρ.length
        · rw [List.getElem?_set_self hl] at h1
          exact absurd (Option.some.inj h1) (hs d)
        · rw [List.getElem?_eq_none (by simpa using hl)] at h1
          cases h1
      · rw [List.getElem?_set_ne e] at h1; exact h1
    · by_cases e : i = j
      · subst e
        by_cases hl : i < ρ.length
        · rw [List.getElem?_set_self hl] at h1
          exact absurd (Option.some.inj h1) (hs d)
        · rw [List.getElem?_eq_none (by simpa using hl)] at h1
          cases h1
      · rw [List.getElem?_set_ne e] at h2; exact h2
theorem ad_set {σ : St} {ρ : Ev} (hl : σ.length = ρ.length) (ad : ∀ (i k : Nat) (a : Addr), ρ[i]? = some (.tw k a) → σ[i]? = some (some (.ref a))) {i : Nat} {w : Option V} {z : Sl} (ht : ∀ k a, z = .tw k a → w = some (.ref a)) : ∀ (j k : Nat) (a : Addr), (ρ.set i z)[j]? = some (.tw k a) → (σ.set i w)[j]? = some (some (.ref a)) := fun j k a h => by
  by_cases e : i = j
  · subst e
    by_cases hi : i < ρ.length
    · rw [List.getElem?_set_self hi] at h
      rw [List.getElem?_set_self (by rw [hl]; exact hi), ht k a (Option.some.inj h)]
    · rw [List.getElem?_eq_none (by simpa using hi)] at h
      cases h
  · rw [List.getElem?_set_ne e] at h ⊢
    exact ad j k a h
/-- a slot is set to a thing that is handed on, or forgotten -/
theorem StE.set0 (s : StE K aT Oc H σ ρ n) (i : Nat) (w : Option V) (z : Sl) (hs : ∀ d, z ≠ .ow d) (hz : ∀ d, z = .sh d → ∃ v, w = some v ∧ Rp K aT (Oo Oc σ ρ) H v d) (ht : ∀ k a, z = .tw k a → w = some (.ref a) := by intro _ _ h; cases h) : StE K aT Oc H (σ.set i w) (ρ.set i z) n := by
  have k : Kp (Oo Oc σ ρ) H (Oo Oc (σ.set i w) (ρ.set i z)) H := Kp.anti fun a h => Oo.set_sub hs h
  have nw : ∀ j d, (ρ.set i z)[j]? = some (.ow d) → i ≠ j ∧ ρ[j]? = some (.ow d) := fun j d h => by
    by_cases e : i = j
    · subst e
      by_cases hl : i < ρ.length
      · rw [List.getElem?_set_self hl] at h
        exact absurd (Option.some.inj h) (hs d)
      · rw [List.getElem?_eq_none (by simpa using hl)] at h
        cases h
    · rw [List.getElem?_set_ne e] at h; exact ⟨e, h⟩
  refine ⟨s.tw, s.oT, s.dom, by simp [s.len], fun j d h => ?_, fun j d h => ?_, fun j l d e a h1 h2 h3 h4 => ?_, ad_set s.len s.ad ht⟩
  · by_cases e : i = j
    · subst e
      by_cases hl : i < ρ.length
      · rw [List.getElem?_set_self hl] at h
        obtain ⟨v, rfl, r⟩ := hz d (Option.some.inj h)
        exact ⟨v, List.getElem?_set_self (by rw [s.len]; exact hl), r.mono k⟩
      · rw [List.getElem?_eq_none (by simpa using hl)] at h
        cases h
    · rw [List.getElem?_set_ne e] at h ⊢
      obtain ⟨v, h1, h2⟩ := s.sh j d h
      exact ⟨v, h1, h2.mono k⟩
  · obtain ⟨e, h'⟩ := nw j d h
    rw [List.getElem?_set_ne e]
    obtain ⟨a, h1, h2, h3⟩ := s.ow j d h'
    exact ⟨a, h1, h2, h3.mono k fun u q => q⟩
  · obtain ⟨e1, h1⟩ := nw j d h1
    obtain ⟨e2, h2⟩ := nw l e h2
    rw [List.getElem?_set_ne e1] at h3
    rw [List.getElem?_set_ne e2] at h4
    exact s.inj j l d e a h1 h2 h3 h4
theorem StE.setSh (s : StE K aT Oc H σ ρ n) (i : Nat) {v : V} {d : D} (r : Rp K aT (Oo Oc σ ρ) H v d) : StE K aT Oc H (σ.set i (some v)) (ρ.set i (.sh d)) n :=
  s.set0 i _ _ sh_ow fun d' h => ⟨v, rfl, by cases h; exact r⟩
def wipeE (ρ : Ev) : List Nat → Ev
  | [] => ρ
  | v :: vs => (wipeE ρ vs).set v .no
theorem StE.wipe (s : StE K aT Oc H σ ρ n) : ∀ vs : List Nat, StE K aT Oc H (L2.wipe σ vs) (wipeE ρ vs) n
  | [] => s
  | v :: vs => (StE.wipe s vs).set0 v _ _ no_ow fun d h => by cases h
theorem wipe_get {σ : St} {i : Nat} : ∀ {vs : List Nat}, i ∉ vs → (L2.wipe σ vs)[i]? = σ[i]?
  | [], _ => rfl
  | v :: vs, h => by
    unfold L2.wipe
    rw [List.getElem?_set_ne (fun e => h (by rw [e]; exact List.mem_cons_self))]
    exact wipe_get fun e => h (List.mem_cons_of_mem _ e)
theorem wipeE_get {ρ : Ev} {i : Nat} : ∀ {vs : List Nat}, i ∉ vs → (wipeE ρ vs)[i]? = ρ[i]?
  | [], _ => rfl
  | v :: vs, h => by
    unfold wipeE
    rw [List.getElem?_set_ne (fun e => h (by rw [e]; exact List.mem_cons_self))]
    exact wipeE_get fun e => h (List.mem_cons_of_mem _ e)
theorem wipe_in {σ : St} {i : Nat} : ∀ {vs : List Nat}, i ∈ vs → i < σ.length → (L2.wipe σ vs)[i]? = some none
  | v :: vs, h, hl => by
    unfold L2.wipe
    by_cases e : v = i
    · subst e
      exact List.getElem?_set_self (by rw [wipe_length]; exact hl)
    · rw [List.getElem?_set_ne e]
      rcases List.mem_cons.mp h with z | z
      · exact absurd z.symm e
      · exact wipe_in z hl
theorem wipe_out {σ : St} {i : Nat} {vs : List Nat} (hl : ¬ i < σ.length) : (L2.wipe σ vs)[i]? = none := List.getElem?_eq_none (by rw [wipe_length]; omega)
/-- a wiped slot set is wiped again -/
theorem wipe_set {σ : St} {i : Nat} {w : Option V} {vs : List Nat} (h : i ∈ vs) : L2.wipe (σ.set i w) vs = L2.wipe σ vs := by
  apply List.ext_getElem?
  intro j
  by_cases hj : j ∈ vs
  · by_cases hl : j < σ.length
    · rw [wipe_in hj hl, wipe_in hj (by simpa using hl)]
    · rw [wipe_out hl, wipe_out (by simpa using hl)]
  · rw [wipe_get hj, wipe_get hj, List.getElem?_set_ne (fun e => hj (by rw [← e]; exact h))]
theorem wipe_wipe {σ : St} {vs : List Nat} : L2.wipe (L2.wipe σ vs) vs = L2.wipe σ vs := by
  apply List.ext_getElem?
  intro j
  by_cases hj : j ∈ vs
  · by_cases hl : j < σ.length
    · rw [wipe_in hj hl, wipe_in hj (by rw [wipe_length]; exact hl)]
    · rw [wipe_out hl, wipe_out (by rw [wipe_length]; exact hl)]
  · rw [wipe_get hj]
def notOw : Option Sl → Bool
  | some (.ow _) => false
  | _ => true
theorem notOw_of {s : Option Sl} (h : notOw s = true) (d : D) : s ≠ some (.ow d) := by
  rintro rfl
  cases h
theorem Oo.wipe {vs : List Nat} (hv : ∀ v ∈ vs, notOw ρ[v]? = true) {b : Addr} (h : Oo Oc σ ρ b) : Oo Oc (L2.wipe σ vs) (wipeE ρ vs) b := by
  rcases h with h | ⟨i, d, h1, h2⟩
  · exact .inl h
  · have hi : i ∉ vs := fun z => notOw_of (hv i z) d h1
    exact .inr ⟨i, d, by rw [wipeE_get hi]; exact h1, by rw [wipe_get hi]; exact h2⟩
/-- one more address that is nobody's -/
theorem StE.lock {p : Addr} {o : HO} (s : StE K aT Oc H σ ρ n) (hp : H p = none) : StE K aT (fun b => Oc b ∨ b = p) (upd H p o) σ ρ n := by
  have k : Kp (Oo Oc σ ρ) H (Oo (fun b => Oc b ∨ b = p) σ ρ) (upd H p o) := fun a u e na => by
    have ne : a ≠ p := ne_of_none e hp
    refine ⟨by rw [upd_ne ne]; exact e, ?_⟩
    rintro ((z | z) | z)
    · exact na (.inl z)
    · exact ne z
    · exact na (.inr z)
  refine ⟨s.tw.new hp, .inl s.oT, fun b hb => ?_, s.len, fun i d h => ?_, fun i d h => ?_, s.inj, s.ad⟩
  · rcases hb with hb | rfl
    · by_cases e : b = p
      · rw [e, upd_same]; exact fun q => nomatch q
      · rw [upd_ne e]; exact s.dom b hb
    · rw [upd_same]; exact fun q => nomatch q
  · obtain ⟨v, h1, h2⟩ := s.sh i d h
    exact ⟨v, h1, h2.mono k⟩
  · obtain ⟨a, h1, h2, h3⟩ := s.ow i d h
    have ne : a ≠ p := by
      intro e
      subst e
      cases d <;> try exact h3.elim
      · obtain ⟨xs, q, _⟩ := h3; rw [hp] at q; cases q
      · obtain ⟨xs, q, _⟩ := h3; rw [hp] at q; cases q
    exact ⟨a, h1, fun z => z.elim h2 ne, h3.mono k fun u q => by rw [upd_ne ne]; exact q⟩
end

/-! ### targets -/
def gD (K : PySem.W.Frag) (ix : List Nat) (τ : D → Ev → Option Ev) : TG := fun v σ H Q => ∃ (aT : Addr) (Oc : Addr → Prop) (ρ : Ev) (n : Nat) (d : D) (ρ' : Ev),
  StE K aT Oc H σ ρ n ∧ Rp K aT (Oo Oc σ ρ) H v d ∧ τ d ρ = some ρ' ∧ ∀ σ', StE K aT Oc H σ' ρ' n → (∀ b, Oo Oc σ' ρ' b → Oo Oc σ ρ b) → (σ'.length = σ.length ∧ ∀ j, j ∉ ix → σ'[j]? = σ[j]? ∧ ρ'[j]? = ρ[j]?) → Q σ' H
def DG (X : Cx) (tg : Expr) (ix : List Nat) (τ : D → Ev → Option Ev) : Prop := PG X tg (gD X.K ix τ)
theorem PG.imp {X : Cx} {e : Expr} {t t' : TG} (h : PG X e t) (i : ∀ v σ H Q, t' v σ H Q → t v σ H Q) : PG X e t' := ⟨fun pins s σ H v u Q I r q => h.run pins s σ H v u Q I r (i v σ H Q q)⟩
def gN (i : Nat) : D → Ev → Option Ev := fun d ρ => some (ρ.set i (.sh d))
theorem dg_name {X : Cx} {x : Str} {pos : Pos} (i : Nat) (hN : X.N.Nodup) (hi : X.N[i]? = some x := by rfl) (hx : Loc X.env.scope x := by first | exact Or.inl rfl | exact Or.inr rfl) (hf : X.fn x = true ∨ X.env.scope.names.lookup x = some .local := by first | exact .inl rfl | exact .inr rfl | assumption) : DG X (.Name x pos) [i] (gN i) :=
  PG.imp (pg_name hN hi hx hf) fun v σ H Q h => by
    obtain ⟨aT, Oc, ρ, n, d, ρ', s, r, e, q⟩ := h
    cases e
    exact q _ (s.setSh i r) (fun b h => Oo.set_sub sh_ow h) ⟨by simp, fun j hj => by
      have ne : i ≠ j := fun z => hj (by rw [z]; exact List.mem_cons_self)
      exact ⟨List.getElem?_set_ne ne, List.getElem?_set_ne ne⟩⟩
/-- names in a row -/
def gDs (K : PySem.W.Frag) (ix : List Nat) (τ : List D → Ev → Option Ev) : TGs := fun vs σ H Q => ∃ (aT : Addr) (Oc : Addr → Prop) (ρ : Ev) (n : Nat) (ds : List D) (ρ' : Ev),
  StE K aT Oc H σ ρ n ∧ Rps K aT (Oo Oc σ ρ) H vs ds ∧ τ ds ρ = some ρ' ∧ ∀ σ', StE K aT Oc H σ' ρ' n → (∀ b, Oo Oc σ' ρ' b → Oo Oc σ ρ b) → (σ'.length = σ.length ∧ ∀ j, j ∉ ix → σ'[j]? = σ[j]? ∧ ρ'[j]? = ρ[j]?) → Q σ' H
def DGs (X : Cx) (ts : List Expr) (ix : List Nat) (τ : List D → Ev → Option Ev) : Prop := PGs X ts (gDs X.K ix τ)
theorem PGs.imp {X : Cx} {e : List Expr} {t t' : TGs} (h : PGs X e t) (i : ∀ v σ H Q, t' v σ H Q → t v σ H Q) : PGs X e t' := ⟨fun pins s σ H v u Q I r q => h.run pins s σ H v u Q I r (i v σ H Q q)⟩
def gsNil : List D → Ev → Option Ev := fun ds ρ => match ds with
  | [] => some ρ
  | _ => none
def gsCons (τ : D → Ev → Option Ev) (τs : List D → Ev → Option Ev) : List D → Ev → Option Ev := fun ds ρ => match ds with
  | d :: r => (τ d ρ).bind (τs r)
  | [] => none
theorem dgs_nil {X : Cx} : DGs X [] [] gsNil := PGs.imp pgs_nil fun vs σ H Q h => by
  obtain ⟨aT, Oc, ρ, n, ds, ρ', s, r, e, q⟩ := h
  cases ds with
  | nil => cases e; cases r; exact ⟨rfl, q σ s (fun _ h => h) ⟨rfl, fun _ _ => ⟨rfl, rfl⟩⟩⟩
  | cons _ _ => exact (no_some e).elim
theorem dgs_cons {X : Cx} {e : Expr} {es : List Expr} {ix jx : List Nat} {τ : D → Ev → Option Ev} {τs : List D → Ev → Option Ev} (h1 : DG X e ix τ) (h2 : DGs X es jx τs)
    (hs : (assignEach (e :: es) X.env).map (·.2) = assign e X.env :: (assignEach es X.env).map (·.2) := by rfl) : DGs X (e :: es) (ix ++ jx) (gsCons τ τs) := PGs.imp (pgs_cons h1 h2 hs) fun vs σ H Q h => by
  obtain ⟨aT, Oc, ρ, n, ds, ρ', s, r, e, q⟩ := h
  cases ds with
  | nil => exact (no_some e).elim
  | cons d ds =>
    cases r with
    | cons r1 r2 =>
      obtain ⟨ρ1, e1, e2⟩ := Option.bind_eq_some_iff.mp (show (τ d ρ).bind (τs ds) = some ρ' from e)
      refine ⟨_, _, rfl, aT, Oc, ρ, n, d, ρ1, s, r1, e1, fun σ1 s1 o1 w1 => ?_⟩
      refine ⟨aT, Oc, ρ1, n, ds, ρ', s1, r2.mono (Kp.anti o1), e2, fun σ2 s2 o2 w2 => ?_⟩
      exact q σ2 s2 (fun b h => o1 b (o2 b h)) ⟨w2.1.trans w1.1, fun j hj => by
        have a := w1.2 j fun z => hj (List.mem_append_left _ z)
        have b := w2.2 j fun z => hj (List.mem_append_right _ z)
        exact ⟨b.1.trans a.1, b.2.trans a.2⟩⟩
def gT (τs : List D → Ev → Option Ev) : D → Ev → Option Ev := fun d ρ => match d with
  | .tup ds => τs ds ρ
  | .trn ds => τs ds ρ
  | _ => none
theorem dg_tup {X : Cx} {es : List Expr} {ix : List Nat} {τs : List D → Ev → Option Ev} {k n : Nat} {pos : Pos} (hc : X.calm = true) (h : DGs X es ix τs) (hl : ∀ ds ρ ρ', τs ds ρ = some ρ' → ds.length = n)
    (hn : (assignEach es X.env).length = n := by rfl) (hst : (assignEach es X.env).findIdx? (·.1) = none := by rfl) : DG X (.Tuple es k pos) ix (gT τs) := PG.imp (pg_tup hc h hn hst) fun v σ H Q h => by
  obtain ⟨aT, Oc, ρ, n', d, ρ', s, r, e, q⟩ := h
  cases d <;> try (exact (no_some e).elim)
  all_goals
    rename_i ds
    cases r
  · rename_i ht rt
    exact ⟨_, _, rfl, ht.sq, by rw [rt.length]; exact hl ds ρ ρ' e, aT, Oc, ρ, n', ds, ρ', s, rt, e, q⟩
  · rename_i ht _ rt
    exact ⟨_, _, rfl, SqT.of ht, by rw [rt.length]; exact hl ds ρ ρ' e, aT, Oc, ρ, n', ds, ρ', s, rt, e, q⟩
theorem gs_len0 : ∀ ds ρ ρ', gsNil ds ρ = some ρ' → ds.length = 0 := fun ds ρ ρ' h => by
  cases ds with
  | nil => rfl
  | cons _ _ => exact (no_some h).elim
theorem gs_lenS {τ : D → Ev → Option Ev} {τs : List D → Ev → Option Ev} {n : Nat} (h : ∀ ds ρ ρ', τs ds ρ = some ρ' → ds.length = n) : ∀ ds ρ ρ', gsCons τ τs ds ρ = some ρ' → ds.length = n + 1 := fun ds ρ ρ' q => by
  cases ds with
  | nil => exact (no_some q).elim
  | cons d r =>
    obtain ⟨ρ1, _, e2⟩ := Option.bind_eq_some_iff.mp (show (τ d ρ).bind (τs r) = some ρ' from q)
    rw [List.length_cons, h r ρ1 ρ' e2]

/-! ### what is walked -/
/-- J yields ds as long as L holds -/
def Wk (K : PySem.W.Frag) (aT : Addr) (L : (Addr → Prop) → Hp → Prop) (J : It) (ds : List D) : Prop := ∀ O H, L O H → (∀ b, O b → H b ≠ none) →
  (∀ (i : Nat) d, ds[i]? = some d → J.go i H ∧ ∀ x H', J.yld i H x H' → (∀ b u, H b = some u → H' b = some u) ∧ Rp K aT O H' x d) ∧ ∀ i, ds.length ≤ i → J.stop i H
def LK (O1 : Addr → Prop) (H1 : Hp) : (Addr → Prop) → Hp → Prop := fun O H => Kp O1 H1 O H
def LE (aT : Addr) (O1 : Addr → Prop) (H1 : Hp) : (Addr → Prop) → Hp → Prop := fun O H => Kp O1 H1 O H ∧ Ex1 aT H1 H
abbrev SI := Ev → Nat → Rs (List D)
def Gi (X : Cx) (W : WX) (L : Addr → (Addr → Prop) → Hp → (Addr → Prop) → Hp → Prop) (f : SI) (σ : St) (H : Hp) (R : It → Hp → Prop) : Prop :=
  ∃ (aT : Addr) (Oc : Addr → Prop) (ρ : Ev) (n : Nat), StE X.K aT Oc H σ ρ n ∧ GoAt X.mg W (fun H H1 J ds => Wk X.K aT (L aT (Oo Oc σ ρ) H1) J ds) aT σ H (f ρ n) R
abbrev lk : Addr → (Addr → Prop) → Hp → (Addr → Prop) → Hp → Prop := fun _ O H => LK O H
abbrev le' : Addr → (Addr → Prop) → Hp → (Addr → Prop) → Hp → Prop := fun aT O H => LE aT O H
/-- for a loop; for a comprehension -/
def DI (X : Cx) (W : WX) (tg iter : Expr) (f : SI) : Prop := PI X tg iter (Gi X W lk f)
def DJ (X : Cx) (W : WX) (tg iter : Expr) (f : SI) : Prop := PI X tg iter (Gi X W le' f)
theorem PI.imp {X : Cx} {tg e : Expr} {t t' : TI} (h : PI X tg e t) (i : ∀ σ H R, t' σ H R → t σ H R) : PI X tg e t' := ⟨fun pins s σ H R I q => h.run pins s σ H R I (i σ H R q)⟩
section
variable {X : Cx} {W : WX} {a b c e l tg : Expr} {es : List Expr} {fa fb fc : SE} {pos : Pos}
def iSq (K : PySem.W.Frag) (tl : TE) : TI := fun σ H R => tl σ H fun x H1 => ∃ a, x = .ref a ∧ ((∃ xs, SqL K H1 a xs) ∧ R (Itl K a) H1 ∨ (∃ xs, SqT K H1 a xs) ∧ R (Itt K a) H1)
theorem pi_sq {tl : TE} (hl : PE X l tl) : PI X tg l (iSq X.K tl) := by
  refine ⟨fun pins s σ H R I h => ?_⟩
  refine thn (hl.run pins s σ H _ I h) fun v s1 ⟨x, H1, I1, r1, q1⟩ => ?_
  obtain ⟨a, e, q1⟩ := q1
  subst e
  cases r1
  rcases q1 with ⟨⟨xs, hq⟩, q⟩ | ⟨⟨xs, hq⟩, q⟩
  · obtain ⟨its, rv, p, hz⟩ := I1.list hq
    refine wpAny_pyIter_list p.isList ?_
    refine ⟨s1.heap.objs.size, [s1.heap.objs.size], _, _, H1, rfl, I1.kept (t' := s1.toks) fun b o e => Heap.get?_push_of_some _ e, turn_list a _, ⟨_, Heap.get?_push_size _ rfl, rfl, rfl⟩, fun b hb => ?_, q⟩
    have e : b = s1.heap.objs.size := by simpa using hb
    subst e
    exact I1.fpOk (Nat.le_refl _) (I1.hok.fresh (Nat.le_refl _))
  · obtain ⟨its, rv, p, hz⟩ := I1.tuple hq
    refine wpAny_pyIter_tuple (show s1.heap.IsTuple a its.toArray from p) ?_
    refine ⟨s1.heap.objs.size, [s1.heap.objs.size], _, _, H1, rfl, I1.kept (t' := s1.toks) fun b o e => Heap.get?_push_of_some _ e, turn_tuple a _, ⟨_, Heap.get?_push_size _ rfl, rfl, rfl⟩, fun b hb => ?_, q⟩
    have e : b = s1.heap.objs.size := by simpa using hb
    subst e
    exact I1.fpOk (Nat.le_refl _) (I1.hok.fresh (Nat.le_refl _))
def iSeq (f : SE) : SI := fun ρ n => (f ρ n).bind fun d n1 => Rs.of (seqD d) n1
theorem Rps.getO {K : PySem.W.Frag} {aT : Addr} {O O' : Addr → Prop} {H H' : Hp} {xs : List V} {ds : List D} {i : Nat} {d : D} (r : Rps K aT O H xs ds) (k : Kp O H O' H') (h : ds[i]? = some d) : ∃ v, xs[i]? = some v ∧ Rp K aT O' H' v d := by
  obtain ⟨v, h1, h2⟩ := r.get h
  exact ⟨v, h1, h2.mono k⟩
theorem wk_list {K : PySem.W.Frag} {aT : Addr} {O1 : Addr → Prop} {H1 : Hp} {p : Addr} {xs : List V} {ds : List D} {L : (Addr → Prop) → Hp → Prop} (r : Rps K aT O1 H1 xs ds) (h1 : ∀ O H, L O H → Kp O1 H1 O H) (h2 : ∀ O H, L O H → SqL K H p xs) : Wk K aT L (Itl K p) ds := fun O H hL _ => by
  refine ⟨fun i d hd => ?_, fun i hi => ⟨xs, h2 O H hL, by rw [r.length]; exact hi⟩⟩
  obtain ⟨v, e1, e2⟩ := r.getO (h1 O H hL) hd
  refine ⟨⟨xs, v, h2 O H hL, e1⟩, fun x H' y => ?_⟩
  obtain ⟨rfl, y⟩ := y
  have := (y xs (h2 O _ hL)).symm.trans e1
  cases this
  exact ⟨fun _ _ h => h, e2⟩
theorem wk_tup {K : PySem.W.Frag} {aT : Addr} {O1 : Addr → Prop} {H1 : Hp} {p : Addr} {xs : List V} {ds : List D} {L : (Addr → Prop) → Hp → Prop} (r : Rps K aT O1 H1 xs ds) (h1 : ∀ O H, L O H → Kp O1 H1 O H) (h2 : ∀ O H, L O H → SqT K H p xs) : Wk K aT L (Itt K p) ds := fun O H hL _ => by
  refine ⟨fun i d hd => ?_, fun i hi => ⟨xs, h2 O H hL, by rw [r.length]; exact hi⟩⟩
  obtain ⟨v, e1, e2⟩ := r.getO (h1 O H hL) hd
  refine ⟨⟨xs, v, h2 O H hL, e1⟩, fun x H' y => ?_⟩
  obtain ⟨rfl, y⟩ := y
  have := (y xs (h2 O _ hL)).symm.trans e1
  cases this
  exact ⟨fun _ _ h => h, e2⟩
theorem mo_w {X : Cx} {L : Addr → (Addr → Prop) → Hp → (Addr → Prop) → Hp → Prop} : Mo (fun aT O (_ : Hp) H1 (J : It) (ds : List D) => Wk X.K aT (L aT O H1) J ds) := fun _ _ _ _ _ _ _ _ _ _ r => r
theorem di_seq (h : DE X W l fa) : DI X W tg l (iSeq fa) := PI.imp (pi_sq h) fun σ H R h => by
  refine Go.bind (R' := fun aT O (_ : Hp) H1 (J : It) (ds : List D) => Wk X.K aT (lk aT O H1) J ds) mo_w h fun aT Oc ρ H1 v d n1 s1 r g => ?_
  obtain ⟨ds, hd, q⟩ := g.of
  cases d <;> try (exact (no_some hd).elim)
  · cases hd
    cases r with
    | tup ht rt => exact ⟨_, rfl, .inr ⟨⟨_, ht.sq⟩, q _ _ .refl s1.tw (wk_tup rt (fun O H k => k) fun O H k => (Kp.tup k ht).sq)⟩⟩
  · cases hd
    cases r with
    | lst ht hn rt => exact ⟨_, rfl, .inl ⟨⟨_, SqL.of ht⟩, q _ _ .refl s1.tw (wk_list rt (fun O H k => k) fun O H k => SqL.of (k _ _ ht hn).1)⟩⟩
theorem dj_seq (h : DB X W l fa) : DJ X W tg l (iSeq fa) := PI.imp (pi_sq h) fun σ H R h => by
  refine Go.bind (R' := fun aT O (_ : Hp) H1 (J : It) (ds : List D) => Wk X.K aT (le' aT O H1) J ds) mo_w h fun aT Oc ρ H1 v d n1 s1 r g => ?_
  obtain ⟨ds, hd, q⟩ := g.of
  cases d <;> try (exact (no_some hd).elim)
  · cases hd
    obtain ⟨p, xs, rfl, ht, rt⟩ := r.tup
    exact ⟨_, rfl, .inr ⟨⟨_, ht.sq⟩, q _ _ .refl s1.tw (wk_tup rt (fun O H k => k.1) fun O H k => (Kp.tup k.1 ht).sq)⟩⟩
  · cases hd
    rcases r with r | ⟨p, rfl, o, na⟩
    · cases r with
      | lst ht hn rt => exact ⟨_, rfl, .inl ⟨⟨_, SqL.of ht⟩, q _ _ .refl s1.tw (wk_list rt (fun O H k => k.1) fun O H k => SqL.of (k.1 _ _ ht hn).1)⟩⟩
    · obtain ⟨xs, ht, rt⟩ := o
      exact ⟨_, rfl, .inl ⟨⟨_, SqL.of ht⟩, q _ _ .refl s1.tw (wk_list rt (fun O H k => k.1) fun O H k => SqL.of (k.2 _ _ na ht))⟩⟩
/-! ranges -/
def rangeD (lo : Int) (n : Nat) : List D := (List.range n).map fun k : Nat => D.int (lo + (k : Int))
def rng1 (d : List D) : Option (List D) := match d with
  | [.int j] => if -(2 ^ 62) ≤ j ∧ j < 2 ^ 62 then some (rangeD 0 j.toNat) else none
  | _ => none
def rng2 (d : List D) : Option (List D) := match d with
  | [.int i, .int j] => if -(2 ^ 62) ≤ i ∧ i < 2 ^ 62 ∧ -(2 ^ 62) ≤ j ∧ j < 2 ^ 62 then some (rangeD i (j - i).toNat) else none
  | _ => none
def iRng (g : List D → Option (List D)) (f : SA) : SI := fun ρ n => (f ρ n).bind fun ds n1 => Rs.of (g ds) n1
theorem wk_range {K : PySem.W.Frag} {aT : Addr} {L : (Addr → Prop) → Hp → Prop} (lo : Int) (n : Nat) : Wk K aT L (Itr lo n) (rangeD lo n) := fun O H hL _ => by
  unfold rangeD
  refine ⟨fun i d hd => ?_, fun i hi => show n ≤ i by simpa using hi⟩
  rw [List.getElem?_map] at hd
  obtain ⟨k, h1, rfl⟩ := Option.map_eq_some_iff.mp hd
  obtain ⟨h2, h3⟩ := List.getElem?_eq_some_iff.mp h1
  have hi : i < n := by simpa using h2
  have hk : k = i := by rw [← h3]; simp
  subst hk
  refine ⟨hi, fun x H' y => ?_⟩
  obtain ⟨rfl, rfl⟩ := y
  exact ⟨fun _ _ h => h, .int _⟩
theorem d_range1 {L : Addr → (Addr → Prop) → Hp → (Addr → Prop) → Hp → Prop} {f : SA} {p : Pos} (ha : DQ X W [a] f) (hm : X.mg "range" = none) (hg : Gl X "range" := by rfl) (hs : starEach [a] X.env = [(false, eval a X.env)] := by rfl) : PI X tg (.Call (.Name "range" p) [a] [] pos) (Gi X W L (iRng rng1 f)) := PI.imp (pi_range1 hg hm ha hs) fun σ H R h => by
  refine Go.bind (R' := fun aT O (_ : Hp) H1 (J : It) (ds : List D) => Wk X.K aT (L aT O H1) J ds) mo_w h fun aT Oc ρ H1 vs ds n1 s1 r g => ?_
  obtain ⟨z, hz, q⟩ := g.of
  unfold rng1 at hz
  split at hz
  · obtain ⟨h1, rfl⟩ := some_ite hz
    obtain ⟨v, rfl, r'⟩ := Pb.one r
    exact ⟨_, by rw [r'.int], h1.1, h1.2, q _ _ .refl s1.tw (wk_range _ _)⟩
  · exact (no_some hz).elim
theorem d_range2 {L : Addr → (Addr → Prop) → Hp → (Addr → Prop) → Hp → Prop} {f : SA} {p : Pos} (ha : DQ X W [a, b] f) (hm : X.mg "range" = none) (hg : Gl X "range" := by rfl) (hs : starEach [a, b] X.env = [(false, eval a X.env), (false, eval b X.env)] := by rfl) (hs2 : starEach [b] X.env = [(false, eval b X.env)] := by rfl) : PI X tg (.Call (.Name "range" p) [a, b] [] pos) (Gi X W L (iRng rng2 f)) := PI.imp (pi_range2 hg hm ha hs hs2) fun σ H R h => by
  refine Go.bind (R' := fun aT O (_ : Hp) H1 (J : It) (ds : List D) => Wk X.K aT (L aT O H1) J ds) mo_w h fun aT Oc ρ H1 vs ds n1 s1 r g => ?_
  obtain ⟨z, hz, q⟩ := g.of
  unfold rng2 at hz
  split at hz
  · obtain ⟨h1, rfl⟩ := some_ite hz
    obtain ⟨v, w, rfl, r1, r2⟩ := Pb.two r
    exact ⟨_, _, by rw [r1.int, r2.int], h1, q _ _ .refl s1.tw (wk_range _ _)⟩
  · exact (no_some hz).elim
theorem di_range1 {f : SA} {p : Pos} (ha : DQ X W [a] f) (hm : X.mg "range" = none) (hg : Gl X "range" := by rfl) (hs : starEach [a] X.env = [(false, eval a X.env)] := by rfl) : DI X W tg (.Call (.Name "range" p) [a] [] pos) (iRng rng1 f) := d_range1 ha hm hg hs
theorem dj_range1 {f : SA} {p : Pos} (ha : DQ X W [a] f) (hm : X.mg "range" = none) (hg : Gl X "range" := by rfl) (hs : starEach [a] X.env = [(false, eval a X.env)] := by rfl) : DJ X W tg (.Call (.Name "range" p) [a] [] pos) (iRng rng1 f) := d_range1 ha hm hg hs
theorem di_range2 {f : SA} {p : Pos} (ha : DQ X W [a, b] f) (hm : X.mg "range" = none) (hg : Gl X "range" := by rfl) (hs : starEach [a, b] X.env = [(false, eval a X.env), (false, eval b X.env)] := by rfl) (hs2 : starEach [b] X.env = [(false, eval b X.env)] := by rfl) : DI X W tg (.Call (.Name "range" p) [a, b] [] pos) (iRng rng2 f) := d_range2 ha hm hg hs hs2
theorem dj_range2 {f : SA} {p : Pos} (ha : DQ X W [a, b] f) (hm : X.mg "range" = none) (hg : Gl X "range" := by rfl) (hs : starEach [a, b] X.env = [(false, eval a X.env), (false, eval b X.env)] := by rfl) (hs2 : starEach [b] X.env = [(false, eval b X.env)] := by rfl) : DJ X W tg (.Call (.Name "range" p) [a, b] [] pos) (iRng rng2 f) := d_range2 ha hm hg hs hs2
/-! zip -/
def zipD (d : List D) : Option (List D) := match d with
  | [.lst xs, .lst ys] => some (List.zipWith (fun x y => D.trn [x, y]) xs ys)
  | [.tup xs, .tup ys] => some (List.zipWith (fun x y => D.trn [x, y]) xs ys)
  | _ => none
theorem wk_zip {K : PySem.W.Frag} {aT : Addr} {O1 : Addr → Prop} {H1 : Hp} {xs ys : List V} {ds es : List D} {L : (Addr → Prop) → Hp → Prop} {S : Hp → Addr → List V → Prop} {a b : Addr} {J : It}
    (eg : ∀ i H xs ys x y, S H a xs → S H b ys → xs[i]? = some x → ys[i]? = some y → J.go i H) (ey : ∀ i H v H', J.yld i H v H' → ∃ T x y, v = .ref T ∧ H T = none ∧ H' = upd H T (.tup [x, y]) ∧ (∀ xs, S H a xs → xs[i]? = some x) ∧ ∀ ys, S H b ys → ys[i]? = some y)
    (es' : ∀ i H xs ys, S H a xs → S H b ys → (xs.length ≤ i ∨ ys.length ≤ i) → J.stop i H)
    (r1 : Rps K aT O1 H1 xs ds) (r2 : Rps K aT O1 H1 ys es) (h1 : ∀ O H, L O H → Kp O1 H1 O H) (h2 : ∀ O H, L O H → S H a xs) (h3 : ∀ O H, L O H → S H b ys) : Wk K aT L J (List.zipWith (fun x y => D.trn [x, y]) ds es) := fun O H hL dom => by
  refine ⟨fun i d hd => ?_, fun i hi => es' i H xs ys (h2 O H hL) (h3 O H hL) ?_⟩
  · rw [List.getElem?_zipWith] at hd
    cases q1 : ds[i]? with
    | none => rw [q1] at hd; simp at hd
    | some d1 =>
      cases q2 : es[i]? with
      | none => rw [q1, q2] at hd; simp at hd
      | some d2 =>
        rw [q1, q2] at hd
        simp at hd
        subst hd
        obtain ⟨v1, e1, p1⟩ := r1.getO (h1 O H hL) q1
        obtain ⟨v2, e2, p2⟩ := r2.getO (h1 O H hL) q2
        refine ⟨eg i H xs ys v1 v2 (h2 O H hL) (h3 O H hL) e1 e2, fun v H' y => ?_⟩
        obtain ⟨T, x', y', rfl, nT, rfl, y1, y2⟩ := ey i H v H' y
        have z1 := (y1 xs (h2 O H hL)).symm.trans e1
        have z2 := (y2 ys (h3 O H hL)).symm.trans e2
        obtain rfl := Option.some.inj z1
        obtain rfl := Option.some.inj z2
        have kp : Kp O H O (upd H T (.tup [x', y'])) := fun a u e na => ⟨by rw [upd_ne (ne_of_none e nT)]; exact e, na⟩
        exact ⟨fun b u e => by rw [upd_ne (ne_of_none e nT)]; exact e, .trn upd_same (fun z => dom T z nT) (.cons (p1.mono kp) (.cons (p2.mono kp) .nil))⟩
  · rw [List.length_zipWith] at hi
    rw [r1.length, r2.length]
    omega
theorem dj_zip {f : SA} {p tpos : Pos} {elts : List Expr} {kk : Nat} (ha : DQ X W [a, b] f) (hm : X.mg "zip" = none) (hg : Gl X "zip" := by rfl) (hs : starEach [a, b] X.env = (false, eval a X.env) :: starEach [b] X.env := by rfl) (hpl : (backTo pos (starEach [b] X.env)).any (·.1) = false := by rfl) : DJ X W (.Tuple elts kk tpos) (.Call (.Name "zip" p) [a, b] [] pos) (iRng zipD f) := PI.imp (RZ.pi_zipA hg hm ha hs hpl) fun σ H R h => by
  refine Go.bind (R' := fun aT O (_ : Hp) H1 (J : It) (ds : List D) => Wk X.K aT (le' aT O H1) J ds) mo_w h fun aT Oc ρ H1 vs ds n1 s1 r g => ?_
  obtain ⟨z, hz, q⟩ := g.of
  have own : ∀ {v ds}, Rb X.K aT (Oo Oc σ ρ) H1 v (.lst ds) → ∃ p xs, v = .ref p ∧ H1 p = some (.lst xs) ∧ p ≠ aT ∧ Rps X.K aT (Oo Oc σ ρ) H1 xs ds := fun {v ds} r => by
    rcases r with r | ⟨p, rfl, ⟨xs, ht, rt⟩, na⟩
    · cases r with
      | lst ht hn rt => exact ⟨_, _, rfl, ht, fun z => hn (by rw [z]; exact .inl s1.oT), rt⟩
    · exact ⟨p, xs, rfl, ht, na, rt⟩
  unfold zipD at hz
  split at hz
  · cases hz
    obtain ⟨v, w, rfl, ra, rb⟩ := Pb.two r
    obtain ⟨p1, xs, rfl, t1, n1, k1⟩ := own ra
    obtain ⟨p2, ys, rfl, t2, n2, k2⟩ := own rb
    refine ⟨p1, p2, xs, ys, rfl, .inl ⟨SqL.of t1, SqL.of t2, q _ _ .refl s1.tw ?_⟩⟩
    exact wk_zip (S := fun H a xs => SqL X.K H a xs) (a := p1) (b := p2) (fun i H xs ys x y z1 z2 z3 z4 => ⟨xs, ys, x, y, z1, z2, z3, z4⟩) (fun i H v H' y => y) (fun i H xs ys z1 z2 z3 => ⟨xs, ys, z1, z2, z3⟩) k1 k2 (fun O H k => k.1) (fun O H k => SqL.of (k.2 _ _ n1 t1)) (fun O H k => SqL.of (k.2 _ _ n2 t2))
  · cases hz
    obtain ⟨v, w, rfl, ra, rb⟩ := Pb.two r
    obtain ⟨p1, xs, rfl, t1, k1⟩ := ra.tup
    obtain ⟨p2, ys, rfl, t2, k2⟩ := rb.tup
    refine ⟨p1, p2, xs, ys, rfl, .inr ⟨t1.sq, t2.sq, q _ _ .refl s1.tw ?_⟩⟩
    exact wk_zip (S := fun H a xs => SqT X.K H a xs) (a := p1) (b := p2) (fun i H xs ys x y z1 z2 z3 z4 => ⟨xs, ys, x, y, z1, z2, z3, z4⟩) (fun i H v H' y => y) (fun i H xs ys z1 z2 z3 => ⟨xs, ys, z1, z2, z3⟩) k1 k2 (fun O H k => k.1) (fun O H k => (Kp.tup k.1 t1).sq) (fun O H k => (Kp.tup k.1 t2).sq)
  · exact (no_some hz).elim
end
end DL

set_option Elab.async false
set_option linter.all false
set_option maxRecDepth 100000
set_option maxHeartbeats 4000000
namespace DL
open PySem PySem.Spec PyProof.Rows L2

section
variable {K : PySem.W.Frag} {aT : Addr} {Oc : Addr → Prop} {H : Hp} {σ σ' : St} {ρ ρ' : Ev} {n : Nat}
theorem Oo.unwipe {b : Addr} : ∀ {vs : List Nat}, Oo Oc (L2.wipe σ vs) (wipeE ρ vs) b → Oo Oc σ ρ b
  | [], h => h
  | v :: vs, h => Oo.unwipe (vs := vs) (Oo.set_sub no_ow h)
theorem wipe_same {ix vs : List Nat} (hl : σ'.length = σ.length) (h : ∀ j, j ∉ ix → σ'[j]? = σ[j]?) (hv : ∀ i ∈ ix, i ∈ vs) : L2.wipe σ' vs = L2.wipe σ vs := by
  apply List.ext_getElem?
  intro j
  by_cases hj : j ∈ vs
  · by_cases hl2 : j < σ.length
    · rw [wipe_in hj hl2, wipe_in hj (by rw [hl]; exact hl2)]
    · rw [wipe_out hl2, wipe_out (by rw [hl]; exact hl2)]
  · rw [wipe_get hj, wipe_get hj, h j fun z => hj (hv j z)]
theorem Oo.back {ix : List Nat} (h : ∀ j, j ∉ ix → σ'[j]? = σ[j]? ∧ ρ'[j]? = ρ[j]?) (hv : ∀ i ∈ ix, notOw ρ[i]? = true) {b : Addr} (q : Oo Oc σ ρ b) : Oo Oc σ' ρ' b := by
  rcases q with q | ⟨i, d, h1, h2⟩
  · exact .inl q
  · have hi : i ∉ ix := fun z => notOw_of (hv i z) d h1
    exact .inr ⟨i, d, by rw [(h i hi).2]; exact h1, by rw [(h i hi).1]; exact h2⟩
theorem wipeE_no {i : Nat} : ∀ {vs : List Nat}, i ∈ vs → notOw (wipeE ρ vs)[i]? = true
  | v :: vs, h => by
    unfold wipeE
    by_cases e : v = i
    · subst e
      by_cases hl : v < (wipeE ρ vs).length
      · rw [List.getElem?_set_self hl]; rfl
      · rw [List.getElem?_eq_none (by simpa using hl)]; rfl
    · rw [List.getElem?_set_ne e]
      rcases List.mem_cons.mp h with z | z
      · exact absurd z.symm e
      · exact wipeE_no z
/-- a locked object is written -/
theorem StE.wr {p : Addr} {o : HO} (s : StE K aT Oc H σ ρ n) (hp : Oc p) (ne : p ≠ aT) : StE K aT Oc (upd H p o) σ ρ n := by
  have k : Kp (Oo Oc σ ρ) H (Oo Oc σ ρ) (upd H p o) := fun a u e na => ⟨by rw [upd_ne (fun z => na (by rw [z]; exact .inl hp))]; exact e, na⟩
  refine ⟨⟨by rw [upd_ne ne.symm]; exact s.tw.1, s.tw.2⟩, s.oT, fun b hb => ?_, s.len, fun i d h => ?_, fun i d h => ?_, s.inj, s.ad⟩
  · by_cases e : b = p
    · rw [e, upd_same]; exact fun q => nomatch q
    · rw [upd_ne e]; exact s.dom b hb
  · obtain ⟨v, h1, h2⟩ := s.sh i d h
    exact ⟨v, h1, h2.mono k⟩
  · obtain ⟨a, h1, h2, h3⟩ := s.ow i d h
    have na : a ≠ p := fun z => h2 (by rw [z]; exact hp)
    exact ⟨a, h1, h2, h3.mono k fun u q => by rw [upd_ne na]; exact q⟩
end

/-! ### list comprehensions -/
abbrev W0 : WX := fun _ _ _ _ => False
def DTs (X : Cx) (ifs : List Expr) (f : ST) : Prop := PTs X ifs (Go X W0 RtX f)
theorem PTs.imp {X : Cx} {e : List Expr} {t t' : TT} (h : PTs X e t) (i : ∀ σ H Q, t' σ H Q → t σ H Q) : PTs X e t' := ⟨fun pins s σ H Q I q => h.run pins s σ H Q I (i σ H Q q)⟩
def tTrue : ST := fun _ n => .ok true n
theorem dts_nil {X : Cx} : DTs X [] tTrue := PTs.imp pts_nil fun σ H Q h => by
  obtain ⟨aT, Oc, ρ, n, s, h⟩ := h
  exact GoAt.ok (R := RtX aT (Oo Oc σ ρ)) h .refl s.tw rfl
theorem dts_one {X : Cx} {c : Expr} {f : ST} (h : DT X W0 c f) : DTs X [c] f := pts_one h
def lcF (vs : List Nat) (τ : D → Ev → Option Ev) (ft : ST) (fe : SE) (ρ : Ev) : List D → List D → Nat → Rs (List D)
  | [], acc, n => .ok acc n
  | d :: ds, acc, n => match τ d (wipeE ρ vs) with
    | none => .no
    | some ρ2 => (ft ρ2 n).bindN fun b n1 => if b = true then (fe ρ2 n1).bindN fun y n2 => if acc.length < szMax then lcF vs τ ft fe ρ ds (acc ++ [y]) n2 else .no else lcF vs τ ft fe ρ ds acc n1
def eLc (vs : List Nat) (fi : SI) (τ : D → Ev → Option Ev) (ft : ST) (fe : SE) : SE := fun ρ n =>
  if (vs.all fun v => notOw ρ[v]?) = true then (fi ρ n).bind fun ds n1 => (lcF vs τ ft fe ρ ds [] n1).bind fun ys n2 => .ok (.lst ys) n2 else .no
section
variable {X : Cx} {W : WX} {elt tg iter : Expr} {ifs : List Expr} {scope : Scope} {own : List (Str × Nat)} {pos : Pos} {fi : SI} {τ : D → Ev → Option Ev} {ix : List Nat} {ft : ST} {fe : SE}
theorem lc_core (σ : L2.St) (H : Hp) (Q : VK) (hix : ∀ i ∈ ix, i ∈ own.map (·.2)) (h : Go X W (RfX X) (eLc (own.map (·.2)) fi τ ft fe) σ H Q) : tLc (Gi X W le' fi) (gD X.K ix τ) (Go X W0 RtX ft) (Go X W0 (RpX X) fe) (own.map (·.2)) σ H Q := by
  obtain ⟨aT, Oc, ρ, n, s, h⟩ := h
  generalize own.map (·.2) = vs at hix h ⊢
  unfold eLc at h
  by_cases hvs : (vs.all fun v => notOw ρ[v]?) = true
  case neg => rw [if_neg hvs] at h; exact h.elim
  rw [if_pos hvs] at h
  have hvs : ∀ v ∈ vs, notOw ρ[v]? = true := by simpa using hvs
  refine GoAt.bind (R := fun aT O (_ : Hp) H1 (J : It) (ds : List D) => Wk X.K aT (le' aT O H1) J ds) mo_f s h fun H1 J ds n1 s1 e1 wk g => ?_
  intro P hP
  have wk : Wk X.K aT (le' aT (Oo Oc σ ρ) H1) J ds := wk
  let Oc' : Addr → Prop := fun b => Oc b ∨ b = P
  have hPa : P ≠ aT := fun z => by rw [z, s1.tw.1] at hP; cases hP
  have kpL : ∀ Hc, Ex1 aT H1 Hc → Kp (Oo Oc σ ρ) H1 (Oo Oc' (L2.wipe σ vs) (wipeE ρ vs)) Hc := fun Hc e a u ea na => by
    refine ⟨e a u (fun z => na (by rw [z]; exact .inl s1.oT)) ea, ?_⟩
    rintro ((z | z) | z)
    · exact na (.inl z)
    · exact ne_of_none ea hP z
    · exact na (Oo.unwipe (.inr z))
  refine ⟨fun i m Hc => ∃ n acc accV, m = ds.length - i ∧ i ≤ ds.length ∧ StE X.K aT Oc' Hc (L2.wipe σ vs) (wipeE ρ vs) n ∧ Ex1 aT H1 Hc ∧ Hc P = some (.lst accV) ∧ Rps X.K aT (Oo Oc' (L2.wipe σ vs) (wipeE ρ vs)) Hc accV acc ∧
    GoAt X.mg W (RfX X aT (Oo Oc σ ρ)) aT σ H1 ((lcF vs τ ft fe ρ (ds.drop i) acc n).bind fun ys n2 => .ok (.lst ys) n2) Q,
    ⟨ds.length, n1, [], [], by simp, Nat.zero_le _, (s1.wipe vs).lock hP, .new hP, upd_same, .nil, by simpa using g⟩, ?_⟩
  rintro i m Hc ⟨nc, acc, accV, rfl, hi, sc, ec, hPc, ra, gc⟩
  obtain ⟨w1, w2⟩ := wk (Oo Oc' (L2.wipe σ vs) (wipeE ρ vs)) Hc ⟨kpL Hc ec, ec⟩ sc.domO
  by_cases hlt : i < ds.length
  case neg =>
    have e : ds.drop i = [] := List.drop_eq_nil_of_le (by omega)
    rw [e] at gc
    refine .inl ⟨w2 i (by omega), ?_⟩
    refine GoAt.ok (R := RfX X aT (Oo Oc σ ρ)) (d := .lst acc) gc ec sc.tw ⟨P, rfl, hP, s1.fresh hP, accV, hPc, ra.mono (Kp.anti fun b hb => ?_)⟩
    rcases hb with hb | hb
    · rcases Oo.wipe hvs hb with z | z
      · exact .inl (.inl z)
      · exact .inr z
    · exact .inl (.inr hb)
  have hd : ds[i]? = some ds[i] := List.getElem?_eq_getElem hlt
  rw [List.drop_eq_getElem_cons hlt] at gc
  generalize ds[i] = d at hd gc
  obtain ⟨hgo, hy⟩ := w1 i d hd
  refine .inr ⟨hgo, fun Hc => ∃ n acc accV, StE X.K aT Oc' Hc (L2.wipe σ vs) (wipeE ρ vs) n ∧ Ex1 aT H1 Hc ∧ Hc P = some (.lst accV) ∧ Rps X.K aT (Oo Oc' (L2.wipe σ vs) (wipeE ρ vs)) Hc accV acc ∧
    GoAt X.mg W (RfX X aT (Oo Oc σ ρ)) aT σ H1 ((lcF vs τ ft fe ρ (ds.drop (i + 1)) acc n).bind fun ys n2 => .ok (.lst ys) n2) Q, ?_, ?_⟩
  · rintro H' ⟨n', acc', accV', a1, a2, a3, a4, a5⟩
    exact ⟨ds.length - (i + 1), by omega, n', acc', accV', rfl, hlt, a1, a2, a3, a4, a5⟩
  · intro x H' y
    obtain ⟨hk, rx⟩ := hy x H' y
    have e' : Ex1 aT Hc H' := fun b u _ e => hk b u e
    have s' : StE X.K aT Oc' H' (L2.wipe σ vs) (wipeE ρ vs) nc := sc.step e' ⟨hk _ _ sc.tw.1, sc.tw.2⟩
    unfold lcF at gc
    cases ht : τ d (wipeE ρ vs) with
    | none => rw [ht] at gc; exact gc.elim
    | some ρ2 =>
      rw [ht] at gc
      refine ⟨aT, Oc', wipeE ρ vs, nc, d, ρ2, s', rx, ht, fun σ2 s2 o2 k2 => ⟨?_, ?_⟩⟩
      · rw [wipe_same k2.1 (fun j hj => (k2.2 j hj).1) hix, wipe_wipe]
      · have o2' : ∀ b, Oo Oc' (L2.wipe σ vs) (wipeE ρ vs) b → Oo Oc' σ2 ρ2 b := fun b hb => Oo.back k2.2 (fun j hj => wipeE_no (hix j hj)) hb
        refine ⟨aT, Oc', ρ2, nc, s2, ?_⟩
        have gc : GoAt X.mg W (RfX X aT (Oo Oc σ ρ)) aT σ H1 (Rs.bind ((ft ρ2 nc).bindN fun b n1 => if b = true then (fe ρ2 n1).bindN fun y n2 => if acc.length < szMax then lcF vs τ ft fe ρ (ds.drop (i + 1)) (acc ++ [y]) n2 else .no else lcF vs τ ft fe ρ (ds.drop (i + 1)) acc n1) fun ys n2 => .ok (.lst ys) n2) Q := gc
        rw [Rs.bindN_bind] at gc
        refine GoAt.bindN gc fun b n2 b' H3 e3 t3 rb gc => ?_
        have rb : b' = b := rb
        subst rb
        have sw3 : StE X.K aT Oc' H3 (L2.wipe σ vs) (wipeE ρ vs) n2 := s'.step e3 t3
        have ra3 := (ra.mono (e'.kp (O := Oo Oc' (L2.wipe σ vs) (wipeE ρ vs)) (.inl (.inl s1.oT)))).mono (e3.kp (.inl (.inl s1.oT)))
        have ec3 : Ex1 aT H1 H3 := (ec.trans e').trans e3
        have hP3 : H3 P = some (.lst accV) := e3 P _ hPa (e' P _ hPa hPc)
        cases b' with
        | false =>
          rw [if_neg (by decide)] at gc ⊢
          exact ⟨n2, acc, accV, sw3, ec3, hP3, ra3, gc⟩
        | true =>
          rw [if_pos rfl] at gc ⊢
          refine ⟨aT, Oc', ρ2, n2, s2.step e3 t3, ?_⟩
          rw [Rs.bindN_bind] at gc
          refine GoAt.bindN gc fun y n3 v H4 e4 t4 rv gc => ?_
          by_cases hl : acc.length < szMax
          case neg =>
            rw [if_neg hl] at gc
            exact gc.elim
          rw [if_pos hl] at gc
          have hP4 : H4 P = some (.lst accV) := e4 P _ hPa hP3
          have sw4 := sw3.step e4 t4
          have kw : Kp (Oo Oc' (L2.wipe σ vs) (wipeE ρ vs)) H4 (Oo Oc' (L2.wipe σ vs) (wipeE ρ vs)) (upd H4 P (.lst (accV ++ [v]))) := fun a u e na => ⟨by rw [upd_ne (fun z => na (by rw [z]; exact .inl (.inr rfl)))]; exact e, na⟩
          refine ⟨accV, hP4, sz1 (by rw [ra.length]; exact hl), n3, acc ++ [y], accV ++ [v], sw4.wr (.inr rfl) hPa, ?_, upd_same, ?_, gc⟩
          · exact (ec3.trans e4).mut (.inl hP)
          · have rv : Rp X.K aT (Oo Oc' σ2 ρ2) H4 v y := rv
            exact ((ra3.mono (e4.kp (.inl (.inl s1.oT)))).append (.cons (rv.mono (Kp.anti o2')) .nil)).mono kw
theorem df_lc (hc : X.calm = true) (hN : X.N.Nodup) (hi : DJ X W tg iter fi) (ok : BlkOk X.N X.env.scope scope own) (hix : ∀ i ∈ ix, i ∈ own.map (·.2))
    (hg : ∀ (s : Shared) (H : Hp) (C : Addr) (cl : List (Str × Addr)) (fp : List Addr), DG (X.blk s H scope (compEnvC scope cl C X.env) fp) tg ix τ)
    (ht : ∀ (s : Shared) (H : Hp) (C : Addr) (cl : List (Str × Addr)) (fp : List Addr), DTs (X.blk s H scope (compEnvC scope cl C X.env) fp) ifs ft)
    (he : ∀ (s : Shared) (H : Hp) (C : Addr) (cl : List (Str × Addr)) (fp : List Addr), DE (X.blk s H scope (compEnvC scope cl C X.env) fp) W0 elt fe) (hs : ∀ x, foldedSetIterable iter X.env x = pure x := by intro _; rfl) :
    DF X W (.ListComp elt [⟨tg, iter, ifs, 0⟩] scope pos) (eLc (own.map (·.2)) fi τ ft fe) :=
  PE.imp (pe_lc (g := gD X.K ix τ) (tt := Go X W0 RtX ft) (te := Go X W0 (RpX X) fe) hc hN hi ok hg ht he hs) fun σ H Q h => lc_core σ H Q hix h
end
end DL

set_option Elab.async false
set_option linter.all false
set_option maxRecDepth 100000
set_option maxHeartbeats 4000000
namespace DL
open PySem PySem.Spec PyProof.Rows L2

/-! ### owned slots -/
section
variable {K : PySem.W.Frag} {aT : Addr} {Oc : Addr → Prop} {H H' : Hp} {σ : St} {ρ : Ev} {n n' : Nat}
/-- a new address is nobody's -/
theorem StE.lock2 {p : Addr} (s : StE K aT Oc H σ ρ n) (e : Ex1 aT H H') (t : Tw aT H' n') (hp : H p = none) (hp' : H' p ≠ none) : StE K aT (fun b => Oc b ∨ b = p) H' σ ρ n' := by
  have k : Kp (Oo Oc σ ρ) H (Oo (fun b => Oc b ∨ b = p) σ ρ) H' := fun a u ea na => by
    refine ⟨e a u (fun z => na (by rw [z]; exact .inl s.oT)) ea, ?_⟩
    rintro ((z | z) | z)
    · exact na (.inl z)
    · exact ne_of_none ea hp z
    · exact na (.inr z)
  refine ⟨t, .inl s.oT, fun b hb => ?_, s.len, fun i d h => ?_, fun i d h => ?_, s.inj, s.ad⟩
  · rcases hb with hb | rfl
    · exact e.some t (s.dom b hb)
    · exact hp'
  · obtain ⟨v, h1, h2⟩ := s.sh i d h
    exact ⟨v, h1, h2.mono k⟩
  · obtain ⟨a, h1, h2, h3⟩ := s.ow i d h
    have ne : a ≠ p := by
      intro z
      subst z
      cases d <;> try exact h3.elim
      · obtain ⟨xs, q, _⟩ := h3; rw [hp] at q; cases q
      · obtain ⟨xs, q, _⟩ := h3; rw [hp] at q; cases q
    exact ⟨a, h1, fun z => z.elim h2 ne, h3.mono k fun u q => e a u (fun z => h2 (by rw [z]; exact s.oT)) q⟩
theorem set_get_sl {ρ : Ev} {i j : Nat} {z w : Sl} (h : (ρ.set i z)[j]? = some w) : (i = j ∧ z = w ∧ i < ρ.length) ∨ (i ≠ j ∧ ρ[j]? = some w) := by
  by_cases e : i = j
  · subst e
    by_cases hl : i < ρ.length
    · rw [List.getElem?_set_self hl] at h; exact .inl ⟨rfl, Option.some.inj h, hl⟩
    · rw [List.getElem?_eq_none (by simpa using hl)] at h; cases h
  · rw [List.getElem?_set_ne e] at h; exact .inr ⟨e, h⟩
/-- a locked thing becomes a slot's own -/
theorem ad_put {σ : St} {ρ : Ev} (ad : ∀ (i k : Nat) (a : Addr), ρ[i]? = some (.tw k a) → σ[i]? = some (some (.ref a))) {i : Nat} {z : Sl} (ht : ∀ k a, z ≠ .tw k a) : ∀ (j k : Nat) (a : Addr), (ρ.set i z)[j]? = some (.tw k a) → σ[j]? = some (some (.ref a)) := fun j k a h => by
  rcases set_get_sl h with ⟨_, e, _⟩ | ⟨_, h⟩
  · exact absurd e (ht k a)
  · exact ad j k a h
theorem StE.own {a : Addr} {d : D} (s : StE K aT Oc H σ ρ n) (i : Nat) (ha : Oc a) (na : a ≠ aT) (o : Own K aT (Oo Oc σ ρ) H a d) : StE K aT (fun b => Oc b ∧ b ≠ a) H (σ.set i (some (.ref a))) (ρ.set i (.ow d)) n := by
  have sub : ∀ b, Oo (fun b => Oc b ∧ b ≠ a) (σ.set i (some (.ref a))) (ρ.set i (.ow d)) b → Oo Oc σ ρ b := fun b h => by
    rcases h with h | ⟨j, e, h1, h2⟩
    · exact .inl h.1
    · rcases set_get_sl h1 with ⟨rfl, _, hl⟩ | ⟨ne, h1⟩
      · rw [List.getElem?_set_self (by rw [s.len]; exact hl)] at h2
        cases h2
        exact .inl ha
      · rw [List.getElem?_set_ne ne] at h2
        exact .inr ⟨j, e, h1, h2⟩
  have k : Kp (Oo Oc σ ρ) H (Oo (fun b => Oc b ∧ b ≠ a) (σ.set i (some (.ref a))) (ρ.set i (.ow d))) H := Kp.anti sub
  refine ⟨s.tw, ⟨s.oT, na.symm⟩, fun b hb => s.dom b hb.1, by simp [s.len], fun j e h => ?_, fun j e h => ?_, fun j l e f b h1 h2 h3 h4 => ?_, ad_set s.len s.ad fun _ _ z => by cases z⟩
  · rcases set_get_sl h with ⟨_, z, _⟩ | ⟨ne, h⟩
    · cases z
    · rw [List.getElem?_set_ne ne]
      obtain ⟨v, h1, h2⟩ := s.sh j e h
      exact ⟨v, h1, h2.mono k⟩
  · rcases set_get_sl h with ⟨rfl, z, hl⟩ | ⟨ne, h⟩
    · cases z
      exact ⟨a, List.getElem?_set_self (by rw [s.len]; exact hl), fun z => z.2 rfl, o.mono k fun u q => q⟩
    · rw [List.getElem?_set_ne ne]
      obtain ⟨b, h1, h2, h3⟩ := s.ow j e h
      exact ⟨b, h1, fun z => h2 z.1, h3.mono k fun u q => q⟩
  · have own : ∀ j e b, (ρ.set i (.ow d))[j]? = some (.ow e) → (σ.set i (some (.ref a)))[j]? = some (some (.ref b)) → (i = j ∧ b = a) ∨ (i ≠ j ∧ ρ[j]? = some (.ow e) ∧ σ[j]? = some (some (.ref b)) ∧ b ≠ a) := fun j e b z1 z2 => by
      rcases set_get_sl z1 with ⟨rfl, _, hl⟩ | ⟨ne, z1⟩
      · rw [List.getElem?_set_self (by rw [s.len]; exact hl)] at z2
        cases z2
        exact .inl ⟨rfl, rfl⟩
      · rw [List.getElem?_set_ne ne] at z2
        obtain ⟨c, h1, h2, _⟩ := s.ow j e z1
        rw [z2] at h1
        cases h1
        exact .inr ⟨ne, z1, z2, fun z => h2 (by rw [z]; exact ha)⟩
    rcases own j e b h1 h3 with ⟨rfl, rfl⟩ | ⟨n1, a1, a2, a3⟩
    · rcases own l f b h2 h4 with ⟨rfl, _⟩ | ⟨_, _, _, z⟩
      · rfl
      · exact absurd rfl z
    · rcases own l f b h2 h4 with ⟨_, z⟩ | ⟨n2, b1, b2, _⟩
      · exact absurd z a3
      · exact s.inj j l e f b a1 b1 a2 b2
theorem StE.congr {Oc' : Addr → Prop} (s : StE K aT Oc H σ ρ n) (h : ∀ b, Oc b ↔ Oc' b) : StE K aT Oc' H σ ρ n := by
  have : Oc = Oc' := funext fun b => propext (h b)
  rw [← this]; exact s
/-- a slot's own thing is handed on -/
def frz (i : Nat) (ρ : Ev) : Ev := match ρ[i]? with
  | some (.ow d) => ρ.set i (.sh d)
  | _ => ρ
theorem frz_sub {i : Nat} {b : Addr} (h : Oo Oc σ (frz i ρ) b) : Oo Oc σ ρ b := by
  unfold frz at h
  split at h
  · rcases h with h | ⟨j, d, h1, h2⟩
    · exact .inl h
    · rcases set_get_sl h1 with ⟨_, z, _⟩ | ⟨_, h1⟩
      · cases z
      · exact .inr ⟨j, d, h1, h2⟩
  · exact h
theorem StE.frz (s : StE K aT Oc H σ ρ n) (i : Nat) : StE K aT Oc H σ (frz i ρ) n := by
  have k : Kp (Oo Oc σ ρ) H (Oo Oc σ (DL.frz i ρ)) H := Kp.anti fun b h => frz_sub h
  unfold DL.frz at k ⊢
  split
  case h_2 => exact s
  case h_1 d q =>
    rw [q] at k
    have k : Kp (Oo Oc σ ρ) H (Oo Oc σ (ρ.set i (.sh d))) H := k
    have nw : ∀ j e, (ρ.set i (.sh d))[j]? = some (.ow e) → i ≠ j ∧ ρ[j]? = some (.ow e) := fun j e h => by
      rcases set_get_sl h with ⟨_, z, _⟩ | h
      · cases z
      · exact h
    refine ⟨s.tw, s.oT, s.dom, by simp [s.len], fun j e h => ?_, fun j e h => ?_, fun j l e f a h1 h2 h3 h4 => s.inj j l e f a (nw j e h1).2 (nw l f h2).2 h3 h4, ad_put s.ad fun _ _ z => by cases z⟩
    · rcases set_get_sl h with ⟨rfl, z, _⟩ | ⟨ne, h⟩
      · cases z
        obtain ⟨a, h1, h2, h3⟩ := s.ow i d q
        have no : ¬ Oo Oc σ (ρ.set i (.sh d)) a := by
          rintro (z | ⟨j, f, z1, z2⟩)
          · exact h2 z
          · obtain ⟨ne, z1⟩ := nw j f z1
            exact ne (s.inj i j d f a q z1 h1 z2)
        refine ⟨_, h1, ?_⟩
        cases d <;> try exact h3.elim
        · obtain ⟨xs, e, r⟩ := h3
          exact .lst e no (r.mono k)
        · obtain ⟨xs, e, r⟩ := h3
          exact .dct e no (r.mono k)
      · obtain ⟨v, h1, h2⟩ := s.sh j e h
        exact ⟨v, h1, h2.mono k⟩
    · obtain ⟨a, h1, h2, h3⟩ := s.ow j e (nw j e h).2
      exact ⟨a, h1, h2, h3.mono k fun u q => q⟩
/-- a slot's own thing is changed -/
theorem StE.change {a : Addr} {d d' : D} {o : HO} (s : StE K aT Oc H σ ρ n) {i : Nat} (hi : ρ[i]? = some (.ow d)) (ha : σ[i]? = some (some (.ref a))) (ho : Own K aT (Oo Oc σ ρ) (upd H a o) a d') : StE K aT Oc (upd H a o) σ (ρ.set i (.ow d')) n := by
  obtain ⟨a', h1, nc, _⟩ := s.ow i d hi
  rw [ha] at h1
  cases h1
  have hOa : Oo Oc σ ρ a := .inr ⟨i, d, hi, ha⟩
  have hl : i < ρ.length := (List.getElem?_eq_some_iff.mp hi).1
  have nw : ∀ j e, (ρ.set i (.ow d'))[j]? = some (.ow e) → (i = j ∧ e = d') ∨ (i ≠ j ∧ ρ[j]? = some (.ow e)) := fun j e h => by
    rcases set_get_sl h with ⟨h', z, _⟩ | h'
    · cases z; exact .inl ⟨h', rfl⟩
    · exact .inr h'
  have sub : ∀ b, Oo Oc σ (ρ.set i (.ow d')) b → Oo Oc σ ρ b := fun b h => by
    rcases h with h | ⟨j, e, h1, h2⟩
    · exact .inl h
    · rcases nw j e h1 with ⟨rfl, _⟩ | ⟨_, h1⟩
      · exact .inr ⟨i, d, hi, h2⟩
      · exact .inr ⟨j, e, h1, h2⟩
  have k : Kp (Oo Oc σ ρ) H (Oo Oc σ (ρ.set i (.ow d'))) (upd H a o) := fun b u e nb => ⟨by rw [upd_ne (fun z => nb (by rw [z]; exact hOa))]; exact e, fun z => nb (sub b z)⟩
  have na : a ≠ aT := fun z => nc (by rw [z]; exact s.oT)
  refine ⟨⟨by rw [upd_ne na.symm]; exact s.tw.1, s.tw.2⟩, s.oT, fun b hb => ?_, by simp [s.len], fun j e h => ?_, fun j e h => ?_, fun j l e f b h1 h2 h3 h4 => ?_, ad_put s.ad fun _ _ z => by cases z⟩
  · by_cases z : b = a
    · rw [z, upd_same]; exact fun q => nomatch q
    · rw [upd_ne z]; exact s.dom b hb
  · rcases set_get_sl h with ⟨_, z, _⟩ | ⟨ne, h⟩
    · cases z
    · obtain ⟨v, h1, h2⟩ := s.sh j e h
      exact ⟨v, h1, h2.mono k⟩
  · rcases nw j e h with ⟨rfl, rfl⟩ | ⟨ne, h⟩
    · exact ⟨a, ha, nc, ho.mono (Kp.anti sub) fun u q => q⟩
    · obtain ⟨b, h1, h2, h3⟩ := s.ow j e h
      have nb : b ≠ a := fun z => ne (s.inj i j d e a hi h ha (by rw [← z]; exact h1))
      exact ⟨b, h1, h2, h3.mono k fun u q => by rw [upd_ne nb]; exact q⟩
  · have old : ∀ (j : Nat) (e : D), (ρ.set i (.ow d'))[j]? = some (Sl.ow e) → ∃ e', ρ[j]? = some (Sl.ow e') := fun j e h => by
      rcases nw j e h with ⟨rfl, _⟩ | ⟨_, h⟩
      · exact ⟨d, hi⟩
      · exact ⟨e, h⟩
    obtain ⟨e1, z1⟩ := old j e h1
    obtain ⟨e2, z2⟩ := old l f h2
    exact s.inj j l e1 e2 b z1 z2 h3 h4
end

/-! ### statements -/
structure StR (K : PySem.W.Frag) (aT : Addr) (Oc : Addr → Prop) (H0 H : Hp) (σ : St) (ρ : Ev) (n : Nat) : Prop where
  st : StE K aT Oc H σ ρ n
  ex : Ex1 aT H0 H
  nw : ∀ (i : Nat) (d : D) (a : Addr), ρ[i]? = some (.ow d) → σ[i]? = some (some (.ref a)) → H0 a = none
  d0 : ∀ b, Oc b → H0 b ≠ none
def GoS1 (K : PySem.W.Frag) (mg : Str → Option Value) (W : WX) (aT : Addr) (Oc : Addr → Prop) (H0 H : Hp) (O : Addr → Prop) (r : Rs Fl) (E : Ends) : Prop := match r with
  | .ok (.nx ρ') n' => ∀ σ' H', Kp O H (Oo Oc σ' ρ') H' → StR K aT Oc H0 H' σ' ρ' n' → E.nx σ' H'
  | .ok (.rt d) n' => ∀ v H', Ex1 aT H0 H' → Tw aT H' n' → Rp K aT Oc H' v d → E.rt v H'
  | .ex c n' => ∃ u, mg c = some u ∧ ∀ σ' H', Ex1 aT H0 H' → Tw aT H' n' → W u none σ' H'
  | .no => False
  | .amb f => ∀ b, GoS1 K mg W aT Oc H0 H O (f b) E
/-- one statement, then others -/
def Rs.seqF (r : Rs Fl) (G : Ev → Nat → Rs Fl) : Rs Fl := match r with
  | .ok (.nx ρ') n' => G ρ' n'
  | .ok (.rt d) n' => .ok (.rt d) n'
  | .ex c n' => .ex c n'
  | .no => .no
  | .amb f => .amb fun b => Rs.seqF (f b) G
@[simp] theorem Rs.seqF_nx (ρ' : Ev) (n' : Nat) (G : Ev → Nat → Rs Fl) : Rs.seqF (.ok (.nx ρ') n') G = G ρ' n' := rfl
@[simp] theorem Rs.seqF_rt (d : D) (n' : Nat) (G : Ev → Nat → Rs Fl) : Rs.seqF (.ok (.rt d) n') G = .ok (.rt d) n' := rfl
@[simp] theorem Rs.seqF_ex (c : Str) (n' : Nat) (G : Ev → Nat → Rs Fl) : Rs.seqF (.ex c n') G = .ex c n' := rfl
@[simp] theorem Rs.seqF_no (G : Ev → Nat → Rs Fl) : Rs.seqF .no G = .no := rfl
@[simp] theorem Rs.seqF_amb (f : Nat → Rs Fl) (G : Ev → Nat → Rs Fl) : Rs.seqF (.amb f) G = .amb fun b => Rs.seqF (f b) G := rfl
theorem GoS1.seq {K : PySem.W.Frag} {mg : Str → Option Value} {W : WX} {aT : Addr} {Oc : Addr → Prop} {H0 H H1 : Hp} {O O1 : Addr → Prop} {r : Rs Fl} {G : Ev → Nat → Rs Fl} {E E1 : Ends} (h : GoS1 K mg W aT Oc H0 H O (r.seqF G) E) (hrt : E1.rt = E.rt)
    (step : ∀ ρ' n' σ' H', GoS1 K mg W aT Oc H0 H O (G ρ' n') E → Kp O1 H1 (Oo Oc σ' ρ') H' → StR K aT Oc H0 H' σ' ρ' n' → E1.nx σ' H') : GoS1 K mg W aT Oc H0 H1 O1 r E1 := by
  induction r with
  | no => exact h
  | ex c n => exact h
  | ok f n =>
    cases f with
    | rt d => rw [GoS1, hrt]; exact h
    | nx ρ' => exact fun σ' H' k s => step ρ' n σ' H' h k s
  | amb f ih => exact fun b => ih b (h b)
def GoS (X : Cx) (W : WX) (F : SS) : TS := fun E σ H => ∃ (aT : Addr) (Oc : Addr → Prop) (H0 : Hp) (ρ : Ev) (n : Nat), StR X.K aT Oc H0 H σ ρ n ∧ GoS1 X.K X.mg W aT Oc H0 H (Oo Oc σ ρ) (F ρ n) E
theorem GoS1.kp {K : PySem.W.Frag} {mg : Str → Option Value} {W : WX} {aT : Addr} {Oc : Addr → Prop} {H0 H H1 : Hp} {O O1 : Addr → Prop} {r : Rs Fl} {E : Ends} (k : Kp O H O1 H1) (h : GoS1 K mg W aT Oc H0 H O r E) : GoS1 K mg W aT Oc H0 H1 O1 r E := by
  induction r with
  | no => exact h
  | ex c n => exact h
  | ok f n =>
    cases f with
    | rt d => exact h
    | nx ρ' => exact fun σ' H' k' s' => h σ' H' (k.trans k') s'
  | amb f ih => exact fun b => ih b (h b)
theorem StR.step {K : PySem.W.Frag} {aT : Addr} {Oc : Addr → Prop} {H0 H H1 : Hp} {σ : St} {ρ : Ev} {n n1 : Nat} (s : StR K aT Oc H0 H σ ρ n) (e : Ex1 aT H H1) (t : Tw aT H1 n1) : StR K aT Oc H0 H1 σ ρ n1 := ⟨s.st.step e t, s.ex.trans e, s.nw, s.d0⟩
/-- an expression ahead of what follows -/
theorem GoS.bind {α β : Type} {X : Cx} {W : WX} {R : Rl β α} {aT : Addr} {Oc : Addr → Prop} {H0 H : Hp} {σ : St} {ρ : Ev} {n : Nat} {f : Ev → Nat → Rs α} {k : α → Nat → Rs Fl} {E : Ends} {Q : β → Hp → Prop}
    (s : StR X.K aT Oc H0 H σ ρ n) (h : GoS1 X.K X.mg W aT Oc H0 H (Oo Oc σ ρ) ((f ρ n).bind k) E)
    (step : ∀ H1 v a n1, StR X.K aT Oc H0 H1 σ ρ n1 → Ex1 aT H H1 → R aT (Oo Oc σ ρ) H H1 v a → GoS1 X.K X.mg W aT Oc H0 H1 (Oo Oc σ ρ) (k a n1) E → Q v H1) : Go X W R f σ H Q := by
  refine ⟨aT, Oc, ρ, n, s.st, ?_⟩
  generalize f ρ n = r at h
  induction r with
  | amb f ih => exact fun b => ih b (h b)
  | ok a n1 =>
    intro v H1 e t r
    exact step H1 v a n1 (s.step e t) e r (GoS1.kp (e.kp (.inl s.st.oT)) (show GoS1 X.K X.mg W aT Oc H0 H (Oo Oc σ ρ) (k a n1) E from h))
  | ex c n1 =>
    obtain ⟨u, h1, h2⟩ := h
    exact ⟨u, h1, fun H' e t => h2 σ H' (s.ex.trans e) t⟩
  | no => exact h
def DS (X : Cx) (W : WX) (st : Stmt) (F : SS) : Prop := PS X st (GoS X W F)
def DSs (X : Cx) (W : WX) (st : List Stmt) (F : SS) : Prop := PSs X st (GoS X W F)
theorem GoS1.nx {K : PySem.W.Frag} {mg : Str → Option Value} {W : WX} {aT : Addr} {Oc : Addr → Prop} {H0 H : Hp} {O : Addr → Prop} {ρ' : Ev} {n : Nat} {E : Ends} (h : GoS1 K mg W aT Oc H0 H O (.ok (.nx ρ') n) E) {σ' : St} {H' : Hp} (k : Kp O H (Oo Oc σ' ρ') H') (s : StR K aT Oc H0 H' σ' ρ' n) : E.nx σ' H' := h σ' H' k s
theorem Kp.refl {O : Addr → Prop} {H : Hp} : Kp O H O H := fun _ _ e n => ⟨e, n⟩
section
variable {X : Cx} {W : WX} {a b c e : Expr} {es : List Expr} {fa fb fc : SE} {pos : Pos} {st : Stmt} {rest : List Stmt} {F G : SS} {ft : ST}
def sNext : SS := fun ρ n => .ok (.nx ρ) n
theorem GoS.next {E : Ends} {σ : St} {H : Hp} (h : GoS X W sNext E σ H) : E.nx σ H := by
  obtain ⟨aT, Oc, H0, ρ, n, s, h⟩ := h
  exact h.nx Kp.refl s
theorem dss_nil : DSs X W [] sNext := PSs.imp pss_nil fun E σ H h => GoS.next h
theorem ds_pass : DS X W (.Pass pos) sNext := PS.imp ps_pass fun E σ H h => GoS.next h
def sSeq (F G : SS) : SS := fun ρ n => (F ρ n).seqF G
theorem dss_cons (h1 : DS X W st F) (h2 : DSs X W rest G) : DSs X W (st :: rest) (sSeq F G) := PSs.imp (pss_cons h1 h2) fun E σ H h => by
  obtain ⟨aT, Oc, H0, ρ, n, s, h⟩ := h
  refine ⟨aT, Oc, H0, ρ, n, s, ?_⟩
  unfold sSeq at h
  exact GoS1.seq h rfl fun ρ' n' σ' H' g k' s' => ⟨aT, Oc, H0, ρ', n', s', GoS1.kp k' g⟩
theorem dss_one (h1 : DS X W st F) : DSs X W [st] F := pss_one h1
/-- handing on what a slot owns -/
def sFrz (i : Nat) (F : SS) : SS := fun ρ n => F (frz i ρ) n
theorem StR.frz {K : PySem.W.Frag} {aT : Addr} {Oc : Addr → Prop} {H0 H : Hp} {σ : St} {ρ : Ev} {n : Nat} (s : StR K aT Oc H0 H σ ρ n) (i : Nat) : StR K aT Oc H0 H σ (frz i ρ) n := by
  refine ⟨s.st.frz i, s.ex, fun j d a h1 h2 => ?_, s.d0⟩
  unfold DL.frz at h1
  split at h1
  · rcases set_get_sl h1 with ⟨_, z, _⟩ | ⟨_, h1⟩
    · cases z
    · exact s.nw j d a h1 h2
  · exact s.nw j d a h1 h2
theorem ds_frz (i : Nat) (h : DS X W st F) : DS X W st (sFrz i F) := PS.imp h fun E σ H h => by
  obtain ⟨aT, Oc, H0, ρ, n, s, h⟩ := h
  exact ⟨aT, Oc, H0, frz i ρ, n, s.frz i, GoS1.kp (Kp.anti fun b h => frz_sub h) h⟩
def sRet (f : SE) : SS := fun ρ n => (f ρ n).bind fun d n1 => .ok (.rt d) n1
theorem ds_ret (h : DE X W e fa) : DS X W (.Return (some e) pos) (sRet fa) := PS.imp (ps_ret h) fun E σ H h => by
  obtain ⟨aT, Oc, H0, ρ, n, s, h⟩ := h
  refine GoS.bind s h fun H1 v d n1 s1 e1 r g => ?_
  exact g v H1 s1.ex s1.st.tw (r.mono (Kp.anti fun b h => .inl h))
def sDrop (f : SE) : SS := fun ρ n => (f ρ n).bind fun _ n1 => .ok (.nx ρ) n1
theorem ds_expr (h : DB X W e fa) (hs : swapsWith e none pos.line X.env = pure false := by rfl) : DS X W (.Expr e pos) (sDrop fa) := PS.imp (ps_expr h hs) fun E σ H h => by
  obtain ⟨aT, Oc, H0, ρ, n, s, h⟩ := h
  refine GoS.bind s h fun H1 v d n1 s1 e1 r g => ?_
  exact g.nx Kp.refl s1
def sIf (t : ST) (F G : SS) : SS := fun ρ n => (t ρ n).bind fun b n1 => if b = true then F ρ n1 else G ρ n1
theorem ds_if {x y : List Stmt} (hc : DT X W c ft) (ha : DSs X W x F) (hb : DSs X W y G) : DS X W (.If c x y pos) (sIf ft F G) := PS.imp (ps_if hc ha hb) fun E σ H h => by
  obtain ⟨aT, Oc, H0, ρ, n, s, h⟩ := h
  refine GoS.bind s h fun H1 v d n1 s1 e1 r g => ?_
  have r : v = d := r
  subst r
  cases v with
  | true => exact ⟨aT, Oc, H0, ρ, n1, s1, g⟩
  | false => exact ⟨aT, Oc, H0, ρ, n1, s1, g⟩
/-- not to be reached -/
def sNo : SS := fun _ _ => .no
theorem ds_no : DS X W st sNo := PS.imp ps_never fun E σ H h => by
  obtain ⟨aT, Oc, H0, ρ, n, s, h⟩ := h
  exact h.elim
theorem dss_no : DSs X W rest sNo := PSs.imp pss_never fun E σ H h => by
  obtain ⟨aT, Oc, H0, ρ, n, s, h⟩ := h
  exact h.elim
/-! name = value -/
theorem StR.setSh {K : PySem.W.Frag} {aT : Addr} {Oc : Addr → Prop} {H0 H : Hp} {σ : St} {ρ : Ev} {n : Nat} (s : StR K aT Oc H0 H σ ρ n) (i : Nat) {v : V} {d : D} (r : Rp K aT (Oo Oc σ ρ) H v d) : StR K aT Oc H0 H (σ.set i (some v)) (ρ.set i (.sh d)) n :=
  ⟨s.st.setSh i r, s.ex, fun j e a h1 h2 => by
    rcases set_get_sl h1 with ⟨_, z, _⟩ | ⟨ne, h1⟩
    · cases z
    · rw [List.getElem?_set_ne ne] at h2
      exact s.nw j e a h1 h2, s.d0⟩
theorem StR.setOw {aT : Addr} {Oc : Addr → Prop} {H0 H H1 : Hp} {σ : St} {ρ : Ev} {n n1 : Nat} (s : StR X.K aT Oc H0 H σ ρ n) (e : Ex1 aT H H1) (t : Tw aT H1 n1) (i : Nat) {v : V} {d : D} (r : RfX X aT (Oo Oc σ ρ) H H1 v d) :
    StR X.K aT Oc H0 H1 (σ.set i (some v)) (ρ.set i (.ow d)) n1 ∧ Kp (Oo Oc σ ρ) H (Oo Oc (σ.set i (some v)) (ρ.set i (.ow d))) H1 := by
  obtain ⟨a, rfl, hn, no, o⟩ := r
  have ha1 : H1 a ≠ none := by
    cases d <;> try exact o.elim
    · obtain ⟨xs, q, _⟩ := o; rw [q]; exact fun z => nomatch z
    · obtain ⟨xs, q, _⟩ := o; rw [q]; exact fun z => nomatch z
  have na : a ≠ aT := fun z => by rw [z, s.st.tw.1] at hn; cases hn
  have h0 : H0 a = none := s.ex.none s.st.tw hn
  have s1 := s.st.lock2 e t hn ha1
  have o1 : Own X.K aT (Oo (fun b => Oc b ∨ b = a) σ ρ) H1 a d := o.mono (Kp.anti fun b h => by
    rcases h with (h | h) | h
    · exact .inl (.inl h)
    · exact .inr h
    · exact .inl (.inr h)) fun u q => q
  have s2 := (s1.own i (.inr rfl) na o1).congr (Oc' := Oc) fun b => by
    constructor
    · rintro ⟨h | h, h2⟩
      · exact h
      · exact absurd h h2
    · intro h
      exact ⟨.inl h, fun z => no (.inl (by rw [← z]; exact h))⟩
  refine ⟨⟨s2, s.ex.trans e, fun j e' b h1 h2 => ?_, s.d0⟩, fun b u eb nb => ⟨e b u (fun z => nb (by rw [z]; exact .inl s.st.oT)) eb, ?_⟩⟩
  · rcases set_get_sl h1 with ⟨rfl, z, hl⟩ | ⟨ne, h1⟩
    · rw [List.getElem?_set_self (by rw [s.st.len]; exact hl)] at h2
      cases h2
      exact h0
    · rw [List.getElem?_set_ne ne] at h2
      exact s.nw j e' b h1 h2
  · rintro (z | ⟨j, e', z1, z2⟩)
    · exact nb (.inl z)
    · rcases set_get_sl z1 with ⟨rfl, _, hl⟩ | ⟨ne, z1⟩
      · rw [List.getElem?_set_self (by rw [s.st.len]; exact hl)] at z2
        cases z2
        rw [hn] at eb; cases eb
      · rw [List.getElem?_set_ne ne] at z2
        exact nb (.inr ⟨j, e', z1, z2⟩)
def sSet (i : Nat) (f : SE) : SS := fun ρ n => (f ρ n).bind fun d n1 => .ok (.nx (ρ.set i (.sh d))) n1
def sOwn (i : Nat) (f : SE) : SS := fun ρ n => (f ρ n).bind fun d n1 => .ok (.nx (ρ.set i (.ow d))) n1
theorem ds_set (i : Nat) {x : Str} {pos' : Pos} (hN : X.N.Nodup) (he : DE X W e fa) (hi : X.N[i]? = some x := by rfl) (hx : Loc X.env.scope x := by first | exact Or.inl rfl | exact Or.inr rfl) (hs : swapsWith e (some (.Name x pos')) pos.line X.env = pure false := by rfl) (hf : X.fn x = true ∨ X.env.scope.names.lookup x = some .local := by first | exact .inl rfl | exact .inr rfl | assumption) :
    DS X W (.Assign [.Name x pos'] e pos) (sSet i fa) := PS.imp (ps_set hN hi hx he hs hf) fun E σ H h => by
  obtain ⟨aT, Oc, H0, ρ, n, s, h⟩ := h
  refine GoS.bind s h fun H1 v d n1 s1 e1 r g => ?_
  exact g.nx (Kp.anti fun b h => Oo.set_sub sh_ow h) (s1.setSh i r)
theorem ds_own (i : Nat) {x : Str} {pos' : Pos} (hN : X.N.Nodup) (he : DF X W e fa) (hi : X.N[i]? = some x := by rfl) (hx : Loc X.env.scope x := by first | exact Or.inl rfl | exact Or.inr rfl) (hs : swapsWith e (some (.Name x pos')) pos.line X.env = pure false := by rfl) (hf : X.fn x = true ∨ X.env.scope.names.lookup x = some .local := by first | exact .inl rfl | exact .inr rfl | assumption) :
    DS X W (.Assign [.Name x pos'] e pos) (sOwn i fa) := PS.imp (ps_set hN hi hx he hs hf) fun E σ H h => by
  obtain ⟨aT, Oc, H0, ρ, n, s, h⟩ := h
  refine ⟨aT, Oc, ρ, n, s.st, ?_⟩
  unfold sOwn at h
  generalize fa ρ n = r at h ⊢
  induction r with
  | amb f ih => exact fun b => ih b (h b)
  | no => exact h
  | ex c n1 =>
    obtain ⟨u, h1, h2⟩ := h
    exact ⟨u, h1, fun H' e t => h2 σ H' (s.ex.trans e) t⟩
  | ok d n1 =>
    intro v H1 e1 t1 r
    obtain ⟨k1, k2⟩ := s.setOw e1 t1 i r
    exact GoS1.nx h k2 k1
/-- name = [ .. for .. ] on one line -/
theorem ds_ownLc (i : Nat) {y : Str} {py spos : Pos} {elt tg iter : Expr} {ifs : List Expr} {scope : Scope} {own : List (Str × Nat)} {fi : SI} {τ : D → Ev → Option Ev} {ix : List Nat} {fe : SE} (hc : X.calm = true) (hN : X.N.Nodup) (hyl : X.env.scope.names.lookup y = some .local)
    (hi : DJ X W tg iter fi) (ok : BlkOk X.N X.env.scope scope own) (hix : ∀ i ∈ ix, i ∈ own.map (·.2))
    (hg : ∀ (s : Shared) (H : Hp) (C : Addr) (cl : List (Str × Addr)) (fp : List Addr), DG (X.blk s H scope (compEnvC scope cl C X.env) fp) tg ix τ)
    (ht : ∀ (s : Shared) (H : Hp) (C : Addr) (cl : List (Str × Addr)) (fp : List Addr), DTs (X.blk s H scope (compEnvC scope cl C X.env) fp) ifs ft)
    (he : ∀ (s : Shared) (H : Hp) (C : Addr) (cl : List (Str × Addr)) (fp : List Addr), DE (X.blk s H scope (compEnvC scope cl C X.env) fp) W0 elt fe)
    (hsw : swapsWith (.ListComp elt [⟨tg, iter, ifs, 0⟩] scope pos) (some (.Name y py)) spos.line X.env = pure true := by rfl) (hy : X.N[i]? = some y := by rfl) (hs : ∀ x, foldedSetIterable iter X.env x = pure x := by intro _; rfl) :
    DS X W (.Assign [.Name y py] (.ListComp elt [⟨tg, iter, ifs, 0⟩] scope pos) spos) (sOwn i (eLc (own.map (·.2)) fi τ ft fe)) := by
  refine PS.imp (ps_setLc (g := gD X.K ix τ) (tt := Go X W0 RtX ft) (te := Go X W0 (RpX X) fe) hc hN hy hyl hsw hi ok hg ht he hs) fun E σ H h => ?_
  obtain ⟨aT, Oc, H0, ρ, n, s, h⟩ := h
  refine lc_core σ H _ hix ⟨aT, Oc, ρ, n, s.st, ?_⟩
  unfold sOwn at h
  generalize eLc (own.map (·.2)) fi τ ft fe ρ n = r at h ⊢
  induction r with
  | amb f ih => exact fun b => ih b (h b)
  | no => exact h
  | ex c n1 =>
    obtain ⟨u, h1, h2⟩ := h
    exact ⟨u, h1, fun H' e t => h2 σ H' (s.ex.trans e) t⟩
  | ok d n1 =>
    intro v H1 e1 t1 r
    obtain ⟨k1, k2⟩ := s.setOw e1 t1 i r
    exact GoS1.nx h k2 k1
end
end DL

set_option Elab.async false
set_option linter.all false
set_option maxRecDepth 100000
set_option maxHeartbeats 4000000
namespace DL
open PySem PySem.Spec PyProof.Rows L2
theorem no_ok {α : Type} {a : α} {n : Nat} (h : (Rs.no : Rs α) = .ok a n) : False := nomatch h
/-- a slot's own thing is changed -/
theorem StR.change {K : PySem.W.Frag} {aT : Addr} {Oc : Addr → Prop} {H0 H : Hp} {σ : St} {ρ : Ev} {n : Nat} {a : Addr} {d d' : D} {o : HO} (s : StR K aT Oc H0 H σ ρ n) {i : Nat} (hi : ρ[i]? = some (.ow d)) (ha : σ[i]? = some (some (.ref a))) (ho : Own K aT (Oo Oc σ ρ) (upd H a o) a d') :
    StR K aT Oc H0 (upd H a o) σ (ρ.set i (.ow d')) n ∧ Kp (Oo Oc σ ρ) H (Oo Oc σ (ρ.set i (.ow d'))) (upd H a o) := by
  have hOa : Oo Oc σ ρ a := .inr ⟨i, d, hi, ha⟩
  have sub : ∀ b, Oo Oc σ (ρ.set i (.ow d')) b → Oo Oc σ ρ b := fun b h => by
    rcases h with h | ⟨j, e, h1, h2⟩
    · exact .inl h
    · rcases set_get_sl h1 with ⟨rfl, _, _⟩ | ⟨_, h1⟩
      · exact .inr ⟨i, d, hi, h2⟩
      · exact .inr ⟨j, e, h1, h2⟩
  refine ⟨⟨s.st.change hi ha ho, s.ex.mut (.inl (s.nw i d a hi ha)), fun j e b h1 h2 => ?_, s.d0⟩, fun b u e nb => ⟨by rw [upd_ne (fun z => nb (by rw [z]; exact hOa))]; exact e, fun z => nb (sub b z)⟩⟩
  rcases set_get_sl h1 with ⟨rfl, _, _⟩ | ⟨_, h1⟩
  · exact s.nw i d b hi h2
  · exact s.nw j e b h1 h2
/-- what is owned may be written: the rest keeps -/
theorem StE.kpw {Oc : Addr → Prop} {H : Hp} {σ : St} {ρ : Ev} {a : Addr} {d : D} {o : HO} {i : Nat} (hi : ρ[i]? = some (.ow d)) (ha : σ[i]? = some (some (.ref a))) : Kp (Oo Oc σ ρ) H (Oo Oc σ ρ) (upd H a o) := fun b u e nb => ⟨by rw [upd_ne (fun z => nb (by rw [z]; exact .inr ⟨i, d, hi, ha⟩))]; exact e, nb⟩
section
variable {X : Cx} {W : WX} {a b c e : Expr} {es : List Expr} {fa fb fc : SE} {pos : Pos} {st : Stmt} {rest : List Stmt} {F G : SS} {ft : ST}
/-! ### append, extend -/
def sApp (i : Nat) (fe : SE) : SS := fun ρ n => match ρ[i]? with
  | some (.ow (.lst ds)) => (fe ρ n).bind fun d n1 => if ds.length < szMax then .ok (.nx (ρ.set i (.ow (.lst (ds ++ [d]))))) n1 else .no
  | some (.sh .cnt) => (fe ρ n).bind fun d n1 => match d with
    | .int 0 => if n1 < townMax then .ok (.nx ρ) (n1 + 1) else .no
    | _ => .no
  | _ => .no
theorem ds_append (i : Nat) {x : Str} {p apos cpos : Pos} (he : DE X W e fa) (hN : X.N[i]? = some x := by rfl) (hv : Vis X.env.scope x := by first | exact Or.inl rfl | exact Or.inr (Or.inl rfl) | exact Or.inr (Or.inr rfl)) (hd : (x == ("__debug__" : Str)) = false := by decide) (hcd : (x == ("__classdict__" : Str)) = false := by decide)
    (hbase : attributeBase (.Name x p) "append" X.env (eval (.Name x p) X.env) = eval (.Name x p) X.env := by rfl)
    (hfew : ((backTo cpos (starEach [e] X.env)).all (fun x => !x.1) && (backToKw cpos (keywordEach [] X.env)).all (fun x => x.1.isSome)
      && decide (([e] : List Expr).length + ([] : List Keyword).length + (if ([] : List Keyword).isEmpty then 0 else 1) < 30)) = true := by rfl)
    (hline : (apos.endLine == cpos.line) = true := by rfl) (hs : starEach [e] X.env = (false, eval e X.env) :: starEach [] X.env := by rfl) (hplain : (backTo cpos (starEach [] X.env)).any (·.1) = false := by rfl)
    (hsw : swapsWith (.Call (.Attribute (.Name x p) "append" apos) [e] [] cpos) none pos.line X.env = pure false := by rfl) :
    DS X W (.Expr (.Call (.Attribute (.Name x p) "append" apos) [e] [] cpos) pos) (sApp i fa) := by
  refine PS.imp (ps_expr (pe_bm PySem.F.plainAttrs_list PySem.F.slot_list_append PySem.F.type_list_append mt_append (pe_var hN hv hd hcd) (pa_cons he pa_nil hs) hbase hfew hline hs hplain) hsw) fun E σ H h => ?_
  obtain ⟨aT, Oc, H0, ρ, n, s, h⟩ := h
  unfold sApp at h
  split at h
  · rename_i ds hi
    obtain ⟨q, ha, nc, xs, hx, rx⟩ := s.st.ow i _ hi
    refine ⟨_, ha, .inl ⟨rfl, xs, SqL.of hx⟩, ?_⟩
    refine GoS.bind s h fun H1 v d n1 s1 e1 r g => ?_
    have na : q ≠ aT := fun z => nc (by rw [z]; exact s.st.oT)
    by_cases hl : ds.length < szMax
    case neg => rw [if_neg hl] at g; exact g.elim
    rw [if_pos hl] at g
    obtain ⟨q', ha', _, ys, hy, ry⟩ := s1.st.ow i _ hi
    rw [ha] at ha'
    cases ha'
    refine ⟨q, ys, v, rfl, rfl, hy, sz1 (by rw [ry.length]; exact hl), ?_⟩
    obtain ⟨k1, k2⟩ := s1.change (o := .lst (ys ++ [v])) (d' := .lst (ds ++ [d])) hi ha ⟨_, upd_same, (ry.append (.cons r .nil)).mono (StE.kpw hi ha)⟩
    exact g.nx k2 k1
  · rename_i hi
    obtain ⟨v, hv', r⟩ := s.st.sh i _ hi
    cases r
    refine ⟨_, hv', .inl ⟨rfl, _, SqL.of s.st.tw.1⟩, ?_⟩
    refine GoS.bind s h fun H1 v d n1 s1 e1 r g => ?_
    split at g
    case h_2 => exact g.elim
    by_cases hl : n1 < townMax
    case neg => rw [if_neg hl] at g; exact g.elim
    rw [if_pos hl] at g
    cases r
    refine ⟨aT, _, _, rfl, rfl, s1.st.tw.1, sz1 (by rw [List.length_replicate]; exact hl), ?_⟩
    have e2 : Ex1 aT H1 (upd H1 aT (.lst (List.replicate n1 (.int 0) ++ [.int 0]))) := fun b u nb hb => by rw [upd_ne nb]; exact hb
    have t2 : Tw aT (upd H1 aT (.lst (List.replicate n1 (.int 0) ++ [.int 0]))) (n1 + 1) := ⟨by rw [upd_same, ← List.replicate_succ'], hl⟩
    exact g.nx (e2.kp (.inl s1.st.oT)) (s1.step e2 t2)
  · exact h.elim
def sExt (i : Nat) (fe : SE) : SS := fun ρ n => match ρ[i]? with
  | some (.ow (.lst ds)) => (fe ρ n).bind fun d n1 => match d with
    | .lst es => if ds.length + es.length ≤ szMax then .ok (.nx (ρ.set i (.ow (.lst (ds ++ es))))) n1 else .no
    | _ => .no
  | _ => .no
theorem ds_extend (i : Nat) {x : Str} {p apos cpos : Pos} (he : DB X W e fa) (hN : X.N[i]? = some x := by rfl) (hv : Vis X.env.scope x := by first | exact Or.inl rfl | exact Or.inr (Or.inl rfl) | exact Or.inr (Or.inr rfl)) (hd : (x == ("__debug__" : Str)) = false := by decide) (hcd : (x == ("__classdict__" : Str)) = false := by decide)
    (hbase : attributeBase (.Name x p) "extend" X.env (eval (.Name x p) X.env) = eval (.Name x p) X.env := by rfl)
    (hfew : ((backTo cpos (starEach [e] X.env)).all (fun x => !x.1) && (backToKw cpos (keywordEach [] X.env)).all (fun x => x.1.isSome)
      && decide (([e] : List Expr).length + ([] : List Keyword).length + (if ([] : List Keyword).isEmpty then 0 else 1) < 30)) = true := by rfl)
    (hline : (apos.endLine == cpos.line) = true := by rfl) (hs : starEach [e] X.env = (false, eval e X.env) :: starEach [] X.env := by rfl) (hplain : (backTo cpos (starEach [] X.env)).any (·.1) = false := by rfl)
    (hsw : swapsWith (.Call (.Attribute (.Name x p) "extend" apos) [e] [] cpos) none pos.line X.env = pure false := by rfl) :
    DS X W (.Expr (.Call (.Attribute (.Name x p) "extend" apos) [e] [] cpos) pos) (sExt i fa) := by
  refine PS.imp (ps_expr (pe_bm PySem.F.plainAttrs_list PySem.F.slot_list_extend PySem.F.type_list_extend mt_extend (pe_var hN hv hd hcd) (pa_cons he pa_nil hs) hbase hfew hline hs hplain) hsw) fun E σ H h => ?_
  obtain ⟨aT, Oc, H0, ρ, n, s, h⟩ := h
  unfold sExt at h
  split at h
  case h_2 => exact h.elim
  rename_i ds hi
  obtain ⟨q, ha, nc, xs, hx, rx⟩ := s.st.ow i _ hi
  refine ⟨_, ha, .inl ⟨rfl, xs, SqL.of hx⟩, ?_⟩
  refine GoS.bind s h fun H1 v d n1 s1 e1 r g => ?_
  cases d <;> try exact g.elim
  rename_i es'
  have g : GoS1 X.K X.mg W aT Oc H0 H1 (Oo Oc σ ρ) (if ds.length + es'.length ≤ szMax then .ok (.nx (ρ.set i (.ow (.lst (ds ++ es'))))) n1 else .no) E := g
  by_cases hl : ds.length + es'.length ≤ szMax
  case neg => rw [if_neg hl] at g; exact g.elim
  rw [if_pos hl] at g
  obtain ⟨q', ha', _, ys, hy, ry⟩ := s1.st.ow i _ hi
  rw [ha] at ha'
  cases ha'
  obtain ⟨pz, zs, rfl, hz, rz⟩ := r.lst
  refine ⟨q, pz, ys, zs, rfl, rfl, hy, hz, sz (by rw [ry.length, rz.length]; exact hl), ?_⟩
  obtain ⟨k1, k2⟩ := s1.change (o := .lst (ys ++ zs)) (d' := .lst (ds ++ es')) hi ha ⟨_, upd_same, (ry.append rz).mono (StE.kpw hi ha)⟩
  exact g.nx k2 k1

/-! ### targets with a state -/
def gA (X : Cx) (τ : D → Ev → Nat → Rs Ev) : TG := fun v σ H Q => ∃ (aT : Addr) (Oc : Addr → Prop) (H0 : Hp) (ρ : Ev) (n : Nat) (d : D) (ρ' : Ev) (n' : Nat),
  StR X.K aT Oc H0 H σ ρ n ∧ Rp X.K aT (Oo Oc σ ρ) H v d ∧ τ d ρ n = .ok ρ' n' ∧ ∀ σ' H', Kp (Oo Oc σ ρ) H (Oo Oc σ' ρ') H' → StR X.K aT Oc H0 H' σ' ρ' n' → Q σ' H'
def gAs (X : Cx) (τ : List D → Ev → Nat → Rs Ev) : TGs := fun vs σ H Q => ∃ (aT : Addr) (Oc : Addr → Prop) (H0 : Hp) (ρ : Ev) (n : Nat) (ds : List D) (ρ' : Ev) (n' : Nat),
  StR X.K aT Oc H0 H σ ρ n ∧ Rps X.K aT (Oo Oc σ ρ) H vs ds ∧ τ ds ρ n = .ok ρ' n' ∧ ∀ σ' H', Kp (Oo Oc σ ρ) H (Oo Oc σ' ρ') H' → StR X.K aT Oc H0 H' σ' ρ' n' → Q σ' H'
def DGA (X : Cx) (tg : Expr) (τ : D → Ev → Nat → Rs Ev) : Prop := PG X tg (gA X τ)
def DGAs (X : Cx) (ts : List Expr) (τ : List D → Ev → Nat → Rs Ev) : Prop := PGs X ts (gAs X τ)
def aN (i : Nat) : D → Ev → Nat → Rs Ev := fun d ρ n => .ok (ρ.set i (.sh d)) n
theorem dga_name {x : Str} (i : Nat) (hN : X.N.Nodup) (hi : X.N[i]? = some x := by rfl) (hx : Loc X.env.scope x := by first | exact Or.inl rfl | exact Or.inr rfl) (hf : X.fn x = true ∨ X.env.scope.names.lookup x = some .local := by first | exact .inl rfl | exact .inr rfl | assumption) : DGA X (.Name x pos) (aN i) :=
  PG.imp (pg_name hN hi hx hf) fun v σ H Q h => by
    obtain ⟨aT, Oc, H0, ρ, n, d, ρ', n', s, r, e, q⟩ := h
    cases e
    exact q _ _ (Kp.anti fun b h => Oo.set_sub sh_ow h) (s.setSh i r)
def asNil : List D → Ev → Nat → Rs Ev := fun ds ρ n => match ds with
  | [] => .ok ρ n
  | _ => .no
def asCons (τ : D → Ev → Nat → Rs Ev) (τs : List D → Ev → Nat → Rs Ev) : List D → Ev → Nat → Rs Ev := fun ds ρ n => match ds with
  | d :: r => (τ d ρ n).bind fun ρ1 n1 => τs r ρ1 n1
  | [] => .no
theorem dgas_nil : DGAs X [] asNil := PGs.imp pgs_nil fun vs σ H Q h => by
  obtain ⟨aT, Oc, H0, ρ, n, ds, ρ', n', s, r, e, q⟩ := h
  cases ds with
  | nil => cases e; cases r; exact ⟨rfl, q σ H Kp.refl s⟩
  | cons _ _ => exact nomatch e
theorem bind_ok {α β : Type} {r : Rs α} {k : α → Nat → Rs β} {b : β} {n : Nat} (h : r.bind k = .ok b n) : ∃ a m, r = .ok a m ∧ k a m = .ok b n := by
  cases r with
  | ok a m => exact ⟨a, m, rfl, h⟩
  | ex c m => exact nomatch h
  | no => exact nomatch h
  | amb f => exact nomatch h
theorem dgas_cons {τ : D → Ev → Nat → Rs Ev} {τs : List D → Ev → Nat → Rs Ev} (h1 : DGA X e τ) (h2 : DGAs X es τs)
    (hs : (assignEach (e :: es) X.env).map (·.2) = assign e X.env :: (assignEach es X.env).map (·.2) := by rfl) : DGAs X (e :: es) (asCons τ τs) := PGs.imp (pgs_cons h1 h2 hs) fun vs σ H Q h => by
  obtain ⟨aT, Oc, H0, ρ, n, ds, ρ', n', s, r, e, q⟩ := h
  cases ds with
  | nil => exact nomatch e
  | cons d ds =>
    cases r with
    | cons r1 r2 =>
      obtain ⟨ρ1, n1, e1, e2⟩ := bind_ok (show (τ d ρ n).bind _ = _ from e)
      refine ⟨_, _, rfl, aT, Oc, H0, ρ, n, d, ρ1, n1, s, r1, e1, fun σ1 H1 k1 s1 => ?_⟩
      exact ⟨aT, Oc, H0, ρ1, n1, ds, ρ', n', s1, r2.mono k1, e2, fun σ2 H2 k2 s2 => q σ2 H2 (k1.trans k2) s2⟩
def aT' (τs : List D → Ev → Nat → Rs Ev) : D → Ev → Nat → Rs Ev := fun d ρ n => match d with
  | .tup ds => τs ds ρ n
  | .trn ds => τs ds ρ n
  | _ => .no
theorem dga_tup {τs : List D → Ev → Nat → Rs Ev} {k n : Nat} (hc : X.calm = true) (h : DGAs X es τs) (hl : ∀ ds ρ n ρ' n', τs ds ρ n = .ok ρ' n' → ds.length = es.length)
    (hn : (assignEach es X.env).length = es.length := by rfl) (hst : (assignEach es X.env).findIdx? (·.1) = none := by rfl) : DGA X (.Tuple es k pos) (aT' τs) := PG.imp (pg_tup hc h hn hst) fun v σ H Q h => by
  obtain ⟨aT, Oc, H0, ρ, n, d, ρ', n', s, r, e, q⟩ := h
  cases d <;> try (exact (no_ok e).elim)
  all_goals
    rename_i ds
    cases r
  · rename_i ht rt
    exact ⟨_, _, rfl, ht.sq, by rw [rt.length]; exact hl ds ρ n ρ' n' e, aT, Oc, H0, ρ, n, ds, ρ', n', s, rt, e, q⟩
  · rename_i ht _ rt
    exact ⟨_, _, rfl, SqT.of ht, by rw [rt.length]; exact hl ds ρ n ρ' n' e, aT, Oc, H0, ρ, n, ds, ρ', n', s, rt, e, q⟩
theorem as_len0 : ∀ ds ρ n ρ' n', asNil ds ρ n = .ok ρ' n' → ds.length = ([] : List Expr).length := fun ds ρ n ρ' n' h => by
  cases ds with
  | nil => rfl
  | cons _ _ => exact nomatch h
theorem as_lenS {τ : D → Ev → Nat → Rs Ev} {τs : List D → Ev → Nat → Rs Ev} (h : ∀ ds ρ n ρ' n', τs ds ρ n = .ok ρ' n' → ds.length = es.length) : ∀ ds ρ n ρ' n', asCons τ τs ds ρ n = .ok ρ' n' → ds.length = (e :: es).length := fun ds ρ n ρ' n' q => by
  cases ds with
  | nil => exact nomatch q
  | cons d r =>
    obtain ⟨ρ1, n1, _, e2⟩ := bind_ok (show (τ d ρ n).bind _ = _ from q)
    rw [List.length_cons, List.length_cons, h r ρ1 n1 ρ' n' e2]
/-! x[i] = v -/
def rSetDc : V → V → V → Hp → (Hp → Prop) → Prop := fun o i v H Q => ∃ a H', o = .ref a ∧ DPut H a i v H' ∧ Q H'
theorem set_dct (hu : X.A.units + 1 < cLine) : PSet X rSetDc := by
  intro pins s σ H o i v ov iv u Q I ro ri rv h
  obtain ⟨a, H', rfl, g, q⟩ := h
  cases ro
  exact d_setItem hu I g ri rv fun s' I' => ⟨H', I', q⟩
theorem PSet.or {t t' : TSet} (h : PSet X t) (h' : PSet X t') : PSet X (fun o i v H Q => t o i v H Q ∨ t' o i v H Q) := by
  intro pins s σ H o i v ov iv u Q I ro ri rv q
  rcases q with q | q
  · exact h pins s σ H o i v ov iv u Q I ro ri rv q
  · exact h' pins s σ H o i v ov iv u Q I ro ri rv q
def setD (c k d : D) : Option D := match c with
  | .lst ds => match k with
    | .int i => (ixN ds.length i).map fun j => .lst (ds.set j d)
    | _ => none
  | .dct kds => (keyD k).bind fun y => if kds.length < szMax then some (.dct (putD kds y d)) else none
  | _ => none
def aIx (i : Nat) (fk : SE) : D → Ev → Nat → Rs Ev := fun d ρ n => match ρ[i]? with
  | some (.ow c) => match fk ρ n with
    | .ok k n1 => match setD c k d with
      | some c' => .ok (ρ.set i (.ow c')) n1
      | none => .no
    | _ => .no
  | _ => .no
theorem Rps.set {K : PySem.W.Frag} {aT : Addr} {O : Addr → Prop} {H : Hp} {v : V} {d : D} (r : Rp K aT O H v d) : ∀ {xs : List V} {us : List D} (j : Nat), Rps K aT O H xs us → Rps K aT O H (xs.set j v) (us.set j d)
  | _, _, _, .nil => .nil
  | _, _, 0, .cons _ t => .cons r t
  | _, _, j + 1, .cons q t => .cons q (Rps.set r j t)
theorem dga_ix (i : Nat) {x : Str} {p : Pos} (hu : X.A.units + 1 < cLine) (hk : DB X W0 b fb) (hN : X.N[i]? = some x := by rfl) (hv : Vis X.env.scope x := by first | exact Or.inl rfl | exact Or.inr (Or.inl rfl) | exact Or.inr (Or.inr rfl)) (hd : (x == ("__debug__" : Str)) = false := by decide) (hcd : (x == ("__classdict__" : Str)) = false := by decide)
    (ha : ∀ v, assign (.Subscript (.Name x p) b pos) X.env v = (do
      let ov ← holding [v] (eval (.Name x p) X.env)
      let iv ← holding [v, ov] (eval b X.env)
      standAt pos
      holding [v, ov, iv] (setItem ov iv v)
      release [v, ov, iv] []) := by intro _; rfl) : DGA X (.Subscript (.Name x p) b pos) (aIx i fb) := PG.imp (pg_sub (pe_var hN hv hd hcd) hk (PSet.or set_list (set_dct hu)) ha) fun v σ H Q h => by
  obtain ⟨aT, Oc, H0, ρ, n, d, ρ', n', s, r, e, q⟩ := h
  unfold aIx at e
  split at e
  case h_2 => exact nomatch e
  rename_i c hi
  split at e
  case h_2 => exact nomatch e
  rename_i k n1 hf
  split at e
  case h_2 => exact nomatch e
  rename_i c' hc
  cases e
  obtain ⟨y, hy, nc, oy⟩ := s.st.ow i c hi
  refine ⟨_, hy, aT, Oc, ρ, n, s.st, ?_⟩
  rw [hf]
  intro kv H1 e1 t1 rk
  have s1 := s.step e1 t1
  have r1 := r.mono (e1.kp (O := Oo Oc σ ρ) (.inl s.st.oT))
  have o1 : Own X.K aT (Oo Oc σ ρ) H1 y c := by
    obtain ⟨y', h1, _, o⟩ := s1.st.ow i c hi
    rw [hy] at h1
    cases h1
    exact o
  have k01 : Kp (Oo Oc σ ρ) H (Oo Oc σ ρ) H1 := e1.kp (.inl s.st.oT)
  cases c <;> try exact o1.elim
  · rename_i ds
    obtain ⟨xs, hx, rx⟩ := o1
    cases k <;> try (exact (no_some hc).elim)
    rename_i ki
    obtain ⟨j, hj, rfl⟩ := Option.map_eq_some_iff.mp (show (ixN ds.length ki).map _ = some c' from hc)
    refine .inl ⟨y, xs, ki, j, rfl, rk.int, hx, by rw [rx.length]; exact hj, ?_⟩
    obtain ⟨k1, k2⟩ := s1.change (o := .lst (xs.set j v)) (d' := .lst (ds.set j d)) hi hy ⟨_, upd_same, (Rps.set r1 j rx).mono (StE.kpw hi hy)⟩
    exact q _ _ (k01.trans k2) k1
  · rename_i kds
    obtain ⟨kvs, hx, rx⟩ := o1
    obtain ⟨ky, h1, h2⟩ := Option.bind_eq_some_iff.mp (show (keyD k).bind _ = some c' from hc)
    obtain ⟨hl, rfl⟩ := some_ite h2
    have := rk.key h1
    subst kv
    refine .inr ⟨y, _, rfl, DPut.k hx (sz1 (by rw [rx.length]; exact hl)), ?_⟩
    obtain ⟨k1, k2⟩ := s1.change (o := .dK (putK kvs ky v)) (d' := .dct (putD kds ky d)) hi hy ⟨_, upd_same, (rx.put r1).mono (StE.kpw hi hy)⟩
    exact q _ _ (k01.trans k2) k1
def sAsg (f : SE) (τ : D → Ev → Nat → Rs Ev) : SS := fun ρ n => (f ρ n).bind fun d n1 => match τ d ρ n1 with
  | .ok ρ' n2 => .ok (.nx ρ') n2
  | _ => .no
theorem ds_asg {tg : Expr} {τ : D → Ev → Nat → Rs Ev} (he : DE X W e fa) (hg : DGA X tg τ) (hs : swapsWithSole [tg] e pos.line X.env = pure false := by rfl) (hw : swappedStores [tg] e X.env = pure none := by rfl)
    (h1 : (assignEach [tg] X.env).map (·.2) = [assign tg X.env] := by rfl) : DS X W (.Assign [tg] e pos) (sAsg fa τ) := PS.imp (ps_asg he hg hs hw h1) fun E σ H h => by
  obtain ⟨aT, Oc, H0, ρ, n, s, h⟩ := h
  refine GoS.bind s h fun H1 v d n1 s1 e1 r g => ?_
  cases ht : τ d ρ n1 with
  | no => rw [ht] at g; exact g.elim
  | ex c m => rw [ht] at g; exact g.elim
  | amb f => rw [ht] at g; exact g.elim
  | ok ρ' n2 =>
    rw [ht] at g
    exact ⟨aT, Oc, H0, ρ, n1, d, ρ', n2, s1, r, ht, fun σ' H' k s' => GoS1.nx g k s'⟩
/-! name op= value -/
def sAug (i : Nat) (g : D → D → Option D) (f : SE) : SS := fun ρ n => match ρ[i]? with
  | some (.sh c) => (f ρ n).bind fun d n1 => match g c d with
    | some z => .ok (.nx (ρ.set i (.sh z))) n1
    | none => .no
  | _ => .no
theorem ds_augI (i : Nat) {x : Str} {pos' : Pos} {op : Operator} {P : Int → Int → Prop} {C : Int → Int → Bool} {f : Int → Int → Int} (ho : OpR X (inplaceOp op) (rI P fun i j => .int (f i j))) (hC : ∀ i j, C i j = true → P i j) (hN : X.N.Nodup) (he : DB X W e fa) (hi : X.N[i]? = some x := by rfl) (hx : Loc X.env.scope x := by first | exact Or.inl rfl | exact Or.inr rfl) (hf : X.fn x = true ∨ X.env.scope.names.lookup x = some .local := by first | exact .inl rfl | exact .inr rfl | assumption) :
    DS X W (.AugAssign (.Name x pos') op e pos) (sAug i (iD C f) fa) := PS.imp (ps_aug hN hi hx he (ti := rI P fun i j => .int (f i j)) (fun pins s σ H x y v u Q I rx ry h => ho pins s σ H x y v u Q I rx ry h) hf) fun E σ H h => by
  obtain ⟨aT, Oc, H0, ρ, n, s, h⟩ := h
  unfold sAug at h
  split at h
  case h_2 => exact h.elim
  rename_i c hc
  obtain ⟨v, hv, rv⟩ := s.st.sh i c hc
  refine ⟨v, hv, ?_⟩
  refine GoS.bind s h fun H1 w d n1 s1 e1 r g => ?_
  cases hz : iD C f c d with
  | none => rw [hz] at g; exact g.elim
  | some z =>
    rw [hz] at g
    cases c <;> cases d <;> try (exact (no_some hz).elim)
    obtain ⟨h1, rfl⟩ := some_ite hz
    cases rv
    exact ⟨_, _, rfl, r.int, hC _ _ h1, GoS1.nx g (Kp.anti fun b h => Oo.set_sub sh_ow h) (s1.setSh i (.int _))⟩
/-! ### loops -/
def forF (τ : D → Ev → Option Ev) (F : SS) : List D → Ev → Nat → Rs Fl
  | [], ρ, n => .ok (.nx ρ) n
  | d :: ds, ρ, n => match τ d ρ with
    | none => .no
    | some ρ1 => (F ρ1 n).seqF fun ρ2 n2 => forF τ F ds ρ2 n2
def sFor (fi : SI) (τ : D → Ev → Option Ev) (F : SS) : SS := fun ρ n => (fi ρ n).bind fun ds n1 => forF τ F ds ρ n1
theorem ds_for {tg iter : Expr} {body : List Stmt} {fi : SI} {τ : D → Ev → Option Ev} {ix : List Nat} (hp : PassesOwn (model X.prog X.w) X.A X.env X.xe) (hc : X.calm = true) (hi : DI X W tg iter fi) (hg : DG X tg ix τ) (hb : DSs X W body F) (hs : ∀ x, foldedSetIterable iter X.env x = pure x := by intro _; rfl) :
    DS X W (.For tg iter body [] pos) (sFor fi τ F) := PS.imp (ps_for hp hc hi hg hb hs) fun E σ H h => by
  obtain ⟨aT, Oc, H0, ρ, n, s, h⟩ := h
  refine GoS.bind (R := fun aT O (_ : Hp) H1 (J : It) (ds : List D) => Wk X.K aT (lk aT O H1) J ds) s h fun H1 J ds n1 s1 e1 wk g => ?_
  have wk : Wk X.K aT (LK (Oo Oc σ ρ) H1) J ds := wk
  refine ⟨fun i m σ' H' => ∃ ρ' n', m = ds.length - i ∧ i ≤ ds.length ∧ StR X.K aT Oc H0 H' σ' ρ' n' ∧ Kp (Oo Oc σ ρ) H1 (Oo Oc σ' ρ') H' ∧ GoS1 X.K X.mg W aT Oc H0 H1 (Oo Oc σ ρ) (forF τ F (ds.drop i) ρ' n') E,
    ⟨ds.length, ρ, n1, by simp, Nat.zero_le _, s1, Kp.refl, by simpa using g⟩, ?_⟩
  rintro i m σ' H' ⟨ρ', n', rfl, hi, s', k', g'⟩
  obtain ⟨w1, w2⟩ := wk (Oo Oc σ' ρ') H' k' s'.st.domO
  by_cases hlt : i < ds.length
  case neg =>
    have e : ds.drop i = [] := List.drop_eq_nil_of_le (by omega)
    rw [e] at g'
    exact .inl ⟨w2 i (by omega), GoS1.nx g' k' s'⟩
  have hd : ds[i]? = some ds[i] := List.getElem?_eq_getElem hlt
  rw [List.drop_eq_getElem_cons hlt] at g'
  generalize ds[i] = d at hd g'
  obtain ⟨hgo, hy⟩ := w1 i d hd
  refine .inr ⟨hgo, fun σ2 H2 => ∃ ρ2 n2, StR X.K aT Oc H0 H2 σ2 ρ2 n2 ∧ Kp (Oo Oc σ ρ) H1 (Oo Oc σ2 ρ2) H2 ∧ GoS1 X.K X.mg W aT Oc H0 H1 (Oo Oc σ ρ) (forF τ F (ds.drop (i + 1)) ρ2 n2) E, ?_, ?_⟩
  · rintro σ2 H2 ⟨ρ2, n2, a1, a2, a3⟩
    exact ⟨ds.length - (i + 1), by omega, ρ2, n2, rfl, hlt, a1, a2, a3⟩
  · intro x H2 y
    obtain ⟨hk, rx⟩ := hy x H2 y
    have e2 : Ex1 aT H' H2 := fun b u _ e => hk b u e
    have s2 : StR X.K aT Oc H0 H2 σ' ρ' n' := s'.step e2 ⟨hk _ _ s'.st.tw.1, s'.st.tw.2⟩
    have k2 : Kp (Oo Oc σ ρ) H1 (Oo Oc σ' ρ') H2 := k'.trans (e2.kp (.inl s'.st.oT))
    unfold forF at g'
    cases ht : τ d ρ' with
    | none => rw [ht] at g'; exact g'.elim
    | some ρ1 =>
      rw [ht] at g'
      refine ⟨aT, Oc, ρ', n', d, ρ1, s2.st, rx, ht, fun σ3 s3 o3 w3 => ?_⟩
      have r3 : StR X.K aT Oc H0 H2 σ3 ρ1 n' := ⟨s3, s2.ex, fun j e' b h1 h2 => ?_, s2.d0⟩
      · refine ⟨aT, Oc, H0, ρ1, n', r3, ?_⟩
        have k3 : Kp (Oo Oc σ ρ) H1 (Oo Oc σ3 ρ1) H2 := k2.trans (Kp.anti o3)
        exact GoS1.seq (show GoS1 X.K X.mg W aT Oc H0 H1 (Oo Oc σ ρ) ((F ρ1 n').seqF fun ρ2 n2 => forF τ F (ds.drop (i + 1)) ρ2 n2) E from g') rfl fun ρ2 m σ4 H4 g4 k4 s4 => ⟨ρ2, m, s4, k3.trans k4, g4⟩
      · have ho : Oo Oc σ' ρ' b := o3 b (.inr ⟨j, e', h1, h2⟩)
        rcases ho with ho | ⟨l, e'', z1, z2⟩
        · obtain ⟨b', h3, h4, _⟩ := s3.ow j e' h1
          rw [h2] at h3
          cases h3
          exact absurd ho h4
        · exact s2.nw l e'' b z1 z2
def whileF (ft : ST) (F : SS) : Nat → Ev → Nat → Rs Fl
  | 0, _, _ => .no
  | k + 1, ρ, n => (ft ρ n).bind fun b n1 => if b = true then (F ρ n1).seqF fun ρ2 n2 => whileF ft F k ρ2 n2 else .ok (.nx ρ) n1
theorem ds_while (fuel : Nat) {body : List Stmt} (hp : PassesOwn (model X.prog X.w) X.A X.env X.xe) (hc : DT X W c ft) (hb : DSs X W body F) : DS X W (.While c body [] pos) (whileF ft F fuel) := PS.imp (ps_while hp hc hb) fun E σ H h => by
  obtain ⟨aT, Oc, H0, ρ, n, s, h⟩ := h
  refine ⟨fun m σ' H' => ∃ ρ' n', StR X.K aT Oc H0 H' σ' ρ' n' ∧ GoS1 X.K X.mg W aT Oc H0 H' (Oo Oc σ' ρ') (whileF ft F m ρ' n') E, ⟨fuel, ρ, n, s, h⟩, ?_⟩
  rintro m σ' H' ⟨ρ', n', s', g'⟩
  cases m with
  | zero => exact g'.elim
  | succ k =>
    unfold whileF at g'
    refine GoS.bind s' g' fun H1 v b n1 s1 e1 r g => ?_
    have r : v = b := r
    subst r
    cases v with
    | false =>
      rw [if_neg (by decide)]
      exact GoS1.nx (show GoS1 X.K X.mg W aT Oc H0 H1 (Oo Oc σ' ρ') (.ok (.nx ρ') n1) E from g) Kp.refl s1
    | true =>
      rw [if_pos rfl]
      refine ⟨fun σ2 H2 => ∃ ρ2 n2, StR X.K aT Oc H0 H2 σ2 ρ2 n2 ∧ GoS1 X.K X.mg W aT Oc H0 H2 (Oo Oc σ2 ρ2) (whileF ft F k ρ2 n2) E, fun σ2 H2 q => ⟨k, Nat.lt_succ_self k, q⟩, aT, Oc, H0, ρ', n1, s1, ?_⟩
      exact GoS1.seq (show GoS1 X.K X.mg W aT Oc H0 H1 (Oo Oc σ' ρ') ((F ρ' n1).seqF fun ρ2 n2 => whileF ft F k ρ2 n2) E from g) rfl fun ρ2 m σ4 H4 g4 k4 s4 => ⟨ρ2, m, s4, GoS1.kp k4 g4⟩
end
end DL

set_option Elab.async false
set_option linter.all false
set_option maxRecDepth 100000
set_option maxHeartbeats 4000000
namespace DL
open PySem PySem.Spec PyProof.Rows L2

/-! ### a, b = x, y -/
inductive Mx (K : PySem.W.Frag) (aT : Addr) (O : Addr → Prop) (H' : Hp) : List Bool → List Addr → List V → List D → Prop
  | nil : Mx K aT O H' [] [] [] []
  | sh {v : V} {d : D} {fl : List Bool} {as : List Addr} {vs : List V} {ds : List D} : Rp K aT O H' v d → Mx K aT O H' fl as vs ds → Mx K aT O H' (false :: fl) as (v :: vs) (d :: ds)
  | ow {a : Addr} {d : D} {fl : List Bool} {as : List Addr} {vs : List V} {ds : List D} : Own K aT O H' a d → Mx K aT O H' fl as vs ds → Mx K aT O H' (true :: fl) (a :: as) (.ref a :: vs) (d :: ds)
theorem Mx.mono {K : PySem.W.Frag} {aT : Addr} {O O' : Addr → Prop} {H H' : Hp} (k : Kp O H O' H') {fl : List Bool} {as : List Addr} {vs : List V} {ds : List D} (m : Mx K aT O H fl as vs ds) (h : ∀ a ∈ as, ∀ u, H a = some u → H' a = some u) : Mx K aT O' H' fl as vs ds := by
  induction m with
  | nil => exact .nil
  | sh r _ ih => exact .sh (r.mono k) (ih h)
  | ow o _ ih => exact .ow (o.mono k (h _ List.mem_cons_self)) (ih fun a ha => h a (List.mem_cons_of_mem _ ha))
def setV : List Nat → List V → St → St
  | i :: is, v :: vs, σ => setV is vs (σ.set i (some v))
  | _, _, σ => σ
def setM : List Nat → List Bool → List D → Ev → Ev
  | i :: is, f :: fs, d :: ds, ρ => setM is fs ds (ρ.set i (if f = true then .ow d else .sh d))
  | _, _, _, ρ => ρ
theorem StE.many {K : PySem.W.Frag} {aT : Addr} {H : Hp} {n : Nat} {fl : List Bool} {as : List Addr} {vs : List V} {ds : List D} : ∀ {Oc : Addr → Prop} {σ : St} {ρ : Ev} (is : List Nat),
    StE K aT (fun b => Oc b ∨ b ∈ as) H σ ρ n → Mx K aT (Oo (fun b => Oc b ∨ b ∈ as) σ ρ) H fl as vs ds → as.Nodup → (∀ a ∈ as, ¬ Oc a ∧ a ≠ aT) → is.length = ds.length →
    StE K aT Oc H (setV is vs σ) (setM is fl ds ρ) n ∧ ∀ b, Oo Oc (setV is vs σ) (setM is fl ds ρ) b → Oo (fun b => Oc b ∨ b ∈ as) σ ρ b := by
  induction fl generalizing as vs ds with
  | nil =>
    intro Oc σ ρ is s m nd hn hl
    cases m
    have : is = [] := List.length_eq_zero_iff.mp hl
    subst this
    have e : (fun b => Oc b ∨ b ∈ ([] : List Addr)) = Oc := by funext b; simp
    rw [e] at s
    exact ⟨s, fun b h => by rw [e]; exact h⟩
  | cons f fl ih =>
    intro Oc σ ρ is s m nd hn hl
    cases is with
    | nil => cases m <;> simp at hl
    | cons i is =>
      cases m with
      | sh r m =>
        rename_i v d vs ds
        have s1 := s.setSh i r
        have sub : ∀ b, Oo (fun b => Oc b ∨ b ∈ as) (σ.set i (some v)) (ρ.set i (.sh d)) b → Oo (fun b => Oc b ∨ b ∈ as) σ ρ b := fun b h => Oo.set_sub sh_ow h
        obtain ⟨k1, k2⟩ := ih is s1 (m.mono (Kp.anti sub) fun _ _ _ q => q) nd hn (by simpa using hl)
        exact ⟨k1, fun b h => sub b (k2 b h)⟩
      | ow o m =>
        rename_i a d as vs ds
        obtain ⟨nd1, nd2⟩ := List.nodup_cons.mp nd
        obtain ⟨z1, z2⟩ := hn a List.mem_cons_self
        have s1 := (s.own i (.inr List.mem_cons_self) z2 o).congr (Oc' := fun b => Oc b ∨ b ∈ as) fun b => by
          constructor
          · rintro ⟨h | h, h2⟩
            · exact .inl h
            · rcases List.mem_cons.mp h with h | h
              · exact absurd h h2
              · exact .inr h
          · rintro (h | h)
            · exact ⟨.inl h, fun z => z1 (by rw [← z]; exact h)⟩
            · exact ⟨.inr (List.mem_cons_of_mem _ h), fun z => nd1 (by rw [← z]; exact h)⟩
        have sub : ∀ b, Oo (fun b => Oc b ∨ b ∈ as) (σ.set i (some (.ref a))) (ρ.set i (.ow d)) b → Oo (fun b => Oc b ∨ b ∈ a :: as) σ ρ b := fun b h => by
          rcases h with (h | h) | ⟨j, e, h1, h2⟩
          · exact .inl (.inl h)
          · exact .inl (.inr (List.mem_cons_of_mem _ h))
          · rcases set_get_sl h1 with ⟨rfl, _, hl'⟩ | ⟨ne, h1⟩
            · rw [List.getElem?_set_self (by rw [s.len]; exact hl')] at h2
              cases h2
              exact .inl (.inr List.mem_cons_self)
            · rw [List.getElem?_set_ne ne] at h2
              exact .inr ⟨j, e, h1, h2⟩
        obtain ⟨k1, k2⟩ := ih is s1 (m.mono (Kp.anti sub) fun _ _ _ q => q) nd2 (fun b hb => hn b (List.mem_cons_of_mem _ hb)) (by simpa using hl)
        exact ⟨k1, fun b h => sub b (k2 b h)⟩
def GmAt (X : Cx) (W : WX) (fl : List Bool) (aT : Addr) (Oc : Addr → Prop) (ρ : Ev) (σ : St) (H : Hp) (Q : List V → Hp → Prop) : Rs (List D) → Prop
  | .ok ds n' => ∀ vs H' as, Ex1 aT H H' → Tw aT H' n' → StE X.K aT (fun b => Oc b ∨ b ∈ as) H' σ ρ n' → as.Nodup → (∀ a ∈ as, H a = none) → Mx X.K aT (Oo (fun b => Oc b ∨ b ∈ as) σ ρ) H' fl as vs ds → Q vs H'
  | .ex c n' => ∃ u, X.mg c = some u ∧ ∀ H', Ex1 aT H H' → Tw aT H' n' → W u none σ H'
  | .no => False
  | .amb f => ∀ b, GmAt X W fl aT Oc ρ σ H Q (f b)
def Gm (X : Cx) (W : WX) (fl : List Bool) (f : SA) (σ : St) (H : Hp) (Q : List V → Hp → Prop) : Prop :=
  ∃ (aT : Addr) (Oc : Addr → Prop) (ρ : Ev) (n : Nat), StE X.K aT Oc H σ ρ n ∧ GmAt X W fl aT Oc ρ σ H Q (f ρ n)
def DM (X : Cx) (W : WX) (fl : List Bool) (es : List Expr) (f : SA) : Prop := PA X es (Gm X W fl f)
section
variable {X : Cx} {W : WX} {a b c e : Expr} {es : List Expr} {fa fb fc : SE} {pos : Pos} {st : Stmt} {rest : List Stmt} {F G : SS} {ft : ST}
theorem dm_nil : DM X W [] [] eNil := PA.imp pa_nil fun σ H Q h => by
  obtain ⟨aT, Oc, ρ, n, s, h⟩ := h
  have e : (fun b => Oc b ∨ b ∈ ([] : List Addr)) = Oc := by funext b; simp
  exact h [] H [] .refl s.tw (by rw [e]; exact s) .nil (fun _ z => nomatch z) .nil
theorem dm_sh {fl : List Bool} {fr : SA} (ha : DE X W e fa) (hr : DM X W fl es fr) (hs : starEach (e :: es) X.env = (false, eval e X.env) :: starEach es X.env := by rfl) : DM X W (false :: fl) (e :: es) (eCons fa fr) := PA.imp (pa_cons ha hr hs) fun σ H Q h => by
  obtain ⟨aT, Oc, ρ, n, s, h⟩ := h
  refine ⟨aT, Oc, ρ, n, s, ?_⟩
  unfold eCons at h
  generalize fa ρ n = r0 at h ⊢
  induction r0 with
  | amb f ih => exact fun b => ih b (h b)
  | no => exact h
  | ex c m => exact h
  | ok d n1 =>
    intro v H1 e1 t1 r
    refine ⟨aT, Oc, ρ, n1, s.step e1 t1, ?_⟩
    have h : GmAt X W (false :: fl) aT Oc ρ σ H Q ((fr ρ n1).bind fun ds n2 => Rs.ok (d :: ds) n2) := h
    generalize fr ρ n1 = r1 at h ⊢
    induction r1 with
    | amb f ih => exact fun b => ih b (h b)
    | no => exact h
    | ex c m =>
      obtain ⟨u, h1, h2⟩ := h
      exact ⟨u, h1, fun H' e t => h2 H' (e1.trans e) t⟩
    | ok ds n2 =>
      intro vs H' as e2 t2 s2 nd hn m
      refine h (v :: vs) H' as (e1.trans e2) t2 s2 nd (fun a ha => e1.none t1 (hn a ha)) (.sh (r.mono fun b u eb nb => ?_) m)
      refine ⟨e2 b u (fun z => nb (by rw [z]; exact .inl s.oT)) eb, ?_⟩
      rintro ((z | z) | z)
      · exact nb (.inl z)
      · rw [hn b z] at eb; cases eb
      · exact nb (.inr z)
theorem Own.some {K : PySem.W.Frag} {aT : Addr} {O : Addr → Prop} {H : Hp} {a : Addr} {d : D} (o : Own K aT O H a d) : H a ≠ none := by
  cases d <;> try exact o.elim
  · obtain ⟨xs, q, _⟩ := o; rw [q]; exact fun z => nomatch z
  · obtain ⟨xs, q, _⟩ := o; rw [q]; exact fun z => nomatch z
theorem dm_ow {fl : List Bool} {fr : SA} (ha : DF X W e fa) (hr : DM X W fl es fr) (hs : starEach (e :: es) X.env = (false, eval e X.env) :: starEach es X.env := by rfl) : DM X W (true :: fl) (e :: es) (eCons fa fr) := PA.imp (pa_cons ha hr hs) fun σ H Q h => by
  obtain ⟨aT, Oc, ρ, n, s, h⟩ := h
  refine ⟨aT, Oc, ρ, n, s, ?_⟩
  unfold eCons at h
  generalize fa ρ n = r0 at h ⊢
  induction r0 with
  | amb f ih => exact fun b => ih b (h b)
  | no => exact h
  | ex c m => exact h
  | ok d n1 =>
    rintro v H1 e1 t1 ⟨p, rfl, hp, np, o⟩
    have na : p ≠ aT := fun z => by rw [z, s.tw.1] at hp; cases hp
    have s1 := s.lock2 e1 t1 hp o.some
    refine ⟨aT, _, ρ, n1, s1, ?_⟩
    have h : GmAt X W (true :: fl) aT Oc ρ σ H Q ((fr ρ n1).bind fun ds n2 => Rs.ok (d :: ds) n2) := h
    generalize fr ρ n1 = r1 at h ⊢
    induction r1 with
    | amb f ih => exact fun b => ih b (h b)
    | no => exact h
    | ex c m =>
      obtain ⟨u, h1, h2⟩ := h
      exact ⟨u, h1, fun H' e t => h2 H' (e1.trans e) t⟩
    | ok ds n2 =>
      intro vs H' as e2 t2 s2 nd hn m
      have eq : (fun b => (Oc b ∨ b = p) ∨ b ∈ as) = (fun b => Oc b ∨ b ∈ p :: as) := by funext b; simp [or_assoc]
      rw [eq] at s2 m
      refine h (.ref p :: vs) H' (p :: as) (e1.trans e2) t2 s2 (List.nodup_cons.mpr ⟨fun z => o.some (hn p z), nd⟩) (fun b hb => ?_) (.ow (o.mono (fun b u eb nb => ?_) fun u q => e2 p u na q) m)
      · rcases List.mem_cons.mp hb with rfl | hb
        · exact hp
        · exact e1.none t1 (hn b hb)
      · refine ⟨e2 b u (fun z => nb (by rw [z]; exact .inl (.inl s.oT))) eb, ?_⟩
        rintro ((z | z) | z)
        · exact nb (.inl (.inl z))
        · rcases List.mem_cons.mp z with z | z
          · exact nb (.inr z)
          · rw [hn b z] at eb; cases eb
        · exact nb (.inl (.inr z))
def sPar (is : List Nat) (fl : List Bool) (f : SA) : SS := fun ρ n => (f ρ n).bind fun ds n1 => if ds.length = is.length then .ok (.nx (setM is fl ds ρ)) n1 else .no
theorem Mx.len {K : PySem.W.Frag} {aT : Addr} {O : Addr → Prop} {H' : Hp} {fl : List Bool} {as : List Addr} {vs : List V} {ds : List D} (m : Mx K aT O H' fl as vs ds) : vs.length = ds.length := by
  induction m with
  | nil => rfl
  | sh _ _ ih => simp [ih]
  | ow _ _ ih => simp [ih]
theorem par_core {is : List Nat} {fl : List Bool} {f : SA} {E : Ends} {σ : St} {H : Hp} {Q : List V → Hp → Prop} (h : GoS X W (sPar is fl f) E σ H)
    (q : ∀ aT vs H1, vs.length = is.length → (∃ n, Tw aT H1 n) → (∀ H2, Ex1 aT H1 H2 → H2 aT = H1 aT → E.nx (setV is vs σ) H2) → Q vs H1) : Gm X W fl f σ H Q := by
  obtain ⟨aT, Oc, H0, ρ, n, s, h⟩ := h
  refine ⟨aT, Oc, ρ, n, s.st, ?_⟩
  unfold sPar at h
  generalize f ρ n = r0 at h ⊢
  induction r0 with
  | amb f ih => exact fun b => ih b (h b)
  | no => exact h
  | ex c m =>
    obtain ⟨u, h1, h2⟩ := h
    exact ⟨u, h1, fun H' e t => h2 σ H' (s.ex.trans e) t⟩
  | ok ds n1 =>
    intro vs H1 as e1 t1 s1 nd hn m
    have h : GoS1 X.K X.mg W aT Oc H0 H (Oo Oc σ ρ) (if ds.length = is.length then .ok (.nx (setM is fl ds ρ)) n1 else .no) E := h
    by_cases hl : ds.length = is.length
    case neg => rw [if_neg hl] at h; exact h.elim
    rw [if_pos hl] at h
    refine q aT vs H1 (by rw [m.len, hl]) ⟨n1, t1⟩ fun H2 e2 ea => ?_
    have t2 : Tw aT H2 n1 := ⟨ea.trans t1.1, t1.2⟩
    have s2 := s1.step e2 t2
    have no : ∀ a ∈ as, ¬ Oc a ∧ a ≠ aT := fun a ha => ⟨fun z => s.st.dom a z (hn a ha), fun z => by
      have := hn a ha
      rw [z, s.st.tw.1] at this
      cases this⟩
    have m2 := m.mono (e2.kp (O := Oo (fun b => Oc b ∨ b ∈ as) σ ρ) (.inl (.inl s.st.oT))) fun a ha u qa => e2 a u (no a ha).2 qa
    obtain ⟨k1, k2⟩ := StE.many is s2 m2 nd no hl.symm
    have sub : ∀ b u, H b = some u → ¬ Oo Oc σ ρ b → ¬ Oo Oc (setV is vs σ) (setM is fl ds ρ) b := fun b u eb nb z => by
      rcases k2 b z with (z | z) | z
      · exact nb (.inl z)
      · rw [hn b z] at eb; cases eb
      · exact nb (.inr z)
    refine GoS1.nx h (fun b u eb nb => ⟨(e1.trans e2) b u (fun z => nb (by rw [z]; exact .inl s.st.oT)) eb, sub b u eb nb⟩) ⟨k1, s.ex.trans (e1.trans e2), fun i d a h1 h2 => ?_, s.d0⟩
    rcases k2 a (.inr ⟨i, d, h1, h2⟩) with (z | z) | ⟨j, e, z1, z2⟩
    · obtain ⟨a', y1, y2, _⟩ := k1.ow i d h1
      rw [h2] at y1
      cases y1
      exact absurd z y2
    · exact s.ex.none s.st.tw (hn a z)
    · exact s.nw j e a z1 z2
theorem ds_par {i j : Nat} {x y : Str} {fl : List Bool} {f : SA} {px py pt : Pos} {kt k2 pt2} (hc : X.calm = true) (hN : X.N.Nodup) (ha : DM X W fl [a, b] f) (hij : i ≠ j) (hx : X.env.scope.names.lookup x = some .local) (hy : X.env.scope.names.lookup y = some .local)
    (hi : X.N[i]? = some x := by rfl) (hj : X.N[j]? = some y := by rfl)
    (hw : swappedStores [.Tuple [.Name x px, .Name y py] kt pt] (.Tuple [a, b] k2 pt2) X.env = pure (some [x, y]) := by rfl)
    (hs : swapsWithSole [.Tuple [.Name x px, .Name y py] kt pt] (.Tuple [a, b] k2 pt2) pos.line X.env = pure false := by rfl) :
    DS X W (.Assign [.Tuple [.Name x px, .Name y py] kt pt] (.Tuple [a, b] k2 pt2) pos) (sPar [i, j] fl f) := PS.imp (ps_par hc hN hi hj hij hx hy ha hw hs) fun E σ H h => by
  refine par_core h fun aT vs H1 hl _ q => ?_
  match vs, hl with
  | [v, w], _ => exact ⟨v, w, rfl, q H1 .refl rfl⟩
theorem ds_par3 {i j l : Nat} {x y z : Str} {fl : List Bool} {f : SA} {px py pz pt : Pos} {kt k2 pt2} (hc : X.calm = true) (hN : X.N.Nodup) (ha : DM X W fl [a, b, c] f) (hij : i ≠ j) (hil : i ≠ l) (hjl : j ≠ l) (hx : X.env.scope.names.lookup x = some .local) (hy : X.env.scope.names.lookup y = some .local) (hz : X.env.scope.names.lookup z = some .local)
    (hi : X.N[i]? = some x := by rfl) (hj : X.N[j]? = some y := by rfl) (hl : X.N[l]? = some z := by rfl)
    (hw : swappedStores [.Tuple [.Name x px, .Name y py, .Name z pz] kt pt] (.Tuple [a, b, c] k2 pt2) X.env = pure (some [x, y, z]) := by rfl)
    (hs : swapsWithSole [.Tuple [.Name x px, .Name y py, .Name z pz] kt pt] (.Tuple [a, b, c] k2 pt2) pos.line X.env = pure false := by rfl) :
    DS X W (.Assign [.Tuple [.Name x px, .Name y py, .Name z pz] kt pt] (.Tuple [a, b, c] k2 pt2) pos) (sPar [i, j, l] fl f) := PS.imp (ps_par3 hc hN hi hj hl hij hil hjl hx hy hz ha hw hs) fun E σ H h => by
  refine par_core h fun aT vs H1 hl _ q => ?_
  match vs, hl with
  | [u, v, w], _ => exact ⟨u, v, w, rfl, q H1 .refl rfl⟩
/-- by way of a tuple: some name is captured -/
def gV : List Nat → TGs
  | [] => gNil
  | i :: is => gCons (gName i) (gV is)
theorem gV_ok : ∀ {is : List Nat} {vs : List V} {σ : St} {H : Hp} {Q : St → Hp → Prop}, vs.length = is.length → Q (setV is vs σ) H → gV is vs σ H Q
  | [], [], _, _, _, _, q => ⟨rfl, q⟩
  | i :: is, v :: vs, σ, H, Q, hl, q => ⟨v, vs, rfl, gV_ok (is := is) (vs := vs) (σ := σ.set i (some v)) (H := H) (Q := Q) (by simpa using hl) q⟩
theorem ds_parT {is : List Nat} {ts : List Expr} {fl : List Bool} {f : SA} {pt : Pos} {kt k2 pt2} (hc : X.calm = true) (ha : DM X W fl es f) (hg : PGs X ts (gV is)) (hsm : is.length ≤ szMax) (hn : (assignEach ts X.env).length = is.length := by rfl) (hst : (assignEach ts X.env).findIdx? (·.1) = none := by rfl)
    (hs : swapsWithSole [.Tuple ts kt pt] (.Tuple es k2 pt2) pos.line X.env = pure false := by rfl) (hw : swappedStores [.Tuple ts kt pt] (.Tuple es k2 pt2) X.env = pure none := by rfl)
    (h1 : (assignEach [.Tuple ts kt pt] X.env).map (·.2) = [assign (.Tuple ts kt pt) X.env] := by rfl) :
    DS X W (.Assign [.Tuple ts kt pt] (.Tuple es k2 pt2) pos) (sPar is fl f) := PS.imp (ps_asg (pe_tup ha) (pg_tup hc hg hn hst) hs hw h1) fun E σ H h => by
  refine par_core h fun aT vs H1 hl ⟨n, tw⟩ q => ?_
  refine ⟨sz (by rw [hl]; exact hsm), fun p hp => ⟨p, vs, rfl, SqT.of upd_same, hl, ?_⟩⟩
  have na : aT ≠ p := fun z => by rw [← z, tw.1] at hp; cases hp
  exact gV_ok hl (q _ (.new hp) (upd_ne na))
/-! ### dict displays -/
abbrev SKV := Ev → Nat → Rs (List (Key × D))
def kvNil : SKV := fun _ n => .ok [] n
def kvCons (fk fv : SE) (g : SKV) : SKV := fun ρ n => (fk ρ n).bind fun k n1 => (fv ρ n1).bind fun d n2 => (Rs.of (keyD k) n2).bind fun y n2 => (g ρ n2).bind fun r n3 => .ok ((y, d) :: r) n3
def mergeD (kds : List (Key × D)) : List (Key × D) := kds.foldl (fun acc kv => putD acc kv.1 kv.2) []
def eDict (g : SKV) : SE := fun ρ n => (g ρ n).bind fun kds n1 => if kds.length ≤ 15 then .ok (.dct (mergeD kds)) n1 else .no
inductive DP (X : Cx) (W : WX) (pos : Pos) : List (Option Expr) → List Expr → List (TE × TE) → SKV → Prop
  | nil : DP X W pos [] [] [] kvNil
  | cons {k v : Expr} {ks : List (Option Expr)} {vs : List Expr} {fk fv : SE} {trs : List (TE × TE)} {g : SKV} : DB X W k fk → DE X W v fv → DP X W pos ks vs trs g → DP X W pos (some k :: ks) (v :: vs) ((Go X W (RbX X) fk, Go X W (RpX X) fv) :: trs) (kvCons fk fv g)
theorem DP.pps {ks : List (Option Expr)} {vs : List Expr} {trs : List (TE × TE)} {g : SKV} (h : DP X W pos ks vs trs g) : PPs X pos ks vs trs := by
  induction h with
  | nil => exact pps_nil
  | cons h1 h2 _ ih => exact pps_cons h1 h2 ih
abbrev RkX (X : Cx) : Rl (List (V × V)) (List (Key × D)) := fun aT O _ H ps kds => ∃ kvs : List (Key × V), ps = kvs.map (fun kv => (kV kv.1, kv.2)) ∧ Rpk X.K aT O H kvs kds
theorem DP.go {ks : List (Option Expr)} {vs : List Expr} {trs : List (TE × TE)} {g : SKV} (h : DP X W pos ks vs trs g) : ∀ {σ : St} {H : Hp} {Q : List (V × V) → Hp → Prop}, Go X W (RkX X) g σ H Q → tPairs trs σ H Q := by
  induction h with
  | nil =>
    rintro σ H Q ⟨aT, Oc, ρ, n, s, h⟩
    exact GoAt.ok (R := RkX X aT (Oo Oc σ ρ)) h .refl s.tw ⟨[], rfl, .nil⟩
  | cons h1 h2 h3 ih =>
    rintro σ H Q h
    refine Go.bind (R' := RkX X) mo_c h fun aT Oc ρ H1 x k n1 s1 r1 g1 => ?_
    refine GoAt.bind (R' := RkX X) mo_c s1 g1 fun H2 y d n2 s2 e2 r2 g2 => ?_
    refine ih ?_
    cases hk : keyD k with
    | none => rw [hk] at g2; exact g2.elim
    | some ky =>
      rw [hk] at g2
      refine GoAt.bind (R' := RkX X) mo_c s2 g2 fun H3 ps kds n3 s3 e3 r3 g3 => ?_
      obtain ⟨kvs, rfl, rk⟩ := r3
      refine GoAt.ok (R := RkX X aT (Oo Oc σ ρ)) g3 .refl s3.tw ⟨(ky, y) :: kvs, ?_, .cons (r2.mono (e3.kp (.inl s2.oT))) rk⟩
      rw [r1.key hk]; rfl
theorem Rpk.merge {K : PySem.W.Frag} {aT : Addr} {O : Addr → Prop} {H : Hp} : ∀ {kvs : List (Key × V)} {kds : List (Key × D)} {acc : List (Key × V)} {accD : List (Key × D)}, Rpk K aT O H kvs kds → Rpk K aT O H acc accD → Rpk K aT O H (mergeK acc kvs) (kds.foldl (fun acc kv => putD acc kv.1 kv.2) accD)
  | _, _, _, _, .nil, r => r
  | _, _, _, _, .cons (k := k0) (v := v) (vs := vs) (d := d) (ds := ds) h t, r => by
    have q := Rpk.merge t (r.put (k := k0) h)
    exact q
theorem df_dict {keys : List (Option Expr)} {values : List Expr} {trs : List (TE × TE)} {g : SKV} (h : DP X W pos keys values trs g) (hall : keys.all (·.isSome) = true := by rfl) (hl : keys.length = values.length := by rfl) (h0 : keys ≠ [] := by exact List.cons_ne_nil _ _) (h15 : keys.length ≤ 15 := by decide) : DF X W (.Dict keys values pos) (eDict g) :=
  PE.imp (pe_disp h.pps hall hl h0 h15) fun σ H Q q => by
    obtain ⟨aT, Oc, ρ, n, s, q⟩ := q
    intro p hp
    have na : p ≠ aT := fun z => by rw [z, s.tw.1] at hp; cases hp
    have s0 := s.lock (o := .dK []) hp
    refine h.go ⟨aT, _, ρ, n, s0, ?_⟩
    unfold eDict at q
    generalize g ρ n = r0 at q ⊢
    induction r0 with
    | amb f ih => exact fun b => ih b (q b)
    | no => exact q
    | ex c m =>
      obtain ⟨u, h1, h2⟩ := q
      exact ⟨u, h1, fun H' e t => h2 H' ((Ex1.new hp).trans e) t⟩
    | ok kds m =>
      rintro ps H1 e1 t1 ⟨kvs, rfl, rk⟩
      have q : GoAt X.mg W (RfX X aT (Oo Oc σ ρ)) aT σ H (if kds.length ≤ 15 then .ok (.dct (mergeD kds)) m else .no) Q := q
      by_cases hl : kds.length ≤ 15
      case neg => rw [if_neg hl] at q; exact q.elim
      rw [if_pos hl] at q
      refine ⟨e1 p _ na upd_same, kvs, rfl, by rw [rk.length]; exact hl, ?_⟩
      have hO : ∀ b, (Oo Oc σ ρ b ∨ b = p) → Oo (fun b => Oc b ∨ b = p) σ ρ b := fun b h => by
        rcases h with (h | h) | h
        · exact .inl (.inl h)
        · exact .inr h
        · exact .inl (.inr h)
      have ex : Ex1 aT H (upd H1 p (.dK (mergeK [] kvs))) := ((Ex1.new hp).trans e1).mut (.inl hp)
      have tw : Tw aT (upd H1 p (.dK (mergeK [] kvs))) m := ⟨by rw [upd_ne na.symm]; exact t1.1, t1.2⟩
      refine q.ok ex tw ⟨p, rfl, hp, s.fresh hp, _, upd_same, ?_⟩
      refine (Rpk.merge rk .nil).mono fun b u eb nb => ?_
      have nb : ¬ Oo (fun b => Oc b ∨ b = p) σ ρ b := nb
      exact ⟨by rw [upd_ne (fun z => nb (.inl (.inr z)))]; exact eb, fun z => nb (hO b z)⟩
end
end DL

set_option Elab.async false
set_option linter.all false
set_option maxRecDepth 100000
set_option maxHeartbeats 4000000
namespace DL
open PySem PySem.Spec PyProof.Rows L2
section
variable {X : Cx} {W : WX} {a b c e o : Expr} {es : List Expr} {fa fb fc fo : SE} {pos apos cpos : Pos} {st : Stmt} {rest : List Stmt} {F G : SS} {ft : ST}
/-! ### unpacking a tuple or a list -/
theorem PG.or {tg : Expr} {t t' : TG} (h : PG X tg t) (h' : PG X tg t') : PG X tg (fun v σ H Q => t v σ H Q ∨ t' v σ H Q) := ⟨fun pins s σ H v u Q I r q => by
  rcases q with q | q
  · exact h.run pins s σ H v u Q I r q
  · exact h'.run pins s σ H v u Q I r q⟩
def aSq (τs : List D → Ev → Nat → Rs Ev) : D → Ev → Nat → Rs Ev := fun d ρ n => match d with
  | .tup ds => τs ds ρ n
  | .trn ds => τs ds ρ n
  | .lst ds => τs ds ρ n
  | _ => .no
theorem dga_sq {τs : List D → Ev → Nat → Rs Ev} {k : Nat} (hc : X.calm = true) (h : DGAs X es τs) (hl : ∀ ds ρ n ρ' n', τs ds ρ n = .ok ρ' n' → ds.length = es.length)
    (hn : (assignEach es X.env).length = es.length := by rfl) (hst : (assignEach es X.env).findIdx? (·.1) = none := by rfl) : DGA X (.Tuple es k pos) (aSq τs) := PG.imp (PG.or (pg_tup hc h hn hst) (pg_unl hc h hn hst)) fun v σ H Q h => by
  obtain ⟨aT, Oc, H0, ρ, n, d, ρ', n', s, r, e, q⟩ := h
  cases d <;> try (exact (no_ok e).elim)
  · rename_i ds
    cases r with
    | tup ht rt => exact .inl ⟨_, _, rfl, ht.sq, by rw [rt.length]; exact hl ds ρ n ρ' n' e, aT, Oc, H0, ρ, n, ds, ρ', n', s, rt, e, q⟩
  · rename_i ds
    cases r with
    | trn ht _ rt => exact .inl ⟨_, _, rfl, SqT.of ht, by rw [rt.length]; exact hl ds ρ n ρ' n' e, aT, Oc, H0, ρ, n, ds, ρ', n', s, rt, e, q⟩
  · rename_i ds
    cases r with
    | lst ht _ rt => exact .inr ⟨_, _, rfl, SqL.of ht, by rw [rt.length]; exact hl ds ρ n ρ' n' e, aT, Oc, H0, ρ, n, ds, ρ', n', s, rt, e, q⟩
/-! ### methods that only look -/
/-- the receiver a list or a text -/
def rcvD (T : String) (d : D) : Bool := match d with
  | .lst _ => T == "list"
  | .str _ => T == "str"
  | _ => false
theorem rcv_ty {aT : Addr} {O : Addr → Prop} {H : Hp} {v : V} {d : D} {T : String} (r : Rb X.K aT O H v d) (h : rcvD T d = true) : tyV X.K T v H := by
  cases d <;> try (exact absurd h Bool.false_ne_true)
  · rw [r.str]; exact eq_of_beq h
  · obtain ⟨p, xs, rfl, hp, _⟩ := r.lst
    exact .inl ⟨eq_of_beq h, xs, SqL.of hp⟩
def MeD (X : Cx) (id : String) (R : Rl V D) (g : D → List D → Option D) : Prop :=
  ∃ r : V → List V → Hp → VK → Prop, MtR X id r ∧ ∀ aT Oc σ ρ n H x d vs ds z (Q : VK), StE X.K aT Oc H σ ρ n → Rb X.K aT (Oo Oc σ ρ) H x d → Paired (Rb X.K aT (Oo Oc σ ρ) H) vs ds → g d ds = some z →
    (∀ v H', Ex1 aT H H' → Tw aT H' n → R aT (Oo Oc σ ρ) H H' v z → Q v H') → r x vs H Q
def eMe (T : String) (g : D → List D → Option D) (fo : SE) (f : SA) : SE := fun ρ n => (fo ρ n).bind fun d n1 => if rcvD T d = true then (f ρ n1).bind fun ds n2 => Rs.of (g d ds) n2 else .no
theorem d_meth {R : Rl V D} (mo : Mo R) {T id : String} {name : Str} {g : D → List D → Option D} {f : SA} (pa : PlainAttrs T) (slot : Slot T name id) (hty : typeOf (.builtin id) = pure (.type "method_descriptor")) (hm : MeD X id R g) (ho : DB X W o fo) (ha : DQ X W (e :: es) f)
    (hbase : attributeBase o name X.env (eval o X.env) = eval o X.env := by rfl)
    (hfew : ((backTo cpos (starEach (e :: es) X.env)).all (fun x => !x.1) && (backToKw cpos (keywordEach [] X.env)).all (fun x => x.1.isSome)
      && decide ((e :: es).length + ([] : List Keyword).length + (if ([] : List Keyword).isEmpty then 0 else 1) < 30)) = true := by rfl)
    (hline : (apos.endLine == cpos.line) = true := by rfl) (hs : starEach (e :: es) X.env = (false, eval e X.env) :: starEach es X.env := by rfl) (hplain : (backTo cpos (starEach es X.env)).any (·.1) = false := by rfl) :
    PE X (.Call (.Attribute o name apos) (e :: es) [] cpos) (Go X W R (eMe T g fo f)) := by
  obtain ⟨r, h1, h2⟩ := hm
  refine PE.imp (pe_bm pa slot hty h1 ho ha hbase hfew hline hs hplain) fun σ H Q h => ?_
  refine Go.bind mo h fun aT Oc ρ H1 v d n1 s1 rv gg => ?_
  by_cases hr : rcvD T d = true
  case neg => rw [if_neg hr] at gg; exact gg.elim
  rw [if_pos hr] at gg
  refine ⟨rcv_ty rv hr, ?_⟩
  refine GoAt.bind mo s1 gg fun H2 vs ds n2 s2 e2 r2 g2 => ?_
  obtain ⟨z, hz, q⟩ := g2.of
  exact h2 aT Oc σ ρ n2 H2 v d vs ds z Q s2 (rv.step e2 (.inl s1.oT)) r2 hz q
def countD (d : D) (ds : List D) : Option D := match d with
  | .lst xs => match ds with
    | [.int k] => (intsD xs).map fun ns => .int (ns.count k)
    | _ => none
  | _ => none
theorem me_count : MeD X "list.count" (RpX X) countD := by
  refine ⟨_, mt_lcount, fun aT Oc σ ρ n H x d vs ds z Q s rx rs hz q => ?_⟩
  unfold countD at hz
  split at hz
  case h_2 => exact (no_some hz).elim
  split at hz
  case h_2 => exact (no_some hz).elim
  obtain ⟨ns, h1, rfl⟩ := Option.map_eq_some_iff.mp hz
  obtain ⟨v, rfl, r⟩ := Pb.one rs
  obtain ⟨p, xs, rfl, hp, rp⟩ := rx.lst
  rw [intsD_map h1] at rp
  rw [rp.ints] at hp
  exact ⟨p, ns, _, rfl, by rw [r.int], SqL.of hp, q _ _ .refl s.tw (.int _)⟩
theorem de_count {f : SA} (ho : DB X W o fo) (ha : DQ X W [e] f) (hbase : attributeBase o "count" X.env (eval o X.env) = eval o X.env := by rfl)
    (hfew : ((backTo cpos (starEach [e] X.env)).all (fun x => !x.1) && (backToKw cpos (keywordEach [] X.env)).all (fun x => x.1.isSome)
      && decide (([e] : List Expr).length + ([] : List Keyword).length + (if ([] : List Keyword).isEmpty then 0 else 1) < 30)) = true := by rfl)
    (hline : (apos.endLine == cpos.line) = true := by rfl) (hs : starEach [e] X.env = (false, eval e X.env) :: starEach [] X.env := by rfl) (hplain : (backTo cpos (starEach [] X.env)).any (·.1) = false := by rfl) : DE X W (.Call (.Attribute o "count" apos) [e] [] cpos) (eMe "list" countD fo f) :=
  d_meth mo_c PySem.F.plainAttrs_list PySem.F.slot_list_count PySem.F.type_list_count me_count ho ha hbase hfew hline hs hplain
/-- d.get(k, x) -/
def eGet (fo fk fx : SE) : SE := fun ρ n => (fo ρ n).bind fun d n1 => match d with
  | .dct kds => (fk ρ n1).bind fun k n2 => (fx ρ n2).bind fun x n3 => Rs.of ((keyD k).map fun y => (valD kds y).getD x) n3
  | _ => .no
theorem de_get (hu : X.A.units + 1 < cLine) (ho : DB X W o fo) (hk : DB X W a fa) (hx : DE X W b fb) (m : M2 X o "get" apos a b cpos := by exact ⟨rfl, rfl, rfl, rfl⟩) : DE X W (.Call (.Attribute o "get" apos) [a, b] [] cpos) (eGet fo fa fb) := PE.imp (pe_dget2 hu ho hk hx m) fun σ H Q h => by
  refine Go.bind mo_c h fun aT Oc ρ H1 v d n1 s1 rv g => ?_
  cases d <;> try exact g.elim
  rename_i kds
  obtain ⟨p, kvs, rfl, hp, rp⟩ := rv.dct
  refine ⟨p, rfl, .inl ⟨kvs, .inl hp⟩, ?_⟩
  refine GoAt.bind mo_c s1 g fun H2 y k n2 s2 e2 r2 g2 => ?_
  refine GoAt.bind mo_c s2 g2 fun H3 z x n3 s3 e3 r3 g3 => ?_
  obtain ⟨w, hw, q⟩ := g3.of
  obtain ⟨ky, h1, rfl⟩ := Option.map_eq_some_iff.mp hw
  obtain ⟨p', kvs', e', hp', rp'⟩ := ((rv.step e2 (O := Oo Oc σ ρ) (.inl s1.oT)).step e3 (.inl s1.oT)).dct
  cases e'
  have := (r2.step e3 (O := Oo Oc σ ρ) (.inl s1.oT)).key h1
  subst y
  refine ⟨_, DGet.k hp', ?_⟩
  rcases rp'.val ky with ⟨z1, z2⟩ | ⟨d', v', z1, z2, z3⟩
  · rw [z2]
    rw [z1] at q
    exact q _ _ .refl s3.tw r3
  · rw [z2]
    rw [z1] at q
    exact q _ _ .refl s3.tw z3
end
/-! ### a def -/
def Rs.out : Rs Fl → Rs D
  | .ok (.nx _) n' => .ok .non n'
  | .ok (.rt d) n' => .ok d n'
  | .ex c n' => .ex c n'
  | .no => .no
  | .amb f => .amb fun b => (f b).out
def callF (m : Nat) (F : SS) (ds : List D) (n : Nat) : Rs D := (F (ds.map Sl.sh ++ List.replicate (m - ds.length) .no) n).out
section
variable {P : Program} {w : World} {K : PySem.W.Frag} {mg : Str → Option Value} {base : Heap}
theorem start_ok {aT : Addr} {Oc : Addr → Prop} {H : Hp} {n : Nat} {N : List Str} {vs : List V} {ds : List D} (t : Tw aT H n) (o : Oc aT) (dm : ∀ b, Oc b → H b ≠ none) (r : Rps K aT Oc H vs ds) : StE K aT Oc H (L2.start N vs) (ds.map Sl.sh ++ List.replicate (N.length - ds.length) .no) n := by
  have noow : ∀ (i : Nat) d, (ds.map Sl.sh ++ List.replicate (N.length - ds.length) Sl.no)[i]? ≠ some (.ow d) := fun i d h => by
    have := List.mem_of_getElem? h
    simp at this
  have eO : ∀ b, Oo Oc (L2.start N vs) (ds.map Sl.sh ++ List.replicate (N.length - ds.length) Sl.no) b → Oc b := fun b h => by
    rcases h with h | ⟨i, d, h, _⟩
    · exact h
    · exact absurd h (noow i d)
  refine ⟨t, o, dm, by simp [L2.start, r.length], fun i d h => ?_, fun i d h => absurd h (noow i d), fun i j d e a h => absurd h (noow i d), fun i k a h => by
    have := List.mem_of_getElem? h
    simp at this⟩
  by_cases hl : i < ds.length
  · rw [List.getElem?_append_left (by simpa using hl), List.getElem?_map] at h
    obtain ⟨d', h1, h2⟩ := Option.map_eq_some_iff.mp h
    cases h2
    obtain ⟨v, h3, h4⟩ := r.get h1
    refine ⟨v, ?_, h4.mono (Kp.anti eO)⟩
    unfold L2.start
    rw [List.getElem?_append_left (by rw [List.length_map, r.length]; exact hl), List.getElem?_map, h3]
    rfl
  · rw [List.getElem?_append_right (by simpa using hl)] at h
    have := List.mem_of_getElem? h
    simp at this
theorem go_start {X : Cx} {W : WX} {F : SS} {N : List Str} {aT : Addr} {Oc : Addr → Prop} {H : Hp} {n : Nat} {vs : List V} {ds : List D} {Q : VK} {E : XK} (t : Tw aT H n) (o : Oc aT) (dm : ∀ b, Oc b → H b ≠ none) (r : Rps X.K aT Oc H vs ds) (hW : W = fun c d _ H' => E c d H')
    (h : SpO X.K X.mg aT Oc H Q E (callF N.length F ds n)) : GoS X W F { nx := fun _ H' => Q .non H', rt := Q } (L2.start N vs) H := by
  subst hW
  have s := start_ok (N := N) t o dm r
  refine ⟨aT, Oc, H, _, n, ⟨s, .refl, fun i d a z => ?_, dm⟩, ?_⟩
  · have := List.mem_of_getElem? z
    simp at this
  · unfold callF at h
    generalize F (ds.map Sl.sh ++ List.replicate (N.length - ds.length) .no) n = r0 at h ⊢
    induction r0 with
    | amb f ih => exact fun b => ih b (h b)
    | no => exact h
    | ex c m =>
      obtain ⟨u, h1, h2⟩ := h
      exact ⟨u, h1, fun σ' H' e t => h2 H' e t⟩
    | ok f m =>
      cases f with
      | rt d => exact h
      | nx ρ' => exact fun σ' H' k s' => h .non H' s'.ex s'.st.tw .non
abbrev bX (P : Program) (w : World) (K : PySem.W.Frag) (mg : Str → Option Value) (base : Heap) (N : List Str) (qual : Str) (st : Stmt) (f : Addr) (cdv : Value) (A : Around) (outer : List Env) (s : Shared) (H : Hp) (E : XK) : Cx := cxOf (L2N.CX P w) P w K mg base N qual (defScope st) f cdv A outer s H E
abbrev bW (E : XK) : WX := fun c d _ H' => E c d H'
theorem bX_takes {N : List Str} {qual : Str} {st : Stmt} {f : Addr} {cdv : Value} {A : Around} {outer : List Env} {s : Shared} {H : Hp} {E : XK}  : L2N.Takes (bX P w K mg base N qual st f cdv A outer s H E) (bW E) := L2N.takes_of rfl rfl rfl rfl
theorem bX_pass {N : List Str} {qual : Str} {st : Stmt} {f : Addr} {cdv : Value} {A : Around} {outer : List Env} {s : Shared} {H : Hp} {E : XK} : PassesOwn (model P w) (bX P w K mg base N qual st f cdv A outer s H E).A (bX P w K mg base N qual st f cdv A outer s H E).env (bX P w K mg base N qual st f cdv A outer s H E).xe := passes_of rfl
theorem fun_okN {x qual : Str} {st : Stmt} {f : Addr} {fd : FuncData} {N ps : List Str} {k : Nat} {sp : Sp} (Fn : L2.Fun K x qual st f fd) (S : FnScope N ps (defScope st)) (len : ∀ us G R Z, sp us G R Z → us.length = ps.length)
    (hbody : ∀ (cv : Value) (A : Around) (o : List Env) (z : Shared) (G : Hp) (us : List V) (R : VK) (Z : XK), Room k (A.deeper (envOfC qual (defScope st) z.heap.objs.size f cv)) → sp us G R Z →
      ∃ t, PSs (bX P w K mg base N qual st f cv A o z G Z) (defBody st) t ∧ t { nx := fun _ G' => R .non G', rt := R } (L2.start N us) G) : FnOk P w K mg base (L2N.CX P w) (k + 1) f fd ps sp := by
  obtain ⟨a1, a2, a3, a4, a5, a6, a7, a8, a9, rfl, lo, co⟩ := Fn.ex
  exact fn_of lo co S len fun A o z G us R Z r q => hbody a7 A o z G us R Z r q
theorem def_ok {x qual : Str} {st : Stmt} {f : Addr} {fd : FuncData} {N ps : List Str} {k : Nat} {F : SS} (Fn : Fun K x qual st f fd) (S : FnScope N ps (defScope st))
    (body : ∀ (cdv : Value) (A : Around) (outer : List Env) (s : Shared) (H : Hp) (E : XK), Room k (bX P w K mg base N qual st f cdv A outer s H E).A → DSs (bX P w K mg base N qual st f cdv A outer s H E) (bW E) (defBody st) F) :
    FnOk P w K mg base (L2N.CX P w) (k + 1) f fd ps (spD K mg ps.length (callF N.length F)) := by
  refine fun_okN Fn S (fun vs H Q E h => ?_) (fun cdv A outer s H vs Q E hr h => ?_)
  · obtain ⟨_, _, ds, _, _, _, _, r, hl, _⟩ := h
    rw [r.length, hl]
  · obtain ⟨aT, Oc, ds, n, t, o, dm, r, hl, q⟩ := h
    exact ⟨_, body cdv A outer s H E hr, go_start (X := bX P w K mg base N qual st f cdv A outer s H E) t o dm r rfl q⟩
/-- another function that says the same -/
theorem CalD.imp {k ar : Nat} {x : Str} {g g' : List D → Nat → Rs D} (c : CalD P w K mg base k x ar g) (h : ∀ ds n, ds.length = ar → g' ds n ≠ .no → g ds n = g' ds n) : CalD P w K mg base k x ar g' := by
  obtain ⟨f, fd, ps, F, a, b, d⟩ := c.ex
  refine ⟨f, fd, ps, F.imp fun vs H Q E q => ?_, a, b, d⟩
  obtain ⟨aT, Oc, ds, n, t, o, dm, r, hl, q⟩ := q
  refine ⟨aT, Oc, ds, n, t, o, dm, r, hl, ?_⟩
  rw [h ds n hl (fun z => by rw [z] at q; exact q)]
  exact q
theorem CalD.mono {k j ar : Nat} {x : Str} {g : List D → Nat → Rs D} (c : CalD P w K mg base k x ar g) (h : k ≤ j) : CalD P w K mg base j x ar g := by
  obtain ⟨f, fd, ps, F, a, b, d⟩ := c.ex
  exact ⟨f, fd, ps, F.mono h, a, b, d⟩
/-! ### the law -/
def spLaw (K : PySem.W.Frag) : Sp := fun vs H Q _ => ∃ (a : Addr) (ns : List Int), vs = [.ref a] ∧ SqL K H a (ns.map V.int) ∧ ns.length ≤ 63 ∧ ∀ H', Q (.bl true) H'
/-- the law's body behind «town = []»: its slots are the script, the town, others -/
def Rs.Sat0 {α : Type} (P : α → Nat → Prop) : Rs α → Prop
  | .ok a n => P a n
  | .ex _ _ => False
  | .no => False
  | .amb f => ∀ b, (f b).Sat0 P
structure lawRun (m : Nat) (F : SS) (ns : List Int) : Prop where
  sat : (F (Sl.sh (.scr ns) :: Sl.sh .cnt :: List.replicate (m - 2) .no) 0).Sat0 fun fl _ => fl = .rt (.bl true)
theorem law_ok {st : Stmt} {f : Addr} {fd : FuncData} {N : List Str} {k : Nat} {F : SS} {p1 p2 p3 : Pos} {rest : List Stmt} (Fn : Fun K "law" "law" st f fd) (S : FnScope N ["script"] (defScope st)) (h2 : 2 ≤ N.length) (ht : N[1]? = some (Str.ofString "town")) (hx : Loc (defScope st) "town")
    (hb : defBody st = .Assign [.Name "town" p1] (.List [] p2) p3 :: rest)
    (body : ∀ (cdv : Value) (A : Around) (outer : List Env) (s : Shared) (H : Hp) (E : XK), Room k (bX P w K mg base N "law" st f cdv A outer s H E).A → DSs (bX P w K mg base N "law" st f cdv A outer s H E) (bW E) rest F)
    {m : Nat} (hm : N.length = m) (run : ∀ ns : List Int, ns.length ≤ 63 → lawRun m F ns) :
    FnOk P w K mg base (L2N.CX P w) (k + 1) f fd ["script"] (spLaw K) := by
  subst hm
  refine fun_okN Fn S (fun vs H Q E h => ?_) (fun cdv A outer s H vs Q E hr h => ?_)
  · obtain ⟨a, ns, rfl, _⟩ := h
    rfl
  · obtain ⟨a, ns, rfl, hS, hl, q⟩ := h
    rw [hb]
    refine ⟨_, pss_cons (ps_set (X := bX P w K mg base N "law" st f cdv A outer s H E) (i := 1) S.nd ht hx (pe_lst pa_nil)) (body cdv A outer s H E hr), ?_⟩
    refine ⟨Nat.zero_le _, fun p hp => ?_⟩
    have hn := run ns hl
    have e0 : (L2.start N [V.ref a]).set 1 (some (.ref p)) = some (.ref a) :: some (.ref p) :: List.replicate (N.length - 2) none := by
      unfold L2.start
      obtain ⟨j, hj⟩ : ∃ j, N.length = j + 2 := ⟨N.length - 2, by omega⟩
      rw [hj]
      rfl
    show GoS (bX P w K mg base N "law" st f cdv A outer s H E) (bW E) F _ ((L2.start N [V.ref a]).set 1 (some (.ref p))) (upd H p (.lst []))
    rw [e0]
    have noow : ∀ (i : Nat) d, (Sl.sh (.scr ns) :: Sl.sh .cnt :: List.replicate (N.length - 2) Sl.no)[i]? ≠ some (.ow d) := fun i d h => by
      have := List.mem_of_getElem? h
      simp at this
    have eO : ∀ b, Oo (fun b => b = p) (some (V.ref a) :: some (V.ref p) :: List.replicate (N.length - 2) none) (Sl.sh (.scr ns) :: Sl.sh .cnt :: List.replicate (N.length - 2) Sl.no) b → b = p := fun b h => by
      rcases h with h | ⟨i, d, h, _⟩
      · exact h
      · exact absurd h (noow i d)
    have ra : Rp K p (fun b => b = p) (upd H p (.lst [])) (.ref a) (.scr ns) := by
      refine .scr ?_
      rcases hS with h | h
      · have ne : a ≠ p := by
          rintro rfl
          rcases h with h | ⟨_, h⟩ <;> rw [hp] at h <;> cases h
        refine .inl ⟨?_, ne⟩
        rcases h with h | ⟨o, h⟩
        · exact .inl (by rw [upd_ne ne]; exact h)
        · exact .inr ⟨o, by rw [upd_ne ne]; exact h⟩
      · exact .inr h
    have s0 : StE K p (fun b => b = p) (upd H p (.lst [])) (some (V.ref a) :: some (V.ref p) :: List.replicate (N.length - 2) none) (Sl.sh (.scr ns) :: Sl.sh .cnt :: List.replicate (N.length - 2) Sl.no) 0 := by
      refine ⟨⟨upd_same, Nat.zero_le _⟩, rfl, fun b hb => by rw [hb, upd_same]; exact fun z => (nomatch z), by simp, fun i d h => ?_, fun i d h => absurd h (noow i d), fun i j d e a h => absurd h (noow i d), fun i k a h => by
    have := List.mem_of_getElem? h
    simp at this⟩
      match i, h with
      | 0, h => cases h; exact ⟨_, rfl, ra.mono (Kp.anti eO)⟩
      | 1, h => cases h; exact ⟨_, rfl, .cnt⟩
      | i + 2, h =>
        have := List.mem_of_getElem? (show (List.replicate (N.length - 2) Sl.no)[i]? = some (.sh d) from h)
        simp at this
    refine ⟨p, fun b => b = p, upd H p (.lst []), _, 0, ⟨s0, .refl, fun i d a z => absurd z (noow i d), s0.dom⟩, ?_⟩
    replace hn := hn.sat
    generalize F (Sl.sh (.scr ns) :: Sl.sh .cnt :: List.replicate (N.length - 2) .no) 0 = r0 at hn ⊢
    induction r0 with
    | amb f ih => exact fun b => ih b (hn b)
    | no => exact hn.elim
    | ex c m => exact hn.elim
    | ok f m =>
      have hn : f = .rt (.bl true) := hn
      subst hn
      intro v H' _ _ r
      cases r
      exact q H'
end
end DL

set_option Elab.async false
set_option linter.all false
set_option maxRecDepth 100000
set_option maxHeartbeats 4000000
namespace DL
open PySem PySem.Spec PyProof.Rows L2
section
variable {X : Cx} {W : WX} {a b c e : Expr} {fa fb fc : SE} {pos : Pos} {ta tb tc : ST}
theorem pt_ifE {t t1 t2 : TT} (hc : PT X c t) (ha : PT X a t1) (hb : PT X b t2) : PT X (.IfExp c a b pos) (fun σ H Q => t σ H fun k H1 => if k = true then t1 σ H1 Q else t2 σ H1 Q) := by
  refine ⟨fun pins s σ H Q I h => ?_⟩
  refine isTrue_IfExp (thn (hc.run pins s σ H _ I h) fun k s1 ⟨H1, I1, q1⟩ => ?_)
  cases k with
  | true => exact ha.run pins s1 σ H1 Q I1 q1
  | false => exact hb.run pins s1 σ H1 Q I1 q1
def tIf' (t ta tb : ST) : ST := fun ρ n => (t ρ n).bind fun k n1 => if k = true then ta ρ n1 else tb ρ n1
theorem dt_if (hc : DT X W c tc) (ha : DT X W a ta) (hb : DT X W b tb) : DT X W (.IfExp c a b pos) (tIf' tc ta tb) := PT.imp (pt_ifE hc ha hb) fun σ H Q h => by
  refine Go.bind (R' := RtX) mo_c h fun aT Oc ρ H1 v d n1 s1 r g => ?_
  subst r
  cases v with
  | true => exact ⟨aT, Oc, ρ, n1, s1, g⟩
  | false => exact ⟨aT, Oc, ρ, n1, s1, g⟩
def tChn (g g' : D → D → Option Bool) (fa fb fc : SE) : ST := fun ρ n => (fa ρ n).bind fun d n1 => (fb ρ n1).bind fun e n2 => (Rs.of (g d e) n2).bind fun z n2 => if z = true then (fc ρ n2).bind fun k n3 => Rs.of (g' e k) n3 else .ok false n2
theorem dt_chain {op op' : CmpOp} {g g' : D → D → Option Bool} (ho : CmD X op g) (ho' : CmD X op' g') (ha : DB X W a fa) (hb : DB X W b fb) (hc : DB X W c fc) (hm : lastMarks [op, op'] [b, c] = false := by with_unfolding_all rfl) : DT X W (.Compare a [op, op'] [b, c] pos) (tChn g g' fa fb fc) := by
  obtain ⟨r, h1, h2⟩ := ho
  obtain ⟨r', h1', h2'⟩ := ho'
  refine PT.imp (pt_chain h1 h1' ha hb hc hm) fun σ H Q h => ?_
  refine Go.bind (R' := RtX) mo_c h fun aT Oc ρ H1 v d n1 s1 r q1 => ?_
  refine GoAt.bind (R' := RtX) mo_c s1 q1 fun H2 u e n2 s2 e2 r2 g2 => ?_
  cases hz : g d e with
  | none => rw [hz] at g2; exact g2.elim
  | some z =>
    rw [hz] at g2
    refine h2 aT _ H2 v u d e z _ (r.step e2 (.inl s1.oT)) r2 hz ⟨z, rfl, ?_⟩
    cases z with
    | false =>
      rw [if_neg (by decide)]
      have g3 : GoAt X.mg W (RtX aT (Oo Oc σ ρ)) aT σ H2 (.ok false n2) Q := g2
      exact ⟨false, rfl, g3.ok .refl s2.tw rfl⟩
    | true =>
      rw [if_pos rfl]
      refine GoAt.bind (R' := RtX) mo_c s2 g2 fun H3 w k n3 s3 e3 r3 g3 => ?_
      obtain ⟨z, hz, q⟩ := g3.of
      exact h2' aT _ H3 u w e k z _ (r2.step e3 (.inl s1.oT)) r3 hz ⟨z, rfl, q _ _ .refl s3.tw rfl⟩
end
theorem u65_of {A : Around} {k : Nat} (hr : Room k A) : A.units + 65 < cLine := by have := hr.un; omega
theorem iop_add1 {X : Cx} : OpR X (inplaceOp .Add) (rI (fun _ _ => True) fun i j => .int (i + j)) := fun pins s σ H x y v u Q I rx ry h => by
  obtain ⟨i, j, h1, h2, _, q⟩ := h
  exact iop_add pins s σ H x y v u Q I rx ry ⟨i, j, h1, h2, q⟩
theorem cMul_ok {i j : Int} (h : cMul i j = true) : CMul i j := of_decide_eq_true (p := (-(2 ^ 64) < i ∧ i < 2 ^ 64) ∨ (-(2 ^ 64) < j ∧ j < 2 ^ 64)) h
section
variable {P : Program} {w : World} {K : PySem.W.Frag} {mg : Str → Option Value} {base : Heap}
theorem cal_no {k ar : Nat} {f : Addr} {fd : FuncData} {ps : List Str} : FnOk P w K mg base (L2N.CX P w) k f fd ps (spD K mg ar fun _ _ => .no) :=
  ⟨fun vs H Q E h => by obtain ⟨_, _, _, _, _, _, _, _, _, z⟩ := h; exact z.elim, fun A outer s H args us vs Q E _ _ _ _ h => by obtain ⟨_, _, _, _, _, _, _, _, _, z⟩ := h; exact z.elim⟩
theorem gl_int {x : Str} {i : Int} {t : Tok} (h : mg x = some (.int i t)) : GlD K mg x (.int i) := ⟨.int i, _, h, ⟨t, rfl⟩, fun _ _ _ => .int i⟩
theorem gl_str {x z : Str} {t : Tok} (h : mg x = some (.str z t)) : GlD K mg x (.str z) := ⟨.str z, _, h, ⟨t, rfl⟩, fun _ _ _ => .str z⟩
def strsV : List Value → Option (List Str)
  | [] => some []
  | .str x _ :: r => (strsV r).map (x :: ·)
  | _ :: _ => none
theorem strsV_vals : ∀ {us : List Value} {ss : List Str}, strsV us = some ss → Vals (ss.map V.str) us
  | [], ss, h => by cases h; exact .nil
  | u :: r, ss, h => by
    cases u <;> try (exact (no_some h).elim)
    rename_i x t
    obtain ⟨zs, h1, rfl⟩ := Option.map_eq_some_iff.mp (show (strsV r).map _ = some ss from h)
    exact .cons ⟨t, rfl⟩ (strsV_vals h1)
theorem gl_strs {x : Str} {a : Addr} {dd : Option Addr} {its : Array Value} {n : Nat} {sl : Array (Option Value)} {ss : List Str} (h : mg x = some (.ref a)) (l : K.lookup a = some ⟨.type "tuple", dd, .seq its n, sl⟩) (e : strsV its.toList = some ss) (hz : Nat.ble its.size 1000 = true := by rfl) : GlD K mg x (.tup (ss.map D.str)) :=
  ⟨.ref a, _, h, rfl, fun _ _ _ => .tup (.inr ⟨⟨ss, rfl⟩, _, its, n, l, rfl, rfl, Nat.le_trans (Nat.le_of_ble_eq_true hz) (by decide), strsV_vals e⟩) (Rps.of_strs ss)⟩
theorem cx_no {H : Hp} {s : Shared} {e : Value} {s' : Shared} (h : L2N.CX P w [] H s (fun _ _ _ => False) e s') : False := by
  obtain ⟨_, _, _, _, _, _, _, _, _, _, _, _, z⟩ := h
  exact z
end
end DL

set_option Elab.async false
set_option linter.all false
set_option maxRecDepth 100000
set_option maxHeartbeats 4000000
namespace DL
open PySem PySem.Spec PyProof.Rows L2

/-! ### comprehensions with two fors -/
def lc2F (vs vs1 : List Nat) (τ : D → Ev → Option Ev) (ft : ST) (fi1 : SI) (τ1 : D → Ev → Option Ev) (ft1 : ST) (fe : SE) (ρ : Ev) : List D → List D → Nat → Rs (List D)
  | [], acc, n => .ok acc n
  | d :: ds, acc, n => match τ d (wipeE ρ vs) with
    | none => .no
    | some ρ2 => (ft ρ2 n).bindN fun b n1 => if b = true then (fi1 ρ2 n1).bindN fun es n2 => (lcF vs1 τ1 ft1 fe ρ2 es acc n2).bindN fun acc' n3 => lc2F vs vs1 τ ft fi1 τ1 ft1 fe ρ ds acc' n3 else lc2F vs vs1 τ ft fi1 τ1 ft1 fe ρ ds acc n1
def eLc2 (vs vs1 : List Nat) (fi : SI) (τ : D → Ev → Option Ev) (ft : ST) (fi1 : SI) (τ1 : D → Ev → Option Ev) (ft1 : ST) (fe : SE) : SE := fun ρ n =>
  if (vs.all fun v => notOw ρ[v]?) = true then (fi ρ n).bind fun ds n1 => (lc2F vs vs1 τ ft fi1 τ1 ft1 fe ρ ds [] n1).bind fun ys n2 => .ok (.lst ys) n2 else .no
theorem Rs.bindN_assoc {α β γ : Type} (r : Rs α) (k : α → Nat → Rs β) (l : β → Nat → Rs γ) : (r.bindN k).bindN l = r.bindN fun a n => (k a n).bindN l := by
  induction r with
  | ok a n => rfl
  | ex c n => rfl
  | no => rfl
  | amb f ih => simp only [Rs.bindN_amb]; congr 1; funext b; exact ih b
section
variable {X : Cx} {W : WX} {elt tg iter tg1 iter1 : Expr} {ifs ifs1 : List Expr} {scope : Scope} {own : List (Str × Nat)} {pos : Pos} {fi fi1 : SI} {τ τ1 : D → Ev → Option Ev} {ix ix1 : List Nat} {ft ft1 : ST} {fe : SE}
theorem lc2_core (σ : L2.St) (H : Hp) (Q : VK) (hix : ∀ i ∈ ix, i ∈ own.map (·.2)) (hix1 : ∀ i ∈ ix1, i ∈ own.map (·.2)) (hdj : ∀ i ∈ ix1, i ∉ ix) (h : Go X W (RfX X) (eLc2 (own.map (·.2)) ix1 fi τ ft fi1 τ1 ft1 fe) σ H Q) :
    tLc2 (Gi X W le' fi) (gD X.K ix τ) (Go X W0 RtX ft) (Gi X W0 lk fi1) (gD X.K ix1 τ1) (Go X W0 RtX ft1) (Go X W0 (RpX X) fe) (own.map (·.2)) ix1 σ H Q := by
  obtain ⟨aT, Oc, ρ, n, s, h⟩ := h
  generalize own.map (·.2) = vs at hix hix1 h ⊢
  unfold eLc2 at h
  by_cases hvs : (vs.all fun v => notOw ρ[v]?) = true
  case neg => rw [if_neg hvs] at h; exact h.elim
  rw [if_pos hvs] at h
  have hvs : ∀ v ∈ vs, notOw ρ[v]? = true := by simpa using hvs
  refine GoAt.bind (R := fun aT O (_ : Hp) H1 (J : It) (ds : List D) => Wk X.K aT (le' aT O H1) J ds) mo_f s h fun H1 J ds n1 s1 e1 wk g => ?_
  intro P hP
  have wk : Wk X.K aT (le' aT (Oo Oc σ ρ) H1) J ds := wk
  let Oc' : Addr → Prop := fun b => Oc b ∨ b = P
  have hPa : P ≠ aT := fun z => by rw [z, s1.tw.1] at hP; cases hP
  have kpL : ∀ Hc, Ex1 aT H1 Hc → Kp (Oo Oc σ ρ) H1 (Oo Oc' (L2.wipe σ vs) (wipeE ρ vs)) Hc := fun Hc e a u ea na => by
    refine ⟨e a u (fun z => na (by rw [z]; exact .inl s1.oT)) ea, ?_⟩
    rintro ((z | z) | z)
    · exact na (.inl z)
    · exact ne_of_none ea hP z
    · exact na (Oo.unwipe (.inr z))
  refine ⟨fun i m Hc => ∃ n acc accV, m = ds.length - i ∧ i ≤ ds.length ∧ StE X.K aT Oc' Hc (L2.wipe σ vs) (wipeE ρ vs) n ∧ Ex1 aT H1 Hc ∧ Hc P = some (.lst accV) ∧ Rps X.K aT (Oo Oc' (L2.wipe σ vs) (wipeE ρ vs)) Hc accV acc ∧
    GoAt X.mg W (RfX X aT (Oo Oc σ ρ)) aT σ H1 ((lc2F vs ix1 τ ft fi1 τ1 ft1 fe ρ (ds.drop i) acc n).bind fun ys n2 => .ok (.lst ys) n2) Q,
    ⟨ds.length, n1, [], [], by simp, Nat.zero_le _, (s1.wipe vs).lock hP, .new hP, upd_same, .nil, by simpa using g⟩, ?_⟩
  rintro i m Hc ⟨nc, acc, accV, rfl, hi, sc, ec, hPc, ra, gc⟩
  obtain ⟨w1, w2⟩ := wk (Oo Oc' (L2.wipe σ vs) (wipeE ρ vs)) Hc ⟨kpL Hc ec, ec⟩ sc.domO
  by_cases hlt : i < ds.length
  case neg =>
    have e : ds.drop i = [] := List.drop_eq_nil_of_le (by omega)
    rw [e] at gc
    refine .inl ⟨w2 i (by omega), ?_⟩
    refine GoAt.ok (R := RfX X aT (Oo Oc σ ρ)) (d := .lst acc) gc ec sc.tw ⟨P, rfl, hP, s1.fresh hP, accV, hPc, ra.mono (Kp.anti fun b hb => ?_)⟩
    rcases hb with hb | hb
    · rcases Oo.wipe hvs hb with z | z
      · exact .inl (.inl z)
      · exact .inr z
    · exact .inl (.inr hb)
  have hd : ds[i]? = some ds[i] := List.getElem?_eq_getElem hlt
  rw [List.drop_eq_getElem_cons hlt] at gc
  generalize ds[i] = d at hd gc
  obtain ⟨hgo, hy⟩ := w1 i d hd
  refine .inr ⟨hgo, fun Hc => ∃ n acc accV, StE X.K aT Oc' Hc (L2.wipe σ vs) (wipeE ρ vs) n ∧ Ex1 aT H1 Hc ∧ Hc P = some (.lst accV) ∧ Rps X.K aT (Oo Oc' (L2.wipe σ vs) (wipeE ρ vs)) Hc accV acc ∧
    GoAt X.mg W (RfX X aT (Oo Oc σ ρ)) aT σ H1 ((lc2F vs ix1 τ ft fi1 τ1 ft1 fe ρ (ds.drop (i + 1)) acc n).bind fun ys n2 => .ok (.lst ys) n2) Q, ?_, ?_⟩
  · rintro H' ⟨n', acc', accV', a1, a2, a3, a4, a5⟩
    exact ⟨ds.length - (i + 1), by omega, n', acc', accV', rfl, hlt, a1, a2, a3, a4, a5⟩
  · intro x H' y
    obtain ⟨hk, rx⟩ := hy x H' y
    have e' : Ex1 aT Hc H' := fun b u _ e => hk b u e
    have s' : StE X.K aT Oc' H' (L2.wipe σ vs) (wipeE ρ vs) nc := sc.step e' ⟨hk _ _ sc.tw.1, sc.tw.2⟩
    unfold lc2F at gc
    cases ht : τ d (wipeE ρ vs) with
    | none => rw [ht] at gc; exact gc.elim
    | some ρ2 =>
      rw [ht] at gc
      refine ⟨aT, Oc', wipeE ρ vs, nc, d, ρ2, s', rx, ht, fun σ2 s2 o2 k2 => ⟨?_, ?_⟩⟩
      · rw [wipe_same k2.1 (fun j hj => (k2.2 j hj).1) hix, wipe_wipe]
      · have o2' : ∀ b, Oo Oc' (L2.wipe σ vs) (wipeE ρ vs) b → Oo Oc' σ2 ρ2 b := fun b hb => Oo.back k2.2 (fun j hj => wipeE_no (hix j hj)) hb
        have hvs1 : ∀ v ∈ ix1, notOw ρ2[v]? = true := fun v hv => by
          rw [(k2.2 v (hdj v hv)).2]
          exact wipeE_no (hix1 v hv)
        refine ⟨aT, Oc', ρ2, nc, s2, ?_⟩
        have gc : GoAt X.mg W (RfX X aT (Oo Oc σ ρ)) aT σ H1 (Rs.bind ((ft ρ2 nc).bindN fun b n1 => if b = true then (fi1 ρ2 n1).bindN fun es n2 => (lcF ix1 τ1 ft1 fe ρ2 es acc n2).bindN fun acc' n3 => lc2F vs ix1 τ ft fi1 τ1 ft1 fe ρ (ds.drop (i + 1)) acc' n3 else lc2F vs ix1 τ ft fi1 τ1 ft1 fe ρ (ds.drop (i + 1)) acc n1) fun ys n2 => .ok (.lst ys) n2) Q := gc
        rw [Rs.bindN_bind] at gc
        refine GoAt.bindN gc fun b n2 b' H3 e3 t3 rb gc => ?_
        have rb : b' = b := rb
        subst rb
        have sw3 : StE X.K aT Oc' H3 (L2.wipe σ vs) (wipeE ρ vs) n2 := s'.step e3 t3
        have ra3 := (ra.mono (e'.kp (O := Oo Oc' (L2.wipe σ vs) (wipeE ρ vs)) (.inl (.inl s1.oT)))).mono (e3.kp (.inl (.inl s1.oT)))
        have ec3 : Ex1 aT H1 H3 := (ec.trans e').trans e3
        have hP3 : H3 P = some (.lst accV) := e3 P _ hPa (e' P _ hPa hPc)
        cases b' with
        | false =>
          rw [if_neg (by decide)] at gc ⊢
          exact ⟨n2, acc, accV, sw3, ec3, hP3, ra3, gc⟩
        | true =>
          rw [if_pos rfl] at gc ⊢
          have s3 := s2.step e3 t3
          refine ⟨aT, Oc', ρ2, n2, s3, ?_⟩
          rw [Rs.bindN_bind] at gc
          refine GoAt.bindN gc fun es n4 J1 H4 e4 t4 wk1 gc => ?_
          have wk1 : Wk X.K aT (lk aT (Oo Oc' σ2 ρ2) H4) J1 es := wk1
          have s4 := s3.step e4 t4
          have sw4 := sw3.step e4 t4
          have hP4 : H4 P = some (.lst accV) := e4 P _ hPa hP3
          have ra4 := ra3.mono (e4.kp (.inl (.inl s1.oT)))
          have kpL1 : ∀ Hd, (∀ b u, b ≠ aT → b ≠ P → H4 b = some u → Hd b = some u) → Kp (Oo Oc' σ2 ρ2) H4 (Oo Oc' (L2.wipe σ2 ix1) (wipeE ρ2 ix1)) Hd := fun Hd e a u ea na =>
            ⟨e a u (fun z => na (by rw [z]; exact .inl (.inl s1.oT))) (fun z => na (by rw [z]; exact .inl (.inr rfl))) ea, fun z => na (Oo.unwipe z)⟩
          have o3' : ∀ b, Oo Oc' σ2 ρ2 b → Oo Oc' (L2.wipe σ2 ix1) (wipeE ρ2 ix1) b := fun b hb => Oo.wipe hvs1 hb
          refine ⟨fun j k Hd => ∃ n acc accV, k = es.length - j ∧ j ≤ es.length ∧ StE X.K aT Oc' Hd (L2.wipe σ2 ix1) (wipeE ρ2 ix1) n ∧ StE X.K aT Oc' Hd (L2.wipe σ vs) (wipeE ρ vs) n ∧ (∀ b u, b ≠ aT → b ≠ P → H4 b = some u → Hd b = some u) ∧ Ex1 aT H1 Hd ∧ Hd P = some (.lst accV) ∧ Rps X.K aT (Oo Oc' (L2.wipe σ vs) (wipeE ρ vs)) Hd accV acc ∧
            GoAt X.mg W (RfX X aT (Oo Oc σ ρ)) aT σ H1 (Rs.bind ((lcF ix1 τ1 ft1 fe ρ2 (es.drop j) acc n).bindN fun acc' n3 => lc2F vs ix1 τ ft fi1 τ1 ft1 fe ρ (ds.drop (i + 1)) acc' n3) fun ys n2 => .ok (.lst ys) n2) Q,
            ⟨es.length, n4, acc, accV, by simp, Nat.zero_le _, s4.wipe ix1, sw4, fun b u _ _ e => e, ec3.trans e4, hP4, ra4, by simpa using gc⟩, ?_⟩
          rintro j k Hd ⟨nd, acc, accV, rfl, hj, sd, swd, ed4, ed1, hPd, rad, gd⟩
          obtain ⟨u1, u2⟩ := wk1 (Oo Oc' (L2.wipe σ2 ix1) (wipeE ρ2 ix1)) Hd (kpL1 Hd ed4) sd.domO
          by_cases hlt1 : j < es.length
          case neg =>
            have e : es.drop j = [] := List.drop_eq_nil_of_le (by omega)
            rw [e] at gd
            exact .inl ⟨u2 j (by omega), nd, acc, accV, swd, ed1, hPd, rad, gd⟩
          have hd1 : es[j]? = some es[j] := List.getElem?_eq_getElem hlt1
          rw [List.drop_eq_getElem_cons hlt1] at gd
          generalize es[j] = d1 at hd1 gd
          obtain ⟨hgo1, hy1⟩ := u1 j d1 hd1
          refine .inr ⟨hgo1, fun Hd => ∃ n acc accV, StE X.K aT Oc' Hd (L2.wipe σ2 ix1) (wipeE ρ2 ix1) n ∧ StE X.K aT Oc' Hd (L2.wipe σ vs) (wipeE ρ vs) n ∧ (∀ b u, b ≠ aT → b ≠ P → H4 b = some u → Hd b = some u) ∧ Ex1 aT H1 Hd ∧ Hd P = some (.lst accV) ∧ Rps X.K aT (Oo Oc' (L2.wipe σ vs) (wipeE ρ vs)) Hd accV acc ∧
            GoAt X.mg W (RfX X aT (Oo Oc σ ρ)) aT σ H1 (Rs.bind ((lcF ix1 τ1 ft1 fe ρ2 (es.drop (j + 1)) acc n).bindN fun acc' n3 => lc2F vs ix1 τ ft fi1 τ1 ft1 fe ρ (ds.drop (i + 1)) acc' n3) fun ys n2 => .ok (.lst ys) n2) Q, ?_, ?_⟩
          · rintro H' ⟨n', acc', accV', a1, a2, a3, a4, a5, a6, a7⟩
            exact ⟨es.length - (j + 1), by omega, n', acc', accV', rfl, hlt1, a1, a2, a3, a4, a5, a6, a7⟩
          · intro x1 H5 y1
            obtain ⟨hk1, rx1⟩ := hy1 x1 H5 y1
            have e5 : Ex1 aT Hd H5 := fun b u _ e => hk1 b u e
            have t5 : Tw aT H5 nd := ⟨hk1 _ _ sd.tw.1, sd.tw.2⟩
            have s5 := sd.step e5 t5
            have sw5 := swd.step e5 t5
            unfold lcF at gd
            cases ht1 : τ1 d1 (wipeE ρ2 ix1) with
            | none => rw [ht1] at gd; exact gd.elim
            | some ρ3 =>
              rw [ht1] at gd
              refine ⟨aT, Oc', wipeE ρ2 ix1, nd, d1, ρ3, s5, rx1, ht1, fun σ3 s6 o6 k6 => ⟨?_, ?_⟩⟩
              · rw [wipe_same k6.1 (fun j hj => (k6.2 j hj).1) (fun i hi => hi), wipe_wipe]
              · have o6' : ∀ b, Oo Oc' (L2.wipe σ vs) (wipeE ρ vs) b → Oo Oc' σ3 ρ3 b := fun b hb => Oo.back k6.2 (fun j hj => wipeE_no hj) (o3' b (o2' b hb))
                refine ⟨aT, Oc', ρ3, nd, s6, ?_⟩
                have gd : GoAt X.mg W (RfX X aT (Oo Oc σ ρ)) aT σ H1 (Rs.bind (Rs.bindN ((ft1 ρ3 nd).bindN fun b n1 => if b = true then (fe ρ3 n1).bindN fun y n2 => if acc.length < szMax then lcF ix1 τ1 ft1 fe ρ2 (es.drop (j + 1)) (acc ++ [y]) n2 else .no else lcF ix1 τ1 ft1 fe ρ2 (es.drop (j + 1)) acc n1) fun acc' n3 => lc2F vs ix1 τ ft fi1 τ1 ft1 fe ρ (ds.drop (i + 1)) acc' n3) fun ys n2 => .ok (.lst ys) n2) Q := gd
                rw [Rs.bindN_assoc, Rs.bindN_bind] at gd
                refine GoAt.bindN gd fun b1 n6 b1' H6 e6 t6 rb1 gd => ?_
                have rb1 : b1' = b1 := rb1
                subst rb1
                have sw6 := sw5.step e6 t6
                have s56 := s5.step e6 t6
                have ra6 := (rad.mono (e5.kp (O := Oo Oc' (L2.wipe σ vs) (wipeE ρ vs)) (.inl (.inl s1.oT)))).mono (e6.kp (.inl (.inl s1.oT)))
                have ed6 : Ex1 aT H1 H6 := (ed1.trans e5).trans e6
                have ed46 : ∀ b u, b ≠ aT → b ≠ P → H4 b = some u → H6 b = some u := fun b u n1 n2 e => e6 b u n1 (e5 b u n1 (ed4 b u n1 n2 e))
                have hP6 : H6 P = some (.lst accV) := e6 P _ hPa (e5 P _ hPa hPd)
                cases b1' with
                | false =>
                  rw [if_neg (by decide)] at gd ⊢
                  exact ⟨n6, acc, accV, s56, sw6, ed46, ed6, hP6, ra6, gd⟩
                | true =>
                  rw [if_pos rfl] at gd ⊢
                  refine ⟨aT, Oc', ρ3, n6, s6.step e6 t6, ?_⟩
                  rw [Rs.bindN_assoc, Rs.bindN_bind] at gd
                  refine GoAt.bindN gd fun y n7 v H7 e7 t7 rv gd => ?_
                  by_cases hl : acc.length < szMax
                  case neg =>
                    rw [if_neg hl] at gd
                    exact gd.elim
                  rw [if_pos hl] at gd
                  have hP7 : H7 P = some (.lst accV) := e7 P _ hPa hP6
                  have sw7 := sw6.step e7 t7
                  have s7 := s56.step e7 t7
                  have kw : Kp (Oo Oc' (L2.wipe σ vs) (wipeE ρ vs)) H7 (Oo Oc' (L2.wipe σ vs) (wipeE ρ vs)) (upd H7 P (.lst (accV ++ [v]))) := fun a u e na => ⟨by rw [upd_ne (fun z => na (by rw [z]; exact .inl (.inr rfl)))]; exact e, na⟩
                  refine ⟨accV, hP7, sz1 (by rw [rad.length]; exact hl), n7, acc ++ [y], accV ++ [v], s7.wr (.inr rfl) hPa, sw7.wr (.inr rfl) hPa, ?_, ?_, upd_same, ?_, gd⟩
                  · intro b u n1 n2 e
                    rw [upd_ne n2]
                    exact e7 b u n1 (ed46 b u n1 n2 e)
                  · exact (ed6.trans e7).mut (.inl hP)
                  · have rv : Rp X.K aT (Oo Oc' σ3 ρ3) H7 v y := rv
                    exact ((ra6.mono (e7.kp (.inl (.inl s1.oT)))).append (.cons (rv.mono (Kp.anti o6')) .nil)).mono kw
theorem df_lc2 (hc : X.calm = true) (hN : X.N.Nodup) (hi : DJ X W tg iter fi) (ok : BlkOk X.N X.env.scope scope own) (hix : ∀ i ∈ ix, i ∈ own.map (·.2)) (hix1 : ∀ i ∈ ix1, i ∈ own.map (·.2)) (hdj : ∀ i ∈ ix1, i ∉ ix)
    (hg : ∀ (s : Shared) (H : Hp) (C : Addr) (cl : List (Str × Addr)) (fp : List Addr), DG (X.blk s H scope (compEnvC scope cl C X.env) fp) tg ix τ)
    (ht : ∀ (s : Shared) (H : Hp) (C : Addr) (cl : List (Str × Addr)) (fp : List Addr), DTs (X.blk s H scope (compEnvC scope cl C X.env) fp) ifs ft)
    (hi1 : ∀ (s : Shared) (H : Hp) (C : Addr) (cl : List (Str × Addr)) (fp : List Addr), DI (X.blk s H scope (compEnvC scope cl C X.env) fp) W0 tg1 iter1 fi1)
    (hg1 : ∀ (s : Shared) (H : Hp) (C : Addr) (cl : List (Str × Addr)) (fp : List Addr), DG (X.blk s H scope (compEnvC scope cl C X.env) fp) tg1 ix1 τ1)
    (ht1 : ∀ (s : Shared) (H : Hp) (C : Addr) (cl : List (Str × Addr)) (fp : List Addr), DTs (X.blk s H scope (compEnvC scope cl C X.env) fp) ifs1 ft1)
    (he : ∀ (s : Shared) (H : Hp) (C : Addr) (cl : List (Str × Addr)) (fp : List Addr), DE (X.blk s H scope (compEnvC scope cl C X.env) fp) W0 elt fe) (hs : ∀ x, foldedSetIterable iter X.env x = pure x := by intro _; rfl) (hs1 : ∀ env x, foldedSetIterable iter1 env x = pure x := by intro _ _; rfl) :
    DF X W (.ListComp elt [⟨tg, iter, ifs, 0⟩, ⟨tg1, iter1, ifs1, 0⟩] scope pos) (eLc2 (own.map (·.2)) ix1 fi τ ft fi1 τ1 ft1 fe) :=
  PE.imp (pe_lc2 (g := gD X.K ix τ) (tt := Go X W0 RtX ft) (te := Go X W0 (RpX X) fe) (wi1 := Gi X W0 lk fi1) (g1 := gD X.K ix1 τ1) (tt1 := Go X W0 RtX ft1) hc hN hi ok hix1 hg ht hi1 hg1 ht1 he hs hs1) fun σ H Q h => lc2_core σ H Q hix hix1 hdj h
/-- name = [ .. for .. for .. ] on one line -/
theorem ds_ownLc2 (i : Nat) {y : Str} {py spos : Pos} (hc : X.calm = true) (hN : X.N.Nodup) (hyl : X.env.scope.names.lookup y = some .local)
    (hi : DJ X W tg iter fi) (ok : BlkOk X.N X.env.scope scope own) (hix : ∀ i ∈ ix, i ∈ own.map (·.2)) (hix1 : ∀ i ∈ ix1, i ∈ own.map (·.2)) (hdj : ∀ i ∈ ix1, i ∉ ix)
    (hg : ∀ (s : Shared) (H : Hp) (C : Addr) (cl : List (Str × Addr)) (fp : List Addr), DG (X.blk s H scope (compEnvC scope cl C X.env) fp) tg ix τ)
    (ht : ∀ (s : Shared) (H : Hp) (C : Addr) (cl : List (Str × Addr)) (fp : List Addr), DTs (X.blk s H scope (compEnvC scope cl C X.env) fp) ifs ft)
    (hi1 : ∀ (s : Shared) (H : Hp) (C : Addr) (cl : List (Str × Addr)) (fp : List Addr), DI (X.blk s H scope (compEnvC scope cl C X.env) fp) W0 tg1 iter1 fi1)
    (hg1 : ∀ (s : Shared) (H : Hp) (C : Addr) (cl : List (Str × Addr)) (fp : List Addr), DG (X.blk s H scope (compEnvC scope cl C X.env) fp) tg1 ix1 τ1)
    (ht1 : ∀ (s : Shared) (H : Hp) (C : Addr) (cl : List (Str × Addr)) (fp : List Addr), DTs (X.blk s H scope (compEnvC scope cl C X.env) fp) ifs1 ft1)
    (he : ∀ (s : Shared) (H : Hp) (C : Addr) (cl : List (Str × Addr)) (fp : List Addr), DE (X.blk s H scope (compEnvC scope cl C X.env) fp) W0 elt fe)
    (hsw : swapsWith (.ListComp elt [⟨tg, iter, ifs, 0⟩, ⟨tg1, iter1, ifs1, 0⟩] scope pos) (some (.Name y py)) spos.line X.env = pure true := by rfl) (hy : X.N[i]? = some y := by rfl) (hs : ∀ x, foldedSetIterable iter X.env x = pure x := by intro _; rfl) (hs1 : ∀ env x, foldedSetIterable iter1 env x = pure x := by intro _ _; rfl) :
    DS X W (.Assign [.Name y py] (.ListComp elt [⟨tg, iter, ifs, 0⟩, ⟨tg1, iter1, ifs1, 0⟩] scope pos) spos) (sOwn i (eLc2 (own.map (·.2)) ix1 fi τ ft fi1 τ1 ft1 fe)) := by
  refine PS.imp (ps_setLc2 (g := gD X.K ix τ) (tt := Go X W0 RtX ft) (te := Go X W0 (RpX X) fe) (wi1 := Gi X W0 lk fi1) (g1 := gD X.K ix1 τ1) (tt1 := Go X W0 RtX ft1) hc hN hy hyl hsw hi ok hix1 hg ht hi1 hg1 ht1 he hs hs1) fun E σ H h => ?_
  obtain ⟨aT, Oc, H0, ρ, n, s, h⟩ := h
  refine lc2_core σ H _ hix hix1 hdj ⟨aT, Oc, ρ, n, s.st, ?_⟩
  unfold sOwn at h
  generalize eLc2 (own.map (·.2)) ix1 fi τ ft fi1 τ1 ft1 fe ρ n = r0 at h ⊢
  induction r0 with
  | amb f ih => exact fun b => ih b (h b)
  | no => exact h
  | ex c n1 =>
    obtain ⟨u, h1, h2⟩ := h
    exact ⟨u, h1, fun H' e t => h2 σ H' (s.ex.trans e) t⟩
  | ok d n1 =>
    intro v H1 e1 t1 r
    obtain ⟨k1, k2⟩ := s.setOw e1 t1 i r
    exact GoS1.nx h k2 k1
end

/-! ### list(range(..)), list(a dict) -/
section
variable {X : Cx} {W : WX} {a : Expr} {fa : SE} {pos p p2 pos2 : Pos}
def lrngD : D → Option D
  | .int j => if 0 ≤ j ∧ j ≤ 100000 then some (.lst (rangeD 0 j.toNat)) else none
  | _ => none
def eLrng (fa : SE) : SE := fun ρ n => (fa ρ n).bind fun d n1 => Rs.of (lrngD d) n1
theorem Rps.rg {K : PySem.W.Frag} {aT : Addr} {O : Addr → Prop} {H : Hp} (j : Int) : Rps K aT O H (rgV 0 j) (rangeD 0 j.toNat) := by
  have : ∀ l : List Nat, Rps K aT O H (l.map fun i => V.int (0 + (i : Nat))) (l.map fun k : Nat => D.int (0 + (k : Int))) := fun l => by
    induction l with
    | nil => exact .nil
    | cons x r ih => exact .cons (.int _) ih
  unfold rgV rangeD
  rw [Int.sub_zero]
  exact this _
theorem df_lrng (ha : DB X W a fa) (hm : X.mg "list" = none) (hm2 : X.mg "range" = none) (hc : X.calm = true := by rfl) (hg : Gl X "list" := by rfl) (hg2 : Gl X "range" := by rfl) (na : starEach [a] X.env = (false, eval a X.env) :: starEach [] X.env := by rfl)
    (na2 : starEach [.Call (.Name "range" p2) [a] [] pos2] X.env = (false, eval (.Call (.Name "range" p2) [a] [] pos2) X.env) :: starEach [] X.env := by rfl) :
    DF X W (.Call (.Name "list" p) [.Call (.Name "range" p2) [a] [] pos2] [] pos) (eLrng fa) := by
  refine PE.imp (pe_listRg hc hg hm (prg_1 hg2 hm2 ha na) na2) fun σ H Q h => ?_
  refine Go.bind mo_f h fun aT Oc ρ H1 v d n1 s1 r g => ?_
  obtain ⟨z, hz, q⟩ := g.of
  cases d <;> try (exact (no_some hz).elim)
  rename_i j
  obtain ⟨h1, rfl⟩ := some_ite hz
  refine ⟨j, r.int, .of_le (by omega) (by omega) (by omega) h1.1, fun l hl => q _ _ (.new hl) (s1.tw.new hl) (s1.newLst hl (.rg j))⟩
def kD : Key → D
  | .inl i => .int i
  | .inr x => .str x
def listDD (ds : List D) (_ : Nat) : Option D := match ds with
  | [.dct kds] => some (.lst (kds.map fun kd => kD kd.1))
  | _ => none
theorem Rpk.keys {K : PySem.W.Frag} {aT : Addr} {O : Addr → Prop} {H : Hp} : ∀ {kvs : List (Key × V)} {kds : List (Key × D)}, Rpk K aT O H kvs kds → Rps K aT O H (kvs.map fun kv => kV kv.1) (kds.map fun kd => kD kd.1)
  | _, _, .nil => .nil
  | _, _, .cons (k := k) h r => by
    refine .cons ?_ (Rpk.keys r)
    cases k with
    | inl i => exact .int i
    | inr x => exact .str x
theorem ca_listD (hc : X.calm = true) : CaD X (.type "list") (RfX X) listDD := by
  refine ⟨_, call_list_dK hc, fun aT Oc σ ρ n H vs ds z Q s rs hz q => ?_⟩
  unfold listDD at hz
  split at hz
  · cases hz
    obtain ⟨v, rfl, r⟩ := Pb.one rs
    obtain ⟨p, ys, rfl, hp, rp⟩ := r.dct
    exact ⟨p, ys, rfl, hp, fun l hl => q _ _ (.new hl) (s.tw.new hl) (s.newLst hl rp.keys)⟩
  · exact (no_some hz).elim
def listD2 (ds : List D) (n : Nat) : Option D := (listD ds n).orElse fun _ => listDD ds n
theorem ca_list2 (hc : X.calm = true) : CaD X (.type "list") (RfX X) listD2 := CaD.or ca_list (ca_listD hc)
/-! ### sorted, of tuples of ints -/
def tupI : D → Option (List Int)
  | .tup xs => intsD xs
  | _ => none
def tupsI : List D → Option (List (List Int))
  | [] => some []
  | d :: r => (tupI d).bind fun p => (tupsI r).map (p :: ·)
def encT (ns : List Int) : D := .tup (ns.map D.int)
theorem tupsI_map : ∀ {ds : List D} {ps : List (List Int)}, tupsI ds = some ps → ds = ps.map encT
  | [], ps, h => by cases h; rfl
  | d :: r, ps, h => by
    obtain ⟨p, h1, h2⟩ := Option.bind_eq_some_iff.mp (show (tupI d).bind _ = some ps from h)
    obtain ⟨ms, h3, rfl⟩ := Option.map_eq_some_iff.mp h2
    rw [List.map_cons, ← tupsI_map h3]
    cases d <;> try (exact (no_some h1).elim)
    have h1 : intsD _ = some p := h1
    rw [intsD_map h1]
    rfl
def okT (nss : List (List Int)) : Bool := decide (nss.length < 64) && match nss with
  | [] => false
  | n :: _ => decide (1 ≤ n.length) && nss.all fun m => decide (m.length = n.length) && m.all fun x => decide (0 ≤ x) && decide (x < 64)
def leC (a b : List Int) : Bool := decide (TS.code 64 a ≤ TS.code 64 b)
theorem leC_tot (a b : List Int) : leC a b = true ∨ leC b a = true := by simp only [leC, decide_eq_true_eq]; omega
theorem leC_tr (a b c : List Int) (h1 : leC a b = true) (h2 : leC b c = true) : leC a c = true := by simp only [leC, decide_eq_true_eq] at *; omega
theorem code_inj : ∀ {r q : List Int}, r.length = q.length → TS.Bd 64 r → TS.Bd 64 q → TS.code 64 r = TS.code 64 q → r = q
  | [], [], _, _, _, _ => rfl
  | [], _ :: _, h, _, _, _ => by simp at h
  | _ :: _, [], h, _, _, _ => by simp at h
  | d :: r, e :: q, hl, hr, hq, h => by
    have hl' : r.length = q.length := by simpa using hl
    have hde : d = e := by
      rcases Int.lt_trichotomy d e with x | x | x
      · have := TS.code_lt (d := d) (e := e) hl' hr.tail hq.tail x
        omega
      · exact x
      · have := TS.code_lt (d := e) (e := d) hl'.symm hq.tail hr.tail x
        omega
    subst hde
    have h : d * 64 ^ r.length + TS.code 64 r = d * 64 ^ q.length + TS.code 64 q := h
    rw [hl'] at h
    rw [code_inj hl' hr.tail hq.tail (by omega)]
def sortT (nss : List (List Int)) : List (List Int) := sortB leC nss
def sortedTD : List D → Nat → Option D := L1 tupsI fun nss => if okT nss = true then some (.lst ((sortT nss).map encT)) else none
def intOf : V → Option Int
  | .int i => some i
  | _ => none
theorem intOf_map (ns : List Int) : (ns.map V.int).filterMap intOf = ns := by
  induction ns with
  | nil => rfl
  | cons x r ih => simp [intOf, ih]
theorem Rps.keyT {K : PySem.W.Frag} {aT : Addr} {O : Addr → Prop} {H : Hp} : ∀ {xs : List V} {ps : List (List Int)}, (∀ p ∈ ps, 1 ≤ p.length) → Rps K aT O H xs (ps.map encT) → ∃ k : V → List Int, (∀ x ∈ xs, ∃ t, x = V.ref t ∧ SlT H t ((k x).map V.int) ∧ ¬ O t) ∧ xs.map k = ps := by
  intro xs ps hne h
  let k : V → List Int := fun v => match v with
    | .ref t => match H t with
      | some (.frz _ (.tup vs)) => vs.filterMap intOf
      | _ => []
    | _ => []
  refine ⟨k, ?_⟩
  induction ps generalizing xs with
  | nil => cases h; exact ⟨by simp, rfl⟩
  | cons p r ih =>
    cases h with
    | cons h1 h2 =>
      rename_i v vs
      obtain ⟨i1, i2⟩ := ih (fun q hq => hne q (List.mem_cons_of_mem _ hq)) h2
      have hv : ∃ t, v = V.ref t ∧ SlT H t (p.map V.int) ∧ ¬ O t := by
        cases h1 with
        | tup ht hr =>
          have e := hr.ints
          subst e
          rcases ht with ⟨ht, hn⟩ | ⟨⟨ss, hs⟩, _⟩
          · exact ⟨_, rfl, ht, hn⟩
          · have := hne p List.mem_cons_self
            cases p with
            | nil => simp at this
            | cons x p =>
              cases ss with
              | nil => cases hs
              | cons s ss => cases hs
      obtain ⟨t, rfl, ht, hn⟩ := hv
      have hk : k (.ref t) = p := by
        show (match H t with
          | some (.frz _ (.tup vs)) => vs.filterMap intOf
          | _ => []) = p
        obtain ⟨_, _, h⟩ := ht
        rw [h]
        exact intOf_map p
      refine ⟨fun x hx => ?_, ?_⟩
      · rcases List.mem_cons.mp hx with rfl | hx
        · exact ⟨t, rfl, by rw [hk]; exact ht, hn⟩
        · exact i1 x hx
      · rw [List.map_cons, hk, i2]
theorem Rps.ofInts {K : PySem.W.Frag} {aT : Addr} {O : Addr → Prop} {H : Hp} : ∀ ns : List Int, Rps K aT O H (ns.map V.int) (ns.map D.int)
  | [] => .nil
  | n :: r => .cons (.int n) (Rps.ofInts r)
theorem Rps.unkeyT {K : PySem.W.Frag} {aT : Addr} {O : Addr → Prop} {H : Hp} {k : V → List Int} : ∀ {xs : List V}, (∀ x ∈ xs, ∃ t, x = V.ref t ∧ SlT H t ((k x).map V.int) ∧ ¬ O t) → Rps K aT O H xs ((xs.map k).map encT)
  | [], _ => .nil
  | x :: r, h => by
    obtain ⟨t, e, ht, hn⟩ := h x List.mem_cons_self
    refine .cons ?_ (Rps.unkeyT fun y hy => h y (List.mem_cons_of_mem _ hy))
    have : Rp K aT O H (.ref t) (.tup ((k x).map D.int)) := .tup (.inl ⟨ht, hn⟩) (.ofInts _)
    rw [e] at this ⊢
    exact this
theorem ca_sortT : CaD X (.builtin "sorted") (RfX X) sortedTD := by
  refine ⟨fun vs H Q => ∃ d, 1 ≤ d ∧ rSortU X.K d 64 vs H Q, fun pins s σ H vs us Q I r h => ?_, fun aT Oc σ ρ n H vs ds z Q s rs hz q => ?_⟩
  · obtain ⟨d, hd, h⟩ := h
    exact cr_sortT hd pins s σ H vs us Q I r h
  obtain ⟨xs, nss, rfl, h1, h2⟩ := L1_some hz
  obtain ⟨ok, rfl⟩ := some_ite h2
  obtain ⟨v, rfl, r⟩ := Pb.one rs
  obtain ⟨p, ys, rfl, hp, rp⟩ := r.lst
  rw [tupsI_map h1] at rp
  simp only [okT, Bool.and_eq_true, decide_eq_true_eq] at ok
  obtain ⟨ol, ok⟩ := ok
  cases nss with
  | nil => simp at ok
  | cons n0 nr =>
    simp only [Bool.and_eq_true, decide_eq_true_eq, List.all_eq_true] at ok
    obtain ⟨o1, o2⟩ := ok
    have bd : ∀ m ∈ n0 :: nr, m.length = n0.length ∧ TS.Bd 64 m := fun m hm => ⟨(o2 m hm).1, fun x hx => (o2 m hm).2 x hx⟩
    obtain ⟨k, k1, k2⟩ := Rps.keyT (fun m hm => by rw [(bd m hm).1]; exact o1) rp
    have hkm : ∀ x ∈ ys, k x ∈ n0 :: nr := fun x hx => by rw [← k2]; exact List.mem_map.mpr ⟨x, hx, rfl⟩
    have kI : ∀ x ∈ ys, TupI X.K H x (k x) := fun x hx => by
      obtain ⟨t, e, h, _⟩ := k1 x hx
      exact ⟨t, e, .inl h.rd⟩
    refine ⟨n0.length, o1, p, ys, rfl, SqL.of hp, by rw [rp.length, List.length_map]; exact ol, fun x hx => ⟨k x, kI x hx, (bd _ (hkm x hx)).1, (bd _ (hkm x hx)).2⟩, fun zs t z1 z2 ht => ?_⟩
    have hz : ∀ x ∈ zs, x ∈ ys := fun x hx => z1.mem_iff.mp hx
    have e : zs.map k = sortT (n0 :: nr) := by
      have pm : (zs.map k).Perm (sortT (n0 :: nr)) := by
        have := z1.map k
        rw [k2] at this
        exact this.trans (sortB_perm leC _).symm
      refine pm.eq_of_pairwise (le := fun a b => leC a b = true) (fun a b ha hb h1 h2 => ?_) ?_ (sortB_sorted leC_tot leC_tr _)
      · obtain ⟨x, hx, rfl⟩ := List.mem_map.mp ha
        have hb' := (sortB_perm leC (n0 :: nr)).mem_iff.mp hb
        have ba := bd _ (hkm x (hz x hx))
        have bb := bd _ hb'
        simp only [leC, decide_eq_true_eq] at h1 h2
        exact code_inj (by rw [ba.1, bb.1]) ba.2 bb.2 (by omega)
      · refine List.pairwise_map.mpr (List.Pairwise.imp_of_mem (fun {x y} hx hy h => ?_) z2)
        simp only [leC, decide_eq_true_eq]
        exact h _ _ (kI x (hz x hx)) (kI y (hz y hy))
    have rr : Rps X.K aT (Oo Oc σ ρ) H zs ((sortT (n0 :: nr)).map encT) := by
      rw [← e]
      exact Rps.unkeyT fun x hx => k1 x (hz x hx)
    exact q _ _ (.new ht) (s.tw.new ht) (s.newLst ht rr)
def sortedD2 (ds : List D) (n : Nat) : Option D := (sortedD ds n).orElse fun _ => sortedTD ds n
theorem ca_sorted2 : CaD X (.builtin "sorted") (RfX X) sortedD2 := CaD.or ca_sorted ca_sortT
/-! ### len of a dict -/
def lenDD (ds : List D) (_ : Nat) : Option D := match ds with
  | [.dct kds] => some (.int kds.length)
  | _ => none
theorem Rpk.len {K : PySem.W.Frag} {aT : Addr} {O : Addr → Prop} {H : Hp} : ∀ {kvs : List (Key × V)} {kds : List (Key × D)}, Rpk K aT O H kvs kds → kvs.length = kds.length
  | _, _, .nil => rfl
  | _, _, .cons _ r => by rw [List.length_cons, List.length_cons, Rpk.len r]
theorem ca_lenDD : CaD X (.builtin "len") (RpX X) lenDD := by
  refine ⟨_, call_lenD, fun aT Oc σ ρ n H vs ds z Q s rs hz q => ?_⟩
  unfold lenDD at hz
  split at hz
  · cases hz
    obtain ⟨v, rfl, r⟩ := Pb.one rs
    obtain ⟨p, ys, rfl, hp, rp⟩ := r.dct
    exact ⟨p, ys, rfl, hp, by rw [rp.len]; exact q _ _ .refl s.tw (.int _)⟩
  · exact (no_some hz).elim
def lenD2 (ds : List D) (n : Nat) : Option D := (lenD ds n).orElse fun _ => lenDD ds n
theorem ca_len2 : CaD X (.builtin "len") (RpX X) lenD2 := CaD.or ca_len ca_lenDD
end
end DL

set_option Elab.async false
set_option linter.all false
set_option maxRecDepth 100000
set_option maxHeartbeats 4000000
namespace DL
open PySem PySem.Spec PyProof.Rows L2
theorem tN0 {X : Cx} : L2N.Takes X W0 := fun _ _ h => by
  obtain ⟨_, _, _, _, _, _, _, _, _, _, _, _, _, _, _, _, z⟩ := h
  exact z.elim
/-! ### raise -/
structure ExK (K : PySem.W.Frag) (mg : Str → Option Value) (c : Str) (C : Addr) : Prop where
  g : mg c = some (.ref C)
  x : PySem.W.excIn K C [.type "ValueError", .type "Exception", .type "BaseException", .type "object"] "ValueError.__new__" = true
  k : PySem.W.keepIn K (.ref C) = true
  b : PySem.W.subIn K (.ref C) (.type "BaseException") = some true
  t : PySem.W.typeIn K (.ref C) = some (.type "type")
def sRaise (c : Str) : SS := fun _ n => .ex c n
section
variable {X : Cx} {W : WX}
theorem ds_raise {c m : Str} {C : Addr} {j : Nat} {p p2 pos pos' : Pos} (q : ExK X.K X.mg c C) (hc : X.calm = true) (tk : L2N.Takes X W) (hg : Gl X c := by rfl) (hdb : (c == ("__debug__" : Str)) = false := by decide) :
    DS X W (.Raise (some (.Call (.Name c p) [.Constant (.str m) j p2] [] pos)) none pos') (sRaise c) := by
  refine PS.imp (L2N.ps_raise hc tk (L2N.pmk_own PySem.F.excBase_ValueError q.x q.g q.k (raises_own q.b q.t) hg hdb)) fun E σ H h => ?_
  obtain ⟨aT, Oc, H0, ρ, n, s, u, h1, h2⟩ := h
  rw [q.g] at h1
  cases h1
  exact h2 σ H s.ex s.st.tw
/-! ### l.count(x), the items data of any depth -/
def rCountD (K : PySem.W.Frag) : V → List V → Hp → VK → Prop := fun x xs H Q => ∃ (a : Addr) (y : V) (d : PyData) (ds : List PyData), x = V.ref a ∧ xs = [y] ∧ Dp K H (V.ref a) (.list ds) ∧ Dp K H y d ∧
  SeqAt.shaped (.list ds) = true ∧ SeqAt.shaped d = true ∧ Q (.int (ds.countP fun z => PyData.eqv z d : Nat)) H
theorem mt_countD (hu : X.A.units + 65 < cLine) : MtR X "list.count" (rCountD X.K) := by
  intro pn z σ G x xs v us R J rx rxs h
  obtain ⟨a, y, d, ds, rfl, rfl, hl, hy, sl, sd, q⟩ := h
  cases rx
  obtain ⟨uy, rfl, ry⟩ := rxs.one
  obtain ⟨bs, r1⟩ := Dp.reads J d y uy hy ry
  have lay : PyData.canLayAll0 ds = true := SeqAt.canLay_of_shaped sl
  cases hl with
  | lst hs ha =>
    obtain ⟨its, rv, ⟨⟨cls, dd, data, sls⟩, n, ho, hc, hdn, hdt⟩, hlen⟩ := J.list hs
    simp only at hc hdt
    subst hc hdt
    obtain ⟨as, r4⟩ := Dp.readsAll J ds _ its ha rv
    have hmap : its.map (SeqAt.readOf z.heap) = ds := SeqAt.readsAll_map ds its as lay r4
    refine call_meets PySem.F.slot_list_count ⟨_, ho, rfl⟩ PySem.F.entry_list_count (PySem.F.args_list_count_2 _ _)
      (SeqAt.list_countAt a its.toArray n dd sls uy (fun u => PyData.eqv (SeqAt.readOf z.heap u) d)) ⟨ho, SeqAt.items_eqAt (vs := its.toArray) r4 r1 lay (SeqAt.canLay_of_shaped sd) (room_in_shaped sd hu), ?_⟩
    have ec : its.toArray.toList.countP (fun u => PyData.eqv (SeqAt.readOf z.heap u) d) = ds.countP fun w => PyData.eqv w d := by
      rw [← hmap, List.countP_map]
      rfl
    refine ⟨.int (ds.countP fun w => PyData.eqv w d : Nat), G, J.tok _, ⟨z.toks, ?_⟩, q⟩
    show Value.int ((its.toArray.toList.countP (fun u => PyData.eqv (SeqAt.readOf z.heap u) d) : Nat) : Int) z.toks = _
    rw [ec]
/-! ### isinstance of the exception that is kept aside -/
theorem call_isP {a C : Addr} {oe : Obj} (q : ExcC X.K C) (hp : (a, oe) ∈ X.pn) (hz : Zc (.ref C) none oe) (hf : ∃ vs, oe.data = .fields vs) : CallR X (.builtin "isinstance") (rIsE X.K C a) := by
  intro pn z σ G xs us R J r h
  obtain ⟨c, cv, b, rfl, hcv, e, k⟩ := h
  cases r with
  | cons rx rr =>
    cases rr with
    | cons rt rr =>
      cases rr
      cases rx
      have ec := hcv _ rt
      subst ec
      have at1 := (J.pin (a, oe) (List.mem_append_left _ hp)).1
      obtain ⟨vs, hv⟩ := hf
      have inst : PySem.W.InstAt z.heap a oe C none := by
        obtain ⟨oc, od, oda, osl⟩ := oe
        obtain ⟨h1, h2⟩ := hz
        dsimp only at h1 h2 hv
        subst h1 h2 hv
        exact ⟨at1, rfl, rfl, trivial⟩
      refine PySem.W.kia_one (PySem.W.handS_kitx_exc q.hg q.hk q.hs q.hd q.ha q.hn q.ht q.hm) J.kIn inst e (fun w => nomatch w) fun tk => ?_
      exact ⟨.bl b, G, J.kept (t' := tk) fun _ _ w => w, rfl, k⟩
end
/-! ### a def called while p's exception is handled -/
section
variable {P : Program} {w : World} {K : PySem.W.Frag} {mg : Str → Option Value} {base : Heap}
theorem warm_call {CX : CXT} {x qual : Str} {st : Stmt} {f : Addr} {fd : FuncData} {N ps : List Str} {k : Nat} (Fn : L2.Fun K x qual st f fd) (S : FnScope N ps (defScope st)) {A : Around} {o : List Env} {z : Shared} {G : Hp} {us : List Value} {vs : List V} {R : VK} {Z : XK} {p : Addr × Obj} {args : Args}
    (room : L2H.RoomH (k + 1) A) (pin : L2H.PinOk o G z p) (e0 : Env0 P w K mg base A o z G) (rv : Vals vs us) (hl : vs.length = ps.length) (hb : BindsTo z fd args (ps.zip us))
    (body : ∀ cv : Value, L2H.RoomH k (A.deeper (envOfC qual (defScope st) z.heap.objs.size f cv)) → ∃ t, PSs (L2H.cxH CX P w K mg base N qual (defScope st) f cv A o z G Z p) (defBody st) t ∧ t { nx := fun _ G' => R .non G', rt := R } (L2.start N vs) G) :
    codeAny (model P w) A (.call (.ref f) args) (CR CX o P w G z R Z) z := by
  obtain ⟨a1, a2, a3, a4, a5, a6, cv, a8, a9, rfl, look, code⟩ := Fn.ex
  have inK : K.In z.heap := e0.mod.kin.keeps fun b y e => (e0.bs b y e).1
  have free : z.heap.NoLimit := e0.mod.nolimit.keeps fun b y e => (e0.bs b y e).1
  have kinds : ∀ y ∈ ps.zip us, (defScope st).names.lookup y.1 = some .local ∨ ((defScope st).names.lookup y.1 = some .cell ∧ ((cellsFrom (z.heap.objs.size + 1) (defScope st).names []).lookup y.1).isSome = true) := by
    rintro ⟨n, v⟩ hy
    rcases S.par n (List.of_mem_zip hy).1 with q | q
    · exact .inl q
    · exact .inr ⟨q, PySem.W.cellsFrom_some _ _ _ (.inl q)⟩
  refine codeAny_call_function room.depth (inK _ _ look) rfl S.co S.gen rfl (PySem.W.codeRec_of inK code) (hb _ _ _ _ ?_)
  refine wpAny_newFunctionEnv_cells S.kind kinds fun env he z1 inC => ?_
  subst he
  refine ⟨free.keeps inC.toInCall.keep, codeAny_func ?_⟩
  obtain ⟨t, ht, hq⟩ := body cv (room.deeper _)
  have J := L2H.inv_startH (CX := CX) (E := Z) S pin e0 hl rv inC
  refine wpAny_mono (ht.run [] z1 (L2.start N vs) G _ J hq) (fun fl z' hs => ?_) fun e z' hs => hs
  cases fl with
  | ret u =>
    obtain ⟨v, _, G', J', ru, q⟩ := hs
    exact ⟨v, G', J'.os, J'.bare, J'.base, J'.hok, ru, q⟩
  | next =>
    obtain ⟨_, G', J', q⟩ := hs
    exact ⟨V.non, G', J'.os, J'.bare, J'.base, J'.hok, rfl, q⟩
  | brk => obtain ⟨_, _, _, q⟩ := hs; exact q.elim
  | cont => obtain ⟨_, _, _, q⟩ := hs; exact q.elim
end
/-! ### the isinstance questions of one exception -/
section
variable {X : Cx} {a C : Addr} {e : Expr} {es : List Expr}
/-- slot 0 holds the exception; the answers are bs -/
def tIs (a : Addr) (bs : List Bool) : TA := fun σ H Q => σ[0]? = some (some (V.ref a)) ∧ Q (bs.map V.bl) H
def tI1 (a : Addr) (b : Bool) : TE := fun σ H Q => σ[0]? = some (some (V.ref a)) ∧ Q (.bl b) H
theorem pe_is {x c : Str} {T : Addr} {b : Bool} {p1 p2 p3 pos : Pos} (ho : CallR X (.builtin "isinstance") (rIsE X.K C a)) (hk : PySem.W.kitOne X.K (.ref C) (.ref T) = some b) (hT : X.mg c = some (.ref T)) (hm : X.mg "isinstance" = none)
    (hN : X.N[0]? = some x := by rfl) (hv : Vis X.env.scope x := by first | exact Or.inl rfl | exact Or.inr (Or.inl rfl) | exact Or.inr (Or.inr rfl)) (hd : (x == ("__debug__" : Str)) = false := by decide) (hcd : (x == ("__classdict__" : Str)) = false := by decide)
    (hgc : Gl X c := by rfl) (hdc : (c == ("__debug__" : Str)) = false := by decide) (hg : Gl X "isinstance" := by rfl)
    (h1 : starEach [.Name x p2, .Name c p3] X.env = (false, eval (.Name x p2) X.env) :: starEach [.Name c p3] X.env := by rfl) (h2 : starEach [.Name c p3] X.env = (false, eval (.Name c p3) X.env) :: starEach [] X.env := by rfl)
    (hpl : (backTo pos (starEach [.Name c p3] X.env)).any (·.1) = false := by rfl) : PE X (.Call (.Name "isinstance" p1) [.Name x p2, .Name c p3] [] pos) (tI1 a b) := by
  refine PE.imp (pe_callB ho hg hm (by rfl) (pa_cons (pe_var (i := 0) hN hv hd hcd) (pa_cons (pe_glob (v := .ref T) hgc hT rfl hdc) pa_nil h2) h1) (by decide) (by decide) h1 hpl) fun σ H Q h => ?_
  exact ⟨_, h.1, .ref T, .ref T, b, rfl, fun u r => r, hk, h.2⟩
theorem pa_is0 : PA X [] (tIs a []) := PA.imp pa_nil fun σ H Q h => h.2
theorem pa_is1 {b : Bool} {bs : List Bool} (h1 : PE X e (tI1 a b)) (h2 : PA X es (tIs a bs)) (hs : starEach (e :: es) X.env = (false, eval e X.env) :: starEach es X.env := by rfl) : PA X (e :: es) (tIs a (b :: bs)) :=
  PA.imp (pa_cons h1 h2 hs) fun σ H Q h => ⟨h.1, h.1, h.2⟩
/-- a new list of answers -/
theorem pe_isL {bs : List Bool} {pos : Pos} (h : PA X es (tIs a bs)) : PE X (.List es pos) (fun σ H Q => σ[0]? = some (some (V.ref a)) ∧ bs.length ≤ sizeLine ∧ ∀ p, H p = none → Q (.ref p) (upd H p (.lst (bs.map V.bl)))) :=
  PE.imp (pe_lst h) fun σ H Q q => ⟨q.1, by rw [List.length_map]; exact q.2.1, q.2.2⟩
end
section
variable {X : Cx} {a : Addr} {e : Expr} {es : List Expr} {pos : Pos}
/-- own = [..] -/
theorem ps_isSet {y : Str} {bs : List Bool} {p1 p2 : Pos} (h : PA X es (tIs a bs)) (hN : X.N.Nodup) (hi : X.N[1]? = some y) (hx : Loc X.env.scope y) (hs : swapsWith (.List es p2) (some (.Name y p1)) pos.line X.env = pure false := by rfl)
    (hf : X.fn y = true ∨ X.env.scope.names.lookup y = some .local := by first | exact .inl rfl | exact .inr rfl | assumption) : PS X (.Assign [.Name y p1] (.List es p2) pos) (fun D σ H => σ[0]? = some (some (V.ref a)) ∧ bs.length ≤ sizeLine ∧ ∀ p, H p = none → D.nx (σ.set 1 (some (.ref p))) (upd H p (.lst (bs.map V.bl)))) :=
  PS.imp (ps_set hN hi hx (pe_isL h) hs hf) fun D σ H q => q
/-- own.extend([..]) -/
theorem ps_isExt {y : Str} {bs : List Bool} {p p2 apos cpos : Pos} (h : PA X es (tIs a bs)) (hN : X.N[1]? = some y := by rfl) (hv : Vis X.env.scope y := by first | exact Or.inl rfl | exact Or.inr (Or.inl rfl) | exact Or.inr (Or.inr rfl)) (hd : (y == ("__debug__" : Str)) = false := by decide) (hcd : (y == ("__classdict__" : Str)) = false := by decide)
    (hbase : attributeBase (.Name y p) "extend" X.env (eval (.Name y p) X.env) = eval (.Name y p) X.env := by rfl)
    (hfew : ((backTo cpos (starEach [.List es p2] X.env)).all (fun x => !x.1) && (backToKw cpos (keywordEach [] X.env)).all (fun x => x.1.isSome) && decide (([.List es p2] : List Expr).length + ([] : List Keyword).length + (if ([] : List Keyword).isEmpty then 0 else 1) < 30)) = true := by rfl)
    (hline : (apos.endLine == cpos.line) = true := by rfl) (hs : starEach [.List es p2] X.env = (false, eval (.List es p2) X.env) :: starEach [] X.env := by rfl) (hplain : (backTo cpos (starEach [] X.env)).any (·.1) = false := by rfl)
    (hsw : swapsWith (.Call (.Attribute (.Name y p) "extend" apos) [.List es p2] [] cpos) none pos.line X.env = pure false := by rfl) :
    PS X (.Expr (.Call (.Attribute (.Name y p) "extend" apos) [.List es p2] [] cpos) pos) (fun D σ H => ∃ (q : Addr) (xs : List Bool), σ[0]? = some (some (V.ref a)) ∧ σ[1]? = some (some (V.ref q)) ∧ H q = some (.lst (xs.map V.bl)) ∧ bs.length + xs.length ≤ szMax ∧
      ∀ t, H t = none → D.nx σ (upd (upd H t (.lst (bs.map V.bl))) q (.lst ((xs ++ bs).map V.bl)))) := by
  refine PS.imp (ps_expr (pe_bm PySem.F.plainAttrs_list PySem.F.slot_list_extend PySem.F.type_list_extend mt_extend (pe_var hN hv hd hcd) (pa_cons (pe_isL h) pa_nil hs) hbase hfew hline hs hplain) hsw) fun D σ H z => ?_
  obtain ⟨q, xs, h0, h1, hq, hl, k⟩ := z
  refine ⟨_, h1, .inl ⟨rfl, _, SqL.of hq⟩, h0, sz (by omega), fun t ht => ?_⟩
  have ne : q ≠ t := ne_of_none hq ht
  refine ⟨q, t, _, _, rfl, rfl, by rw [upd_ne ne]; exact hq, upd_same, sz (by simp only [List.length_map]; omega), ?_⟩
  rw [← List.map_append]
  exact k t ht
/-- own.append(..) -/
theorem ps_isApp {y : Str} {b : Bool} {p apos cpos : Pos} (h : PE X e (tI1 a b)) (hN : X.N[1]? = some y := by rfl) (hv : Vis X.env.scope y := by first | exact Or.inl rfl | exact Or.inr (Or.inl rfl) | exact Or.inr (Or.inr rfl)) (hd : (y == ("__debug__" : Str)) = false := by decide) (hcd : (y == ("__classdict__" : Str)) = false := by decide)
    (hbase : attributeBase (.Name y p) "append" X.env (eval (.Name y p) X.env) = eval (.Name y p) X.env := by rfl)
    (hfew : ((backTo cpos (starEach [e] X.env)).all (fun x => !x.1) && (backToKw cpos (keywordEach [] X.env)).all (fun x => x.1.isSome) && decide (([e] : List Expr).length + ([] : List Keyword).length + (if ([] : List Keyword).isEmpty then 0 else 1) < 30)) = true := by rfl)
    (hline : (apos.endLine == cpos.line) = true := by rfl) (hs : starEach [e] X.env = (false, eval e X.env) :: starEach [] X.env := by rfl) (hplain : (backTo cpos (starEach [] X.env)).any (·.1) = false := by rfl)
    (hsw : swapsWith (.Call (.Attribute (.Name y p) "append" apos) [e] [] cpos) none pos.line X.env = pure false := by rfl) :
    PS X (.Expr (.Call (.Attribute (.Name y p) "append" apos) [e] [] cpos) pos) (fun D σ H => ∃ (q : Addr) (xs : List Bool), σ[0]? = some (some (V.ref a)) ∧ σ[1]? = some (some (V.ref q)) ∧ H q = some (.lst (xs.map V.bl)) ∧ xs.length < szMax ∧
      D.nx σ (upd H q (.lst ((xs ++ [b]).map V.bl)))) := by
  refine PS.imp (ps_expr (pe_bm PySem.F.plainAttrs_list PySem.F.slot_list_append PySem.F.type_list_append mt_append (pe_var hN hv hd hcd) (pa_cons h pa_nil hs) hbase hfew hline hs hplain) hsw) fun D σ H z => ?_
  obtain ⟨q, xs, h0, h1, hq, hl, k⟩ := z
  refine ⟨_, h1, .inl ⟨rfl, _, SqL.of hq⟩, h0, ?_⟩
  refine ⟨q, _, .bl b, rfl, rfl, hq, sz1 (by rw [List.length_map]; exact hl), ?_⟩
  rw [List.map_append] at k
  exact k
end
section
variable {X : Cx} {a : Addr} {pos : Pos}
theorem dp_bls {K : PySem.W.Frag} {H : Hp} : ∀ bs : List Bool, DpAll K H (bs.map V.bl) (bs.map PyData.bool)
  | [] => .nil
  | b :: r => .cons (.bl b) (dp_bls r)
theorem shaped_bls (bs : List Bool) : SeqAt.shaped (.list (bs.map PyData.bool)) = true := by
  have h1 : PyData.canLayAll0 (bs.map PyData.bool) = true := by
    induction bs with
    | nil => rfl
    | cons b r ih => simp [PyData.canLayAll0, PyData.canLay0, ih]
  have h2 : PyData.depthAll (bs.map PyData.bool) = 0 := by
    clear h1
    induction bs with
    | nil => rfl
    | cons b r ih => simp [PyData.depthAll, PyData.depth, ih]
  show ((PyData.list (bs.map PyData.bool)).canLay0 && decide ((PyData.list (bs.map PyData.bool)).depth ≤ 64)) = true
  simp [PyData.canLay0, PyData.depth, h1, h2]
theorem count_bls (bs : List Bool) : (bs.map PyData.bool).countP (fun z => PyData.eqv z (.bool true)) = bs.count true := by
  induction bs with
  | nil => rfl
  | cons b r ih => cases b <;> simp [PyData.eqv, ih, List.countP_cons]
/-- own.count(True) -/
theorem pe_isCount {y : Str} {j : Nat} {p p2 apos cpos : Pos} (hu : X.A.units + 65 < cLine) (hN : X.N[1]? = some y := by rfl) (hv : Vis X.env.scope y := by first | exact Or.inl rfl | exact Or.inr (Or.inl rfl) | exact Or.inr (Or.inr rfl)) (hd : (y == ("__debug__" : Str)) = false := by decide) (hcd : (y == ("__classdict__" : Str)) = false := by decide)
    (hbase : attributeBase (.Name y p) "count" X.env (eval (.Name y p) X.env) = eval (.Name y p) X.env := by rfl)
    (hfew : ((backTo cpos (starEach [.Constant (.bool true) j p2] X.env)).all (fun x => !x.1) && (backToKw cpos (keywordEach [] X.env)).all (fun x => x.1.isSome) && decide (([.Constant (.bool true) j p2] : List Expr).length + ([] : List Keyword).length + (if ([] : List Keyword).isEmpty then 0 else 1) < 30)) = true := by rfl)
    (hline : (apos.endLine == cpos.line) = true := by rfl) (hs : starEach [.Constant (.bool true) j p2] X.env = (false, eval (.Constant (.bool true) j p2) X.env) :: starEach [] X.env := by rfl) (hplain : (backTo cpos (starEach [] X.env)).any (·.1) = false := by rfl) :
    PE X (.Call (.Attribute (.Name y p) "count" apos) [.Constant (.bool true) j p2] [] cpos) (fun σ H Q => ∃ (q : Addr) (xs : List Bool), σ[1]? = some (some (V.ref q)) ∧ H q = some (.lst (xs.map V.bl)) ∧ Q (.int (xs.count true : Nat)) H) := by
  refine PE.imp (pe_bm PySem.F.plainAttrs_list PySem.F.slot_list_count PySem.F.type_list_count (mt_countD hu) (pe_var hN hv hd hcd) (pa_cons pe_bl pa_nil hs) hbase hfew hline hs hplain) fun σ H Q z => ?_
  obtain ⟨q, xs, h1, hq, k⟩ := z
  refine ⟨_, h1, .inl ⟨rfl, _, SqL.of hq⟩, q, .bl true, .bool true, xs.map PyData.bool, rfl, rfl, .lst (SqL.of hq) (dp_bls xs), .bl true, shaped_bls xs, rfl, ?_⟩
  rw [count_bls]
  exact k
/-- own.index(True) -/
theorem pe_isIndex {y : Str} {j : Nat} {p p2 apos cpos : Pos} (hu : X.A.units + 65 < cLine) (hN : X.N[1]? = some y := by rfl) (hv : Vis X.env.scope y := by first | exact Or.inl rfl | exact Or.inr (Or.inl rfl) | exact Or.inr (Or.inr rfl)) (hd : (y == ("__debug__" : Str)) = false := by decide) (hcd : (y == ("__classdict__" : Str)) = false := by decide)
    (hbase : attributeBase (.Name y p) "index" X.env (eval (.Name y p) X.env) = eval (.Name y p) X.env := by rfl)
    (hfew : ((backTo cpos (starEach [.Constant (.bool true) j p2] X.env)).all (fun x => !x.1) && (backToKw cpos (keywordEach [] X.env)).all (fun x => x.1.isSome) && decide (([.Constant (.bool true) j p2] : List Expr).length + ([] : List Keyword).length + (if ([] : List Keyword).isEmpty then 0 else 1) < 30)) = true := by rfl)
    (hline : (apos.endLine == cpos.line) = true := by rfl) (hs : starEach [.Constant (.bool true) j p2] X.env = (false, eval (.Constant (.bool true) j p2) X.env) :: starEach [] X.env := by rfl) (hplain : (backTo cpos (starEach [] X.env)).any (·.1) = false := by rfl) :
    PE X (.Call (.Attribute (.Name y p) "index" apos) [.Constant (.bool true) j p2] [] cpos) (fun σ H Q => ∃ (q : Addr) (xs : List Bool) (m : Nat), σ[1]? = some (some (V.ref q)) ∧ H q = some (.lst (xs.map V.bl)) ∧ xs[m]? = some true ∧ (∀ i, i < m → xs[i]? = some false) ∧ Q (.int m) H) := by
  refine PE.imp (pe_bm PySem.F.plainAttrs_list PySem.F.slot_list_index PySem.F.type_list_index (mt_indexD hu) (pe_var hN hv hd hcd) (pa_cons pe_bl pa_nil hs) hbase hfew hline hs hplain) fun σ H Q z => ?_
  obtain ⟨q, xs, m, h1, hq, hm, hno, k⟩ := z
  refine ⟨_, h1, .inl ⟨rfl, _, SqL.of hq⟩, q, .bl true, .bool true, xs.map PyData.bool, m, .bool true, rfl, rfl, .lst (SqL.of hq) (dp_bls xs), .bl true, shaped_bls xs, rfl, by simp [hm], by simp [PyData.eqv], fun i w hi hw => ?_, k⟩
  rw [List.getElem?_map, hno i hi] at hw
  cases hw
  simp [PyData.eqv]
/-- isinstance(e, ValueError) -/
theorem pe_isB {C : Addr} {x c : Str} {T : String} {b : Bool} {p1 p2 p3 pos : Pos} (ho : CallR X (.builtin "isinstance") (rIsE X.K C a)) (hk : PySem.W.kitOne X.K (.ref C) (.type T) = some b) (hT : X.mg c = none) (hbt : bootBuiltins c = some (.type T)) (hm : X.mg "isinstance" = none)
    (hN : X.N[0]? = some x := by rfl) (hv : Vis X.env.scope x := by first | exact Or.inl rfl | exact Or.inr (Or.inl rfl) | exact Or.inr (Or.inr rfl)) (hd : (x == ("__debug__" : Str)) = false := by decide) (hcd : (x == ("__classdict__" : Str)) = false := by decide)
    (hgc : Gl X c := by rfl) (hdn : c ≠ "__name__" := by decide) (hdc : (c == ("__debug__" : Str)) = false := by decide) (hg : Gl X "isinstance" := by rfl)
    (h1 : starEach [.Name x p2, .Name c p3] X.env = (false, eval (.Name x p2) X.env) :: starEach [.Name c p3] X.env := by rfl) (h2 : starEach [.Name c p3] X.env = (false, eval (.Name c p3) X.env) :: starEach [] X.env := by rfl)
    (hpl : (backTo pos (starEach [.Name c p3] X.env)).any (·.1) = false := by rfl) : PE X (.Call (.Name "isinstance" p1) [.Name x p2, .Name c p3] [] pos) (tI1 a b) := by
  refine PE.imp (pe_callB ho hg hm (by rfl) (pa_cons (pe_var (i := 0) hN hv hd hcd) (pa_cons (pe_bltn (v := .ty T) hgc hT hbt rfl hdn hdc) pa_nil h2) h1) (by decide) (by decide) h1 hpl) fun σ H Q h => ?_
  exact ⟨_, h.1, .ty T, .type T, b, rfl, fun u r => r, hk, h.2⟩
end
end DL

set_option Elab.async false
set_option linter.all false
set_option maxRecDepth 100000
set_option maxHeartbeats 4000000
namespace DL
open PySem PySem.Spec PyProof.Rows L2
/-! ### which refusal -/
def exNames : List Str := ["NoPlan", "NoMarks", "NoClaim", "NotSo", "NoLetters", "NoHouse", "NoView", "NoRule", "NoCount", "TooMany", "NoText", "NoStreet", "Nothing"]
def exCode (c : Str) : Option Nat := exNames.findIdx? fun x => decide (x = c)
def excCOk (K : PySem.W.Frag) (D : Addr) : Bool :=
  (PySem.W.findIn K (.ref D) "__getattribute__" == some (some (.builtin "BaseException.__getattribute__"))) && (PySem.W.findIn K (.ref D) "__getattr__" == some none) && (PySem.W.subIn K (.ref D) (.type "BaseException") == some true) &&
  PySem.W.hasDictIn K D && (PySem.W.findIn K (.ref D) "__class__" == some (some (.builtin "object.__class__"))) && (PySem.W.specialIn K (.builtin "object.__class__") "__get__" == some (some (.builtin "getset_descriptor.__get__"))) &&
  (PySem.W.takesIn K (.builtin "object.__class__") == some true) && (PySem.W.mroIn K D (.type "object") == some true)
theorem excC_of {K : PySem.W.Frag} {D : Addr} (h : excCOk K D = true) : ExcC K D := by
  simp only [excCOk, Bool.and_eq_true, beq_iff_eq] at h
  obtain ⟨⟨⟨⟨⟨⟨⟨h1, h2⟩, h3⟩, h4⟩, h5⟩, h6⟩, h7⟩, h8⟩ := h
  exact ⟨h1, h2, h3, h4, h5, h6, h7, h8⟩
def whOk (K : PySem.W.Frag) (E : Addr) (cs : List Addr) : Bool :=
  decide (cs.length = 13) && (List.range 13).all fun i => match cs[i]? with
    | none => false
    | some C => excCOk K C && (PySem.W.exmOne K (.ref C) (.ref E) == some true) && (PySem.W.kitOne K (.ref C) (.type "ValueError") == some true) && (List.range 13).all fun j => match cs[j]? with
      | none => false
      | some C' => PySem.W.kitOne K (.ref C) (.ref C') == some (decide (i = j))
/-- what the top has of the refusals -/
structure WhK (K : PySem.W.Frag) (mg : Str → Option Value) (E : Addr) (cs : List Addr) : Prop where
  e : mg "DoorError" = some (.ref E)
  g : ∀ (i : Nat) (c : Str) (C : Addr), exNames[i]? = some c → cs[i]? = some C → mg c = some (.ref C)
  ok : whOk K E cs = true
section
variable {K : PySem.W.Frag} {mg : Str → Option Value} {E : Addr} {cs : List Addr}
theorem WhK.len (w : WhK K mg E cs) : cs.length = 13 := by
  have := w.ok
  simp only [whOk, Bool.and_eq_true, decide_eq_true_eq] at this
  exact this.1
theorem WhK.at (w : WhK K mg E cs) {i : Nat} {C : Addr} (h : cs[i]? = some C) : ExcC K C ∧ PySem.W.exmOne K (.ref C) (.ref E) = some true ∧ PySem.W.kitOne K (.ref C) (.type "ValueError") = some true ∧ ∀ (j : Nat) (C' : Addr), cs[j]? = some C' → PySem.W.kitOne K (.ref C) (.ref C') = some (decide (i = j)) := by
  have ok := w.ok
  have hl := w.len
  simp only [whOk, Bool.and_eq_true, decide_eq_true_eq, List.all_eq_true, List.mem_range] at ok
  have hi : i < 13 := by rw [← hl]; exact (List.getElem?_eq_some_iff.mp h).1
  have q := ok.2 i hi
  rw [h] at q
  simp only [Bool.and_eq_true, beq_iff_eq, List.all_eq_true, List.mem_range] at q
  obtain ⟨⟨⟨q1, q2⟩, q3⟩, q4⟩ := q
  refine ⟨excC_of q1, q2, q3, fun j C' hj => ?_⟩
  have hj' : j < 13 := by rw [← hl]; exact (List.getElem?_eq_some_iff.mp hj).1
  have z := q4 j hj'
  rw [hj] at z
  simpa using z
theorem exCode_some {c : Str} {k : Nat} (h : exCode c = some k) : exNames[k]? = some c := by
  unfold exCode at h
  obtain ⟨h1, h2, _⟩ := List.findIdx?_eq_some_iff_getElem.mp h
  rw [List.getElem?_eq_getElem h1]
  simpa using h2
end
theorem wh_g {mg : Str → Option Value} {c0 c1 c2 c3 c4 c5 c6 c7 c8 c9 c10 c11 c12 : Addr} (h0 : mg "NoPlan" = some (.ref c0)) (h1 : mg "NoMarks" = some (.ref c1)) (h2 : mg "NoClaim" = some (.ref c2)) (h3 : mg "NotSo" = some (.ref c3)) (h4 : mg "NoLetters" = some (.ref c4)) (h5 : mg "NoHouse" = some (.ref c5))
    (h6 : mg "NoView" = some (.ref c6)) (h7 : mg "NoRule" = some (.ref c7)) (h8 : mg "NoCount" = some (.ref c8)) (h9 : mg "TooMany" = some (.ref c9)) (h10 : mg "NoText" = some (.ref c10)) (h11 : mg "NoStreet" = some (.ref c11)) (h12 : mg "Nothing" = some (.ref c12)) :
    ∀ (i : Nat) (c : Str) (C : Addr), exNames[i]? = some c → [c0, c1, c2, c3, c4, c5, c6, c7, c8, c9, c10, c11, c12][i]? = some C → mg c = some (.ref C)
  | 0, _, _, rfl, rfl => h0
  | 1, _, _, rfl, rfl => h1
  | 2, _, _, rfl, rfl => h2
  | 3, _, _, rfl, rfl => h3
  | 4, _, _, rfl, rfl => h4
  | 5, _, _, rfl, rfl => h5
  | 6, _, _, rfl, rfl => h6
  | 7, _, _, rfl, rfl => h7
  | 8, _, _, rfl, rfl => h8
  | 9, _, _, rfl, rfl => h9
  | 10, _, _, rfl, rfl => h10
  | 11, _, _, rfl, rfl => h11
  | 12, _, _, rfl, rfl => h12
  | _ + 13, _, _, h, _ => nomatch h
/-! ### the reading of the def -/
abbrev bsAt (k : Nat) (l : List Nat) : List Bool := l.map fun j => decide (k = j)
def rdSet (a : Addr) (bs : List Bool) : TS := fun D σ H => σ[0]? = some (some (V.ref a)) ∧ bs.length ≤ sizeLine ∧ ∀ p, H p = none → D.nx (σ.set 1 (some (.ref p))) (upd H p (.lst (bs.map V.bl)))
def rdExt (a : Addr) (bs : List Bool) : TS := fun D σ H => ∃ (q : Addr) (xs : List Bool), σ[0]? = some (some (V.ref a)) ∧ σ[1]? = some (some (V.ref q)) ∧ H q = some (.lst (xs.map V.bl)) ∧ bs.length + xs.length ≤ szMax ∧
      ∀ t, H t = none → D.nx σ (upd (upd H t (.lst (bs.map V.bl))) q (.lst ((xs ++ bs).map V.bl)))
def rdApp (a : Addr) (b : Bool) : TS := fun D σ H => ∃ (q : Addr) (xs : List Bool), σ[0]? = some (some (V.ref a)) ∧ σ[1]? = some (some (V.ref q)) ∧ H q = some (.lst (xs.map V.bl)) ∧ xs.length < szMax ∧
      D.nx σ (upd H q (.lst ((xs ++ [b]).map V.bl)))
def rdCnt : TE := fun σ H Q => ∃ (q : Addr) (xs : List Bool), σ[1]? = some (some (V.ref q)) ∧ H q = some (.lst (xs.map V.bl)) ∧ Q (.int (xs.count true : Nat)) H
def rdIdx : TE := fun σ H Q => ∃ (q : Addr) (xs : List Bool) (m : Nat), σ[1]? = some (some (V.ref q)) ∧ H q = some (.lst (xs.map V.bl)) ∧ xs[m]? = some true ∧ (∀ i, i < m → xs[i]? = some false) ∧ Q (.int m) H
section
variable {X : Cx} {a : Addr} {pos : Pos}
/-- if own.count(True) != 1 or not isinstance(e, ValueError) -/
def rdIf (a : Addr) : TS := fun D σ H => σ[0]? = some (some (V.ref a)) ∧ ∃ (q : Addr) (xs : List Bool), σ[1]? = some (some (V.ref q)) ∧ H q = some (.lst (xs.map V.bl)) ∧ xs.count true = 1 ∧ D.nx σ H
theorem ps_isIf {e1 e2 : Expr} {body : List Stmt} {j : Nat} {p1 p2 p3 p4 : Pos} (h1 : PE X e1 rdCnt) (h2 : PE X e2 (tI1 a true))
    (he : ∀ whole, isTrue e2 X.env whole = (do let v ← whole; standAt e2.pos; holding [v] (truthy v)) := by intro _; rfl) :
    PS X (.If (.BoolOp .Or [.Compare e1 [.NotEq] [.Constant (.int 1) j p1] p2, .UnaryOp .Not e2 p3] p4) body [] pos) (rdIf a) := by
  refine PS.imp (ps_if (t := fun _ _ _ => False) (L2.PW.pt (pw_or (pt_cmpR op_ne h1 pe_int (nomark _)) (pw_or1 (pt_not (pt_val h2 he))))) pss_never pss_nil) fun D σ H h => ?_
  obtain ⟨h0, q, xs, e1, e2, e3, k⟩ := h
  refine ⟨q, xs, e1, e2, rfl, false, ?_, ?_⟩
  · rw [e3]; rfl
  · show (if false = true then _ else _)
    rw [if_neg (by decide)]
    exact ⟨h0, true, rfl, k⟩
/-- return ("refused", own.index(True)) -/
def rdRet : TS := fun D σ H => ∃ (q : Addr) (xs : List Bool) (m : Nat), σ[1]? = some (some (V.ref q)) ∧ H q = some (.lst (xs.map V.bl)) ∧ xs[m]? = some true ∧ (∀ i, i < m → xs[i]? = some false) ∧
  ∀ t o, H t = none → o.dict = none → D.rt (.ref t) (upd H t (.frz o (.tup [.str "refused", .int m])))
theorem ps_isRet {e : Expr} {k j : Nat} {p1 p2 : Pos} (h : PE X e rdIdx) (hs1 : starEach [.Constant (.str "refused") j p1, e] X.env = (false, eval (.Constant (.str "refused") j p1) X.env) :: starEach [e] X.env := by rfl) (hs2 : starEach [e] X.env = (false, eval e X.env) :: starEach [] X.env := by rfl) :
    PS X (.Return (some (.Tuple [.Constant (.str "refused") j p1, e] k p2)) pos) rdRet := by
  refine PS.imp (ps_ret (pe_tupS (pa_cons pe_str (pa_cons h pa_nil hs2) hs1))) fun D σ H h => ?_
  obtain ⟨q, xs, m, e1, e2, e3, e4, k⟩ := h
  exact ⟨q, xs, m, e1, e2, e3, e4, sz (by show 2 ≤ 100000; omega), fun t o ht ho => k t o ht ho⟩
/-- the whole body -/
def rdWh (a : Addr) (k : Nat) : TS := fun D σ H => σ[0]? = some (some (V.ref a)) ∧ σ.length = 2 ∧ ∀ H' t, (∀ b u, H b = some u → H' b = some u) → H t = none → SlT H' t [.str "refused", .int k] → D.rt (.ref t) H'
theorem bs13 {k : Nat} (hk : k < 13) : (bsAt k [0, 1, 2, 3, 4, 5, 6, 7, 8, 9, 10, 11, 12]).count true = 1 ∧ (bsAt k [0, 1, 2, 3, 4, 5, 6, 7, 8, 9, 10, 11, 12])[k]? = some true ∧ ∀ i, i < k → (bsAt k [0, 1, 2, 3, 4, 5, 6, 7, 8, 9, 10, 11, 12])[i]? = some false := by
  have : ∀ k, k < 13 → (bsAt k [0, 1, 2, 3, 4, 5, 6, 7, 8, 9, 10, 11, 12]).count true = 1 ∧ (bsAt k [0, 1, 2, 3, 4, 5, 6, 7, 8, 9, 10, 11, 12])[k]? = some true ∧ ∀ i, i < k → (bsAt k [0, 1, 2, 3, 4, 5, 6, 7, 8, 9, 10, 11, 12])[i]? = some false := by decide +kernel
  exact this k hk
theorem wh_read {k : Nat} (hk : k < 13) {D : Ends} {σ : L2.St} {H : Hp} (h : rdWh a k D σ H) :
    tSeq (rdSet a (bsAt k [0, 1, 2, 3])) (tSeq (rdExt a (bsAt k [4, 5, 6, 7])) (tSeq (rdExt a (bsAt k [8, 9, 10, 11])) (tSeq (rdApp a (decide (k = 12))) (tSeq (rdIf a) rdRet)))) D σ H := by
  obtain ⟨h0, hl, q⟩ := h
  obtain ⟨b1, b2, b3⟩ := bs13 hk
  have hs : (σ.set 1 (some (V.ref 0))).length = 2 := by simpa using hl
  refine ⟨h0, sz (by show 4 ≤ 100000; omega), fun p hp => ?_⟩
  have s0 : (σ.set 1 (some (V.ref p)))[0]? = some (some (V.ref a)) := by rw [List.getElem?_set_ne (by decide)]; exact h0
  have s1 : (σ.set 1 (some (V.ref p)))[1]? = some (some (V.ref p)) := List.getElem?_set_self (by omega)
  refine ⟨p, _, s0, s1, upd_same, by show 4 + 4 ≤ 100000; omega, fun t ht => ?_⟩
  refine ⟨p, _, s0, s1, upd_same, by show 4 + 8 ≤ 100000; omega, fun t2 ht2 => ?_⟩
  refine ⟨p, _, s0, s1, upd_same, by show 12 < 100000; omega, ?_⟩
  refine ⟨s0, p, bsAt k [0, 1, 2, 3, 4, 5, 6, 7, 8, 9, 10, 11, 12], s1, upd_same, b1, ?_⟩
  refine ⟨p, _, k, s1, upd_same, b2, b3, fun t3 o3 ht3 ho3 => ?_⟩
  refine q _ t3 (fun b u e => ?_) ?_ ⟨o3, ho3, upd_same⟩
  · have n1 : b ≠ p := ne_of_none e hp
    have n2 : b ≠ t := fun z => by
      subst z
      rw [upd_ne n1, e] at ht; cases ht
    have n3 : b ≠ t2 := fun z => by
      subst z
      rw [upd_ne n1, upd_ne n2, upd_ne n1, e] at ht2; cases ht2
    have n4 : b ≠ t3 := fun z => by
      subst z
      rw [upd_ne n1, upd_ne n1, upd_ne n3, upd_ne n1, upd_ne n2, upd_ne n1, e] at ht3; cases ht3
    rw [upd_ne n4, upd_ne n1, upd_ne n1, upd_ne n3, upd_ne n1, upd_ne n2, upd_ne n1]
    exact e
  · cases z : H t3 with
    | none => rfl
    | some u =>
      have n1 : t3 ≠ p := ne_of_none z hp
      have n2 : t3 ≠ t := fun y => by
        rw [← y, upd_ne n1, z] at ht; cases ht
      have n3 : t3 ≠ t2 := fun y => by
        rw [← y, upd_ne n1, upd_ne n2, upd_ne n1, z] at ht2; cases ht2
      rw [upd_ne n1, upd_ne n1, upd_ne n3, upd_ne n1, upd_ne n2, upd_ne n1, z] at ht3
      cases ht3
end
/-! ### the def, called in an except suite -/
structure WhD (P : Program) (w : World) (K : PySem.W.Frag) (mg : Str → Option Value) (base : Heap) (cs : List Addr) (x : Str) : Prop where
  ex : ∃ (f : Addr) (fd : FuncData) (qual : Str) (st : Stmt), L2.Fun K x qual st f fd ∧ mg x = some (.ref f) ∧ PySem.W.keepIn K (.ref f) = true ∧ Binds K fd ["e"] [] ∧ FnScope ["e", "own"] ["e"] (defScope st) ∧
    ∀ (k : Nat) (C : Addr), cs[k]? = some C → ∀ (cv : Value) (A : Around) (o : List Env) (z : Shared) (G : Hp) (Z : XK) (a : Addr) (oe : Obj), L2H.RoomH 0 (A.deeper (envOfC qual (defScope st) z.heap.objs.size f cv)) → Zc (.ref C) none oe → (∃ vs, oe.data = .fields vs) →
      PSs (L2H.cxH (L2N.CX P w) P w K mg base ["e", "own"] qual (defScope st) f cv A o z G Z (a, oe)) (defBody st) (rdWh a k)
section
variable {X : Cx} {i : Nat} {a : Addr} {n x : Str} {pos p1 p2 : Pos}
theorem pe_set {v : V} (hN : X.N[i]? = some n := by rfl) (hv : Vis X.env.scope n := by first | exact Or.inl rfl | exact Or.inr (Or.inl rfl) | exact Or.inr (Or.inr rfl)) (hd : (n == ("__debug__" : Str)) = false := by decide)
    (hcd : (n == ("__classdict__" : Str)) = false := by decide) : PE X (.Name n pos) (fun σ H Q => (∃ σ0 : L2.St, σ = σ0.set i (some v)) ∧ Q v H) := by
  refine ⟨fun pins s σ H Q I h => (pe_var hN hv hd hcd).run pins s σ H Q I ?_⟩
  obtain ⟨⟨σ0, rfl⟩, q⟩ := h
  have hl := I.len
  have hi : i < X.N.length := (List.getElem?_eq_some_iff.mp hN).1
  exact ⟨v, List.getElem?_set_self (by simp at hl; omega), q⟩
theorem pe_which {cs : List Addr} {C : Addr} {k j : Nat} {oe : Obj} {pn : List (Addr × Obj)} (wd : WhD X.prog X.w X.K X.mg X.base cs x) (hk : cs[k]? = some C) (hr : Room (j + 1) X.A) (hz : Zc (.ref C) none oe) (hf : ∃ vs, oe.data = .fields vs)
    (hg : Gl X x := by rfl) (hdb : (x == ("__debug__" : Str)) = false := by decide) (hN : X.N[i]? = some n := by rfl) (hv : Vis X.env.scope n := by first | exact Or.inl rfl | exact Or.inr (Or.inl rfl) | exact Or.inr (Or.inr rfl)) (hd : (n == ("__debug__" : Str)) = false := by decide)
    (hcd : (n == ("__classdict__" : Str)) = false := by decide) (he : starEach [.Name n p2] X.env = (false, eval (.Name n p2) X.env) :: starEach [] X.env := by rfl) (hpl : (backTo pos (starEach [] X.env)).any (·.1) = false := by rfl) :
    PE (X.suite a ((a, oe) :: pn)) (.Call (.Name x p1) [.Name n p2] [] pos) (fun σ H Q => (∃ σ0 : L2.St, σ = σ0.set i (some (V.ref a))) ∧ ∀ H' t, (∀ b u, H b = some u → H' b = some u) → H t = none → SlT H' t [.str "refused", .int k] → Q (.ref t) H') := by
  obtain ⟨f, fd, qual, st, Fn, hm, hkp, hb, sc, body⟩ := wd.ex
  refine ⟨fun pins s σ H Q I h => ?_⟩
  have ha : PA (X.suite a ((a, oe) :: pn)) [.Name n p2] (tCons (fun σ H Q => (∃ σ0 : L2.St, σ = σ0.set i (some (V.ref a))) ∧ Q (V.ref a) H) tNil) := pa_cons (pe_set hN hv hd hcd) pa_nil he
  refine wpAny_Call_Name_kw (ld_glob I hg hm ?_ hdb)
  refine PySem.W.callWith_K (h₀ := X.base) I.ok.mod.kin hkp (thn (ha.run pos pins s σ H (fun vs H1 => vs = [V.ref a] ∧ H1 = H) I ⟨h.1, rfl, rfl⟩) fun us s1 hh => ?_) he hpl
  obtain ⟨vs, H1, I1, r1, rfl, rfl⟩ := hh
  refine ⟨I1.kIn, ?_⟩
  have hl : us.length = ["e"].length := by rw [← r1.length]; rfl
  have b := hb s1 us I1.kIn (by rw [List.append_nil]; exact hl)
  rw [List.append_nil] at b
  have P1 := I1.pin (a, oe) (List.mem_append_left _ List.mem_cons_self)
  have hpin : L2H.PinOk X.stack H1 s1 (a, oe) := ⟨P1.1, P1.2.1, fun hm => (List.mem_cons.mp (I1.stkSub _ hm)).elim P1.2.2.1 P1.2.2.2.1, P1.2.2.2.2⟩
  refine wpAny_call (codeAny_mono (warm_call (CX := L2N.CX X.prog X.w) (R := Q) (Z := fun _ _ _ => False) (k := 0) (p := (a, oe)) Fn sc (A := X.A.mark (some (.ref a))) (by have q := (L2H.roomH_of hr).mono (show 0 + 1 ≤ j + 1 by omega); exact ⟨q.dp, q.un⟩) hpin I1.env0 r1 rfl b fun cv rm => ?_) fun r s' hq => ?_)
  · refine ⟨_, body k C hk cv _ _ _ _ _ a oe rm hz hf, rfl, rfl, fun H' t e1 e2 e3 => h.2 H' t e1 e2 e3⟩
  · cases r with
    | error e =>
      obtain ⟨_, _, _, _, _, _, _, _, _, _, _, _, z⟩ := hq
      exact z.elim
    | ok fl =>
      cases fl with
      | ret u => exact I1.after hq
      | next => exact False.elim hq
      | brk => exact False.elim hq
      | cont => exact False.elim hq
end
/-! ### try -/
def Rs.caught : Rs Fl → Rs Fl
  | .ok f n => .ok f n
  | .ex c n => match exCode c with
    | some k => .ok (.rt (.tup [.str "refused", .int k])) n
    | none => .no
  | .no => .no
  | .amb f => .amb fun b => (f b).caught
def sTry (F : SS) : SS := fun ρ n => (F ρ n).caught
section
variable {X : Cx} {W : WX} {F : SS} {pos pos' np p1 p2 p3 p4 : Pos} {body : List Stmt} {n x : Str}
theorem ds_try (i : Nat) {j : Nat} {E : Addr} {cs : List Addr} (wk : WhK X.K X.mg E cs) (wd : WhD X.prog X.w X.K X.mg X.base cs x) (hr : Room (j + 1) X.A) (hN : X.N.Nodup) (hs : X.stack = X.env :: X.outer) (hf : X.env.frame = some X.env.locals) (tk : L2N.Takes X W)
    (hb : ∀ (W : WX) (pn : List (Addr × Obj)) (xe : Value → Shared → Prop), L2N.Takes (X.tr pn xe) W → PassesOwn (model X.prog X.w) X.A X.env xe → DSs (X.tr pn xe) W body F)
    (hi : X.N[i]? = some n := by rfl) (hln : X.env.kindOf n = some .local := by rfl) (hge : Gl X "DoorError" := by rfl) (hg : Gl X x := by rfl) (hdb : (x == ("__debug__" : Str)) = false := by decide) (hd : (n == ("__debug__" : Str)) = false := by decide) (hcd : (n == ("__classdict__" : Str)) = false := by decide)
    (he : starEach [.Name n p2] X.env = (false, eval (.Name n p2) X.env) :: starEach [] X.env := by rfl) (hpl : (backTo p3 (starEach [] X.env)).any (·.1) = false := by rfl) :
    DS X W (.Try body [.ExceptHandler (some (.Name "DoorError" np)) (some n) [.Return (some (.Call (.Name x p1) [.Name n p2] [] p3)) p4] pos'] [] [] pos) (sTry F) := by
  let ts : Addr → Value → Option Addr → TS := fun a cls d D σ H => ∃ (k : Nat) (C : Addr), cls = .ref C ∧ d = none ∧ cs[k]? = some C ∧ (∃ σ0 : L2.St, σ = σ0.set i (some (V.ref a))) ∧ ∀ H' t, (∀ b u, H b = some u → H' b = some u) → H t = none → SlT H' t [.str "refused", .int k] → D.rt (.ref t) H'
  have hvis : Vis X.env.scope n := .inl hln
  refine PS.imp (L2N.ps_try_as (c := .ref E) (ts := ts) (tb := fun W => GoS X W F) hs hf hN hi hln ⟨hge, by decide, .inl wk.e⟩ tk hb fun a oe cls d pn hz hfl => ?_) fun D σ H h => ?_
  · refine pss_one ⟨fun pins s σ H D I h => ?_⟩
    obtain ⟨k, C, rfl, rfl, hk, hσ, q⟩ := h
    exact (ps_ret (pe_which (j := j) wd hk hr hz.zc hfl hg hdb hi hvis hd hcd he hpl)).run pins s σ H D I ⟨hσ, q⟩
  · obtain ⟨aT, Oc, H0, ρ, m, s, h⟩ := h
    refine ⟨aT, Oc, H0, ρ, m, s, ?_⟩
    unfold sTry at h
    generalize F ρ m = r at h ⊢
    induction r with
    | no => exact h
    | amb f ih => exact fun b => ih b (h b)
    | ok f m' => cases f <;> exact h
    | ex c m' =>
      unfold Rs.caught at h
      cases hc : exCode c with
      | none => rw [hc] at h; exact h.elim
      | some k =>
        rw [hc] at h
        have h : GoS1 X.K X.mg W aT Oc H0 H (Oo Oc σ ρ) (.ok (.rt (.tup [.str "refused", .int k])) m') D := h
        have e1 := exCode_some hc
        have hk : k < 13 := (List.getElem?_eq_some_iff.mp e1).1
        have hC : cs[k]? = some (cs[k]'(by rw [wk.len]; exact hk)) := List.getElem?_eq_getElem (by rw [wk.len]; exact hk)
        generalize cs[k]'(by rw [wk.len]; exact hk) = C at hC
        refine ⟨.ref C, wk.g k c C e1 hC, fun σ' H' ex tw => ⟨true, (wk.at hC).2.1, fun _ a ha => ⟨k, C, rfl, rfl, hC, ⟨σ', rfl⟩, fun H2 t e2 e3 e4 => ?_⟩, fun z => nomatch z⟩⟩
        have ex2 : Ex1 aT H0 H2 := ex.trans fun b u _ e => e2 b u e
        have nO : ¬ Oc t := fun z => ex.some tw (s.d0 t z) e3
        exact h _ H2 ex2 ⟨e2 _ _ tw.1, tw.2⟩ (.tup (.inl ⟨e4, nO⟩) (.cons (.str _) (.cons (.int _) .nil)))
end
end DL

set_option Elab.async false
set_option linter.all false
set_option maxRecDepth 100000
set_option maxHeartbeats 4000000
namespace DL
open PySem PySem.Spec PyProof.Rows L2
/-! ### sorted, of tuples of pairs of ints, the first of them empty -/
def ltPr (p q : Int × Int) : Bool := decide (p.1 < q.1 ∨ (p.1 = q.1 ∧ p.2 < q.2))
def lexR : List (Int × Int) → List (Int × Int) → Bool
  | [], [] => false
  | [], _ :: _ => true
  | _ :: _, [] => false
  | x :: xs, y :: ys => if x = y then lexR xs ys else ltPr x y
theorem lexR_irr : ∀ a, lexR a a = false
  | [] => rfl
  | x :: xs => by simp [lexR, lexR_irr xs]
theorem ltPr_tri {x y : Int × Int} (h : x ≠ y) : ltPr x y = !ltPr y x := by
  obtain ⟨a, b⟩ := x
  obtain ⟨c, d⟩ := y
  have : ¬ (a = c ∧ b = d) := fun z => h (by rw [z.1, z.2])
  simp only [ltPr]
  by_cases h1 : a < c ∨ (a = c ∧ b < d)
  · rw [decide_eq_true h1, decide_eq_false (by omega)]; rfl
  · rw [decide_eq_false h1, decide_eq_true (by omega)]; rfl
theorem ltPr_tr {x y z : Int × Int} (h1 : ltPr x y = true) (h2 : ltPr y z = true) : ltPr x z = true := by
  simp only [ltPr, decide_eq_true_eq] at *
  omega
theorem ltPr_ne {x y : Int × Int} (h : ltPr x y = true) : x ≠ y := by
  rintro rfl
  simp only [ltPr, decide_eq_true_eq] at h
  omega
theorem lexR_tot : ∀ a b, lexR a b = true ∨ a = b ∨ lexR b a = true
  | [], [] => .inr (.inl rfl)
  | [], _ :: _ => .inl rfl
  | _ :: _, [] => .inr (.inr rfl)
  | x :: xs, y :: ys => by
    by_cases h : x = y
    · subst h
      rcases lexR_tot xs ys with q | q | q
      · exact .inl (by simp [lexR, q])
      · exact .inr (.inl (by rw [q]))
      · exact .inr (.inr (by simp [lexR, q]))
    · have := ltPr_tri h
      cases q : ltPr y x with
      | true => exact .inr (.inr (by simp [lexR, Ne.symm h, q]))
      | false => rw [q] at this; exact .inl (by simp [lexR, h, this])
theorem lexR_asym : ∀ a b, lexR a b = true → lexR b a = false
  | [], [], h => by simp [lexR] at h
  | [], _ :: _, _ => rfl
  | _ :: _, [], h => by simp [lexR] at h
  | x :: xs, y :: ys, h => by
    by_cases e : x = y
    · subst e
      simp only [lexR, if_true] at h ⊢
      exact lexR_asym xs ys h
    · simp only [lexR, if_neg e] at h
      simp only [lexR, if_neg (Ne.symm e)]
      rw [ltPr_tri (Ne.symm e), h]; rfl
theorem lexR_tr : ∀ a b c, lexR a b = true → lexR b c = true → lexR a c = true
  | [], [], _, h, _ => by simp [lexR] at h
  | _ :: _, [], _, h, _ => by simp [lexR] at h
  | _, _ :: _, [], _, h => by simp [lexR] at h
  | [], _ :: _, _ :: _, _, _ => rfl
  | x :: xs, y :: ys, z :: zs, h1, h2 => by
    by_cases e1 : x = y
    · subst e1
      simp only [lexR, if_true] at h1
      by_cases e2 : x = z
      · subst e2
        simp only [lexR, if_true] at h2 ⊢
        exact lexR_tr xs ys zs h1 h2
      · simp only [lexR, if_neg e2] at h2 ⊢
        exact h2
    · simp only [lexR, if_neg e1] at h1
      by_cases e2 : y = z
      · subst e2
        simp only [lexR, if_neg e1]
        exact h1
      · simp only [lexR, if_neg e2] at h2
        have h3 := ltPr_tr h1 h2
        simp only [lexR, if_neg (ltPr_ne h3)]
        exact h3
def leR (a b : List (Int × Int)) : Bool := !lexR b a
theorem leR_tot (a b : List (Int × Int)) : leR a b = true ∨ leR b a = true := by
  unfold leR
  rcases lexR_tot a b with h | h | h
  · left; rw [lexR_asym _ _ h]; rfl
  · left; rw [h, lexR_irr]; rfl
  · right; rw [lexR_asym _ _ h]; rfl
theorem leR_anti (a b : List (Int × Int)) (h1 : leR a b = true) (h2 : leR b a = true) : a = b := by
  unfold leR at h1 h2
  simp only [Bool.not_eq_true'] at h1 h2
  rcases lexR_tot a b with h | h | h
  · rw [h2] at h; cases h
  · exact h
  · rw [h1] at h; cases h
theorem leR_tr (a b c : List (Int × Int)) (h1 : leR a b = true) (h2 : leR b c = true) : leR a c = true := by
  unfold leR at *
  simp only [Bool.not_eq_true'] at *
  cases q : lexR c a with
  | false => rfl
  | true =>
    rcases lexR_tot a b with h | h | h
    · rw [lexR_tr c a b q h] at h2; cases h2
    · rw [h] at q; rw [q] at h2; cases h2
    · rw [h1] at h; cases h
def sortR : List (List (Int × Int)) → List (List (Int × Int)) := sortB leR
/-! the model's order -/
def rowPy (r : List (Int × Int)) : PyData := .tuple (r.map fun p => .tuple [.int p.1, .int p.2])
theorem row_alike : ∀ a b : List (Int × Int), PySem.W.alikeAll (a.map fun p => .tuple [.int p.1, .int p.2]) (b.map fun p => .tuple [.int p.1, .int p.2]) = true
  | [], _ => by simp [PySem.W.alikeAll]
  | _ :: _, [] => by simp [PySem.W.alikeAll]
  | x :: xs, y :: ys => by
    simp only [List.map_cons, PySem.W.alikeAll, row_alike xs ys, Bool.and_true]
    simp [PySem.W.alike, PySem.W.alikeAll]
theorem rowPy_alike (a b : List (Int × Int)) : PySem.W.alike (rowPy a) (rowPy b) = true := by
  simp only [rowPy, PySem.W.alike]
  exact row_alike a b
theorem row_depth (a : List (Int × Int)) : (rowPy a).depth ≤ 2 := by
  have : ∀ a : List (Int × Int), PyData.depthAll (a.map fun p => PyData.tuple [.int p.1, .int p.2]) ≤ 1 := fun a => by
    induction a with
    | nil => simp [PyData.depthAll]
    | cons x r ih => simp [PyData.depthAll, PyData.depth]; omega
  have := this a
  simp only [rowPy, PyData.depth]
  omega
theorem pair_eqv (x y : Int × Int) : PyData.eqv (.tuple [.int x.1, .int x.2]) (.tuple [.int y.1, .int y.2]) = decide (x = y) := by
  obtain ⟨a, b⟩ := x
  obtain ⟨c, d⟩ := y
  simp [PyData.eqv, PyData.eqvAll, BEq.beq, instBEqOfDecidableEq]
theorem rows_lt : ∀ a b : List (Int × Int), PyProof.Rows.lexLt itemOrd (PySem.W.keyToksAll (a.map fun p => .tuple [.int p.1, .int p.2])) (PySem.W.keyToksAll (b.map fun p => .tuple [.int p.1, .int p.2])) = lexR a b
  | [], [] => by
    rw [lex_irrefl]; rfl
  | [], y :: ys => by
    simp only [List.map_nil, List.map_cons]
    rw [PySem.W.toks_all_cons]
    simp only [PySem.W.keyToksAll]
    rw [lex_diff (O := itemOrd) (by simp)]
    rfl
  | x :: xs, [] => by
    simp only [List.map_nil, List.map_cons]
    rw [PySem.W.toks_all_cons]
    simp only [PySem.W.keyToksAll]
    rw [lex_diff (O := itemOrd) (by simp)]
    rfl
  | x :: xs, y :: ys => by
    simp only [List.map_cons]
    rw [PySem.W.dataLt_cons (by simp [PySem.W.alike, PySem.W.alikeAll]), pair_eqv, PySem.W.dataLt_ii, rows_lt xs ys]
    by_cases e : x = y
    · simp [e, lexR]
    · simp [e, lexR, ltPr]
theorem rowPy_lt (a b : List (Int × Int)) : PySem.W.dataLt (rowPy a) (rowPy b) = lexR a b := by
  rw [rowPy, rowPy, PySem.W.dataLt_tuple]
  exact rows_lt a b
/-! as sorting compares -/
section
variable {prog : Program} {w : World} {A : Around} {E : Value → Shared → Prop} {s : Shared}
theorem oneLt_rows {a b : Value} {x y : List (Int × Int)} {as bs : List Addr} {Q : Bool → Shared → Prop} (ra : Reads s.heap a (rowPy x) as) (rb : Reads s.heap b (rowPy y) bs) (hu : A.units + 2 < cLine) (hq : Q (lexR x y) s) : wpAny (model prog w) A (oneLt' true a b) Q E s := by
  have hal := row_alike x y
  have hd : A.units + min (PyData.tuple (x.map fun p => .tuple [.int p.1, .int p.2])).depth (PyData.tuple (y.map fun p => .tuple [.int p.1, .int p.2])).depth < cLine := by
    have := row_depth x
    unfold rowPy at this
    omega
  unfold rowPy at ra rb
  cases ra with
  | @tuple l o vs n _ as₁ h1 h2 h3 h4 =>
    cases rb with
    | @tuple l' o' vs' n' _ bs₁ k1 k2 k3 k4 =>
      have n1 : vs.size = (x.map fun p => PyData.tuple [.int p.1, .int p.2]).length := by simpa using SeqAt.ReadsAll.length _ _ _ h4
      have n2 : vs'.size = (y.map fun p => PyData.tuple [.int p.1, .int p.2]).length := by simpa using SeqAt.ReadsAll.length _ _ _ k4
      rw [← rows_lt x y, ← PySem.W.firstLt_toks _ _ hal, ← n1, ← n2] at hq
      rw [oneLt'_eq]
      simp only [if_true]
      refine wpAny_bind (wpAny_cRoomFor (SeqAt.room_here hd) ?_)
      obtain ⟨cls, dd, data, sl⟩ := o
      obtain ⟨cls2, dd2, data2, sl2⟩ := o'
      simp only at h2 h3 k2 k3
      subst h2 h3 k2 k3
      refine wpAny_bind (wpAny_callSpecialIfBound?_slot (T := "tuple") ⟨_, h1, rfl⟩ F.slot_tuple_lt (call_meets F.slot_tuple_lt ⟨_, h1, rfl⟩ F.entry_tuple_lt (F.args_tuple_lt_2 _ _)
        (SeqAt.tuple_ltAt l l' vs vs' n n' dd dd2 sl sl2 (SeqAt.pairEq (x.map fun p => .tuple [.int p.1, .int p.2]) (y.map fun p => .tuple [.int p.1, .int p.2])) (fun j => PySem.W.dataLt ((x.map fun p => PyData.tuple [.int p.1, .int p.2]).getD j .none) ((y.map fun p => PyData.tuple [.int p.1, .int p.2]).getD j .none))) ⟨h1, k1, fun j j1 j2 => ?_, fun j j1 j2 hj => ?_, ?_⟩))
      · have := PySem.W.eqAt_alikeAll _ _ A.in1 s vs.toList vs'.toList _ _ h4 k4 hal (SeqAt.room_in hd) j (by simpa using j1) (by simpa using j2)
        simpa using this
      · have := PySem.W.rcLt_alikeAll _ _ A.in1 s vs.toList vs'.toList _ _ h4 k4 hal (SeqAt.room_in hd) j (by simpa using j1) (by simpa using j2) hj
        simpa using this
      · exact wpAny_truthy_bool hq
theorem firsts_rows {M : Model} : ∀ (vs : List Value) {Q : List (Option Value) → Shared → Prop}, (∀ v ∈ vs, ∃ a o xs n, v = .ref a ∧ s.heap.get? a = some o ∧ o.cls = .type "tuple" ∧ o.data = .seq xs n) → (∀ fs : List (Option Value), fs.length = vs.length → (∀ a o xs n, vs[0]? = some (.ref a) → s.heap.get? a = some o → o.data = .seq xs n → fs[0]? = some xs[0]?) → Q fs s) → wpAny M A (vs.mapM firstOfTuple') Q E s
  | [], _, _, h => by rw [List.mapM_nil]; exact wpAny_pure (h [] rfl fun a o xs n e => by simp at e)
  | v :: vs, Q, t, h => by
    obtain ⟨a, o, xs, n, rfl, ho, hc, hd⟩ := t v List.mem_cons_self
    rw [List.mapM_cons]
    refine wpAny_bind ?_
    rw [PySem.W.kas_first_eq]
    refine wpAny_bind (PySem.W.Looks.here (show PySem.W.Looks M s.heap (typeOf (.ref a)) o.cls from (PySem.W.Looks.ld ho).andThen .now) ?_)
    rw [hc, if_neg (by first | decide | simp)]
    refine wpAny_bind (listItems_at ho hd (wpAny_pure ?_))
    refine wpAny_bind (firsts_rows vs (Q := fun bs s' => wpAny M A (pure (xs[0]? :: bs)) Q E s') (fun v hv => t v (List.mem_cons_of_mem _ hv)) fun fs hl _ => wpAny_pure (h _ (by simp [hl]) fun a' o' xs' n' e1 e2 e3 => ?_))
    simp only [List.getElem?_cons_zero, Option.some.injEq] at e1 ⊢
    cases e1
    rw [ho] at e2
    cases e2
    rw [hd] at e3
    cases e3
    rfl
theorem kind_rows {M : Model} {a0 : Addr} {o0 : Obj} {n0 : Nat} {vs : List Value} {Q : SortKind → Shared → Prop} (t : ∀ v ∈ vs, ∃ a o xs n, v = .ref a ∧ s.heap.get? a = some o ∧ o.cls = .type "tuple" ∧ o.data = .seq xs n) (h0 : vs[0]? = some (.ref a0)) (ho : s.heap.get? a0 = some o0) (hd : o0.data = .seq #[] n0) (h : Q oneType' s) :
    wpAny M A (keyKind' vs.toArray) Q E s := by
  rw [kat_kind_eq, List.mapM_toArray, map_eq_pure_bind]
  refine wpAny_bind (wpAny_bind (firsts_rows vs t fun fs hl hf => wpAny_pure ?_))
  have hf0 := hf a0 o0 #[] n0 h0 ho hd
  have hf0 : fs[0]? = some none := hf0
  obtain ⟨f, fr, rfl⟩ : ∃ f fr, fs = f :: fr := by
    cases fs with
    | nil => simp at hf0
    | cons f fr => exact ⟨f, fr, rfl⟩
  simp only [List.getElem?_cons_zero, Option.some.injEq] at hf0
  subst hf0
  rw [if_neg (by simp), if_neg (by simp)]
  rw [oneTypeOnly'_eq, List.mapM_toArray, map_eq_pure_bind]
  refine wpAny_bind (wpAny_bind (wpAny_bind (PySem.W.kas_mapM (r := Value.type "tuple") _ (fun v hv Q' hq => ?_) (wpAny_pure ?_))))
  · obtain ⟨a, o, xs, n, rfl, ho, hc, hd⟩ := t v hv
    refine PySem.W.Looks.here (show PySem.W.Looks M s.heap (typeOf (.ref a)) o.cls from (PySem.W.Looks.ld ho).andThen .now) ?_
    rw [hc]; exact hq
  · have hall2 : ((List.map (fun _ => Value.type "tuple") vs).toArray.all fun x => x == Value.type "tuple") = true := by
      simp only [List.all_toArray, List.all_map, List.all_eq_true]
      intro _ _
      rfl
    have h0' : (List.map (fun _ => Value.type "tuple") vs).toArray[0]? = some (Value.type "tuple") := by
      cases vs with
      | nil => simp at h0
      | cons v r => simp
    rw [h0']
    simp only [hall2, if_true]
    exact wpAny_pure (wpAny_pure h)
theorem sorted_rows {l : Addr} {vs : List Value} {k : Value → List (Int × Int)} {a0 : Addr} {o0 : Obj} {n0 : Nat} {Q : Value → Shared → Prop} (hl : s.heap.IsList l vs.toArray) (hz : vs.length ≤ sizeLine) (hu : A.units + 10 < cLine) (hp : ∀ v ∈ vs, ∃ as, Reads s.heap v (rowPy (k v)) as) (h0 : vs[0]? = some (.ref a0)) (ho : s.heap.get? a0 = some o0) (hd : o0.data = .seq #[] n0)
    (h : ∀ (h' : Heap) (d : Addr) (out : List Value), SrtO.Srtd (fun v u => lexR (k v) (k u)) out → SrtO.Stb (fun v u => lexR (k v) (k u)) out vs → (∀ b o, s.heap.get? b = some o → h'.get? b = some o) → s.heap.objs.size ≤ d → (∃ n, h'.get? d = some (seqObj "list" out.toArray n)) → Q (.ref d) { s with heap := h' }) :
    wpAny (model prog w) A (call (.builtin "sorted") [.ref l]) Q E s := by
  refine SrtO.sorted_ord (ltv := fun v u => lexR (k v) (k u)) ⟨fun x y h => lexR_asym _ _ h, fun x y z h1 h2 => ?_⟩ hl hz (fun h2 h₁ a ha kk => ?_) fun out hs hb => ?_
  · have q1 : leR (k x) (k y) = true := by unfold leR; rw [h1]; rfl
    have q2 : leR (k y) (k z) = true := by unfold leR; rw [h2]; rfl
    have q3 := leR_tr _ _ _ q1 q2
    unfold leR at q3
    simpa using q3
  · intro h' keep
    have kp : ∀ b o, s.heap.get? b = some o → h'.get? b = some o := fun b o e => keep b o (kk b o e).1 (kk b o e).2
    have hp' : ∀ v ∈ vs, ∃ as, Reads h' v (rowPy (k v)) as := fun v hv => by
      obtain ⟨as, r⟩ := hp v hv
      exact ⟨as, PyProof.Rows.Reads.keeps kp r⟩
    refine ⟨oneType', fun Q E hq => ?_, fun p q hm hm' => ?_⟩
    · refine kind_rows (s := { s with heap := h' }) (fun v hv => ?_) h0 (kp _ _ ho) hd hq
      obtain ⟨as, r⟩ := hp' v hv
      unfold rowPy at r
      cases r with
      | tuple h1 h2 h3 h4 => exact ⟨_, _, _, _, rfl, h1, h2, h3⟩
    · obtain ⟨as, r1⟩ := hp' _ hm
      obtain ⟨bs, r2⟩ := hp' _ hm'
      rw [keyLt'_oneType]
      refine oneLt_rows (s := { s with heap := h' }) r1 r2 ?_ ⟨rfl, rfl⟩
      show A.in1.in1.units + 2 < cLine
      have e1 : A.in1.in1.units = A.units + 2 := rfl
      omega
  · exact h _ _ out hs hb (fun b o e => PyProof.Rows.sortedAll_old e) (Nat.le_succ _) (PyProof.Rows.sortedAll_at s.heap vs out.toArray)
end
section
variable {X : Cx} {W : WX}
theorem u10_of {A : Around} {k : Nat} (hr : Room k A) : A.units + 10 < cLine := by have := hr.un; omega
def rSortR (K : PySem.W.Frag) : List V → Hp → VK → Prop := fun vs H Q => ∃ (a a0 : Addr) (xs : List V) (rows : List (List (Int × Int))), vs = [V.ref a] ∧ SqL K H a xs ∧ Paired (fun x r => (∃ t, x = V.ref t) ∧ Dp K H x (rowPy r)) xs rows ∧ xs[0]? = some (V.ref a0) ∧ SqT K H a0 [] ∧
  ∀ ys ss p, ss.Pairwise (fun a b => leR a b = true) → ss.Perm rows → Paired (fun y r => (y, r) ∈ xs.zip rows) ys ss → H p = none → Q (.ref p) (upd H p (.lst ys))
theorem rowPy_inj {a b : List (Int × Int)} (h : rowPy a = rowPy b) : a = b := by
  have h := PyData.tuple.inj h
  have : ∀ a b : List (Int × Int), (a.map fun p => PyData.tuple [.int p.1, .int p.2]) = (b.map fun p => PyData.tuple [.int p.1, .int p.2]) → a = b := fun a => by
    induction a with
    | nil => intro b h; cases b with
      | nil => rfl
      | cons _ _ => simp at h
    | cons x r ih =>
      intro b h
      cases b with
      | nil => simp at h
      | cons y q =>
        simp only [List.map_cons, List.cons.injEq, PyData.tuple.injEq, PyData.int.injEq, and_true] at h
        rw [ih q h.2, Prod.ext h.1.1 h.1.2]
  exact this a b h
theorem paired_mem {α β : Type} {R : α → β → Prop} : ∀ {xs : List α} {ys : List β}, Paired R xs ys → (∀ p ∈ xs.zip ys, R p.1 p.2) ∧ xs.length = ys.length
  | _, _, .nil => ⟨by simp, rfl⟩
  | _, _, .cons h t => by
    obtain ⟨h1, h2⟩ := paired_mem t
    refine ⟨fun p hp => ?_, by simp [h2]⟩
    rcases List.mem_cons.mp (by simpa using hp) with rfl | hp
    · exact h
    · exact h1 p hp
theorem paired_map {α β γ : Type} {R : β → γ → Prop} (f : α → β) (g : α → γ) : ∀ {xs : List α}, (∀ x ∈ xs, R (f x) (g x)) → Paired R (xs.map f) (xs.map g)
  | [], _ => .nil
  | x :: r, h => .cons (h x List.mem_cons_self) (paired_map f g fun y hy => h y (List.mem_cons_of_mem _ hy))
theorem zip_map_mem {α β γ : Type} (f : α → β) (g : α → γ) {xs : List α} {x : α} (h : x ∈ xs) : (f x, g x) ∈ (xs.map f).zip (xs.map g) := by
  rw [List.zip_map']
  exact List.mem_map.mpr ⟨x, h, rfl⟩
theorem cr_sortR (hu : X.A.units + 10 < cLine) : CallR X (.builtin "sorted") (rSortR X.K) := by
  intro pins s σ H vs us Q I r h
  obtain ⟨a, a0, xs, rows, rfl, hs, hx, h0, ht0, q⟩ := h
  obtain ⟨hxm, hxl⟩ := paired_mem hx
  obtain ⟨its, rv, hl, hz⟩ := I.list hs
  obtain ⟨u, rfl, ru⟩ := vals1 r
  obtain rfl : u = Value.ref a := ru
  have hxx : ∀ x ∈ xs, ∃ t, x = V.ref t := fun x hm => by
    obtain ⟨i, hi, e⟩ := List.mem_iff_getElem.mp hm
    have hi2 : i < rows.length := by omega
    have : (x, rows[i]) ∈ xs.zip rows := List.mem_iff_getElem.mpr ⟨i, by simp; omega, by simp [e]⟩
    exact (hxm _ this).1
  obtain ⟨e1, e2⟩ := refs_back rv hxx
  obtain ⟨its0, rv0, p0, hz0⟩ := I.tuple ht0
  have he0 : its0 = [] := by
    have := rv0.length
    simpa using this.symm
  subst he0
  obtain ⟨o0, ho0, hc0, n0, hd0⟩ := p0
  have hv0 : its[0]? = some (.ref a0) := by
    obtain ⟨u, hu, rr⟩ := rv.get h0
    cases rr
    exact hu
  let k : Value → List (Int × Int) := fun u => open Classical in if h : ∃ r as, Reads s.heap u (rowPy r) as then h.choose else []
  have hk : ∀ u r as, Reads s.heap u (rowPy r) as → k u = r := fun u r as hr => by
    have h : ∃ r as, Reads s.heap u (rowPy r) as := ⟨r, as, hr⟩
    have e : k u = h.choose := by
      show (open Classical in if h : ∃ r as, Reads s.heap u (rowPy r) as then h.choose else []) = _
      rw [dif_pos h]
    rw [e]
    obtain ⟨as', h2⟩ := h.choose_spec
    exact rowPy_inj (PySem.W.alike_unique _ _ _ _ _ (rowPy_alike _ _) h2 hr)
  have hlen : its.length = xs.length := rv.length.symm
  have hread : ∀ (i : Nat) (h1 : i < its.length) (h2 : i < rows.length), ∃ as, Reads s.heap its[i] (rowPy rows[i]) as := fun i h1 h2 => by
    have h3 : i < xs.length := by omega
    have hz := hxm (xs[i], rows[i]) (List.mem_iff_getElem.mpr ⟨i, by simp; omega, by simp⟩)
    have hb : xs[i] = backV its[i] := by
      have : xs[i]? = (its.map backV)[i]? := by rw [← e1]
      rw [List.getElem?_eq_getElem h3, List.getElem?_map, List.getElem?_eq_getElem h1] at this
      simpa using this
    obtain ⟨t, et⟩ := e2 its[i] (List.getElem_mem h1)
    refine Dp.reads I _ _ _ hz.2 ?_
    rw [hb, et]
    rfl
  have hmap : its.map k = rows := by
    apply List.ext_getElem
    · rw [List.length_map]; omega
    · intro i h1 h2
      rw [List.getElem_map]
      obtain ⟨as, hr⟩ := hread i (by simpa using h1) h2
      exact hk _ _ _ hr
  refine sorted_rows (k := k) hl.isList (by rw [← rv.length]; exact hz) hu (fun v hv => ?_) hv0 ho0 hd0 fun h' d out h1 h2 kp hd hn => ?_
  · obtain ⟨i, hi, rfl⟩ := List.mem_iff_getElem.mp hv
    obtain ⟨as, hr⟩ := hread i hi (by omega)
    rw [hk _ _ _ hr]
    exact ⟨as, hr⟩
  · have h3 : ∀ u ∈ out, ∃ a, u = Value.ref a := fun u hu => e2 u (h2.perm.mem_iff.mp hu)
    obtain ⟨n, hn⟩ := hn
    have hb : (out.map backV).Perm xs := by
      rw [e1]
      exact h2.perm.map backV
    refine ⟨.ref d, upd H d (.lst (out.map backV)), I.laid (t' := s.toks) kp hd ⟨?_, out, n, vals_back h3, hn⟩, rfl, q _ (out.map k) d ?_ ?_ ?_ (I.hok.fresh hd)⟩
    · rw [hb.length_eq]
      exact hz
    · refine List.pairwise_map.mpr (h1.imp fun {x y} z => ?_)
      have z : lexR (k y) (k x) = false := z
      unfold leR
      rw [z]; rfl
    · rw [← hmap]
      exact h2.perm.map k
    · refine paired_map backV k fun v hv => ?_
      have hm := h2.perm.mem_iff.mp hv
      have := zip_map_mem backV k hm
      rw [← e1, hmap] at this
      exact this
/-! as data -/
def rowD : D → Option (List (Int × Int))
  | .tup xs => pairsD xs
  | _ => none
def rowsD : List D → Option (List (List (Int × Int)))
  | [] => some []
  | d :: r => (rowD d).bind fun p => (rowsD r).map (p :: ·)
def encW (r : List (Int × Int)) : D := .tup (r.map encP)
theorem rowsD_map : ∀ {ds : List D} {rs : List (List (Int × Int))}, rowsD ds = some rs → ds = rs.map encW
  | [], ps, h => by cases h; rfl
  | d :: r, ps, h => by
    obtain ⟨p, h1, h2⟩ := Option.bind_eq_some_iff.mp (show (rowD d).bind _ = some ps from h)
    obtain ⟨ms, h3, rfl⟩ := Option.map_eq_some_iff.mp h2
    rw [List.map_cons, ← rowsD_map h3]
    cases d <;> try (exact (no_some h1).elim)
    have h1 : pairsD _ = some p := h1
    rw [pairsD_map h1]
    rfl
@[simp] theorem rowsD_of : ∀ rs : List (List (Int × Int)), rowsD (rs.map encW) = some rs
  | [] => rfl
  | r :: rs => by simp [rowsD, rowsD_of rs, rowD, encW]
def sortedRD : List D → Nat → Option D := L1 rowsD fun rs => match rs with
  | [] :: _ => some (.lst ((sortR rs).map encW))
  | _ => none
theorem encW_py (r : List (Int × Int)) : (encW r).toPy = rowPy r := by
  have : ∀ r : List (Int × Int), toPys (r.map encP) = r.map fun p => .tuple [.int p.1, .int p.2] := fun r => by
    induction r with
    | nil => rfl
    | cons x r ih => simp [toPys, ih, encP, D.toPy]
  simp only [encW, D.toPy, rowPy, this]
theorem encW_pl (r : List (Int × Int)) : (encW r).pl 60 = true := by
  have : ∀ r : List (Int × Int), plAll 59 (r.map encP) = true := fun r => by
    induction r with
    | nil => rfl
    | cons x r ih => simp [plAll, ih, encP, D.pl]
  simp [encW, D.pl, this]
theorem Rps.zip_mem {K : PySem.W.Frag} {aT : Addr} {O : Addr → Prop} {H : Hp} : ∀ {xs : List V} {rows : List (List (Int × Int))}, Rps K aT O H xs (rows.map encW) → ∀ p ∈ xs.zip rows, Rp K aT O H p.1 (encW p.2)
  | _, [], h, p, hp => by simp at hp
  | _, r :: rs, h, p, hp => by
    cases h with
    | cons a b =>
      rcases List.mem_cons.mp (by simpa using hp) with rfl | hp
      · exact a
      · exact Rps.zip_mem b p hp
theorem Rps.of_zip {K : PySem.W.Frag} {aT : Addr} {O : Addr → Prop} {H : Hp} {S : List (V × List (Int × Int))} (h : ∀ p ∈ S, Rp K aT O H p.1 (encW p.2)) : ∀ {ys : List V} {ss : List (List (Int × Int))}, Paired (fun y r => (y, r) ∈ S) ys ss → Rps K aT O H ys (ss.map encW)
  | _, _, .nil => .nil
  | _, _, .cons a t => .cons (h _ a) (Rps.of_zip h t)
theorem Rps.rows {K : PySem.W.Frag} {aT : Addr} {O : Addr → Prop} {H : Hp} : ∀ {xs : List V} {rows : List (List (Int × Int))}, Rps K aT O H xs (rows.map encW) → Paired (fun x r => (∃ t, x = V.ref t) ∧ Dp K H x (rowPy r)) xs rows
  | _, [], h => by cases h; exact .nil
  | _, r :: rs, h => by
    cases h with
    | cons a b =>
      refine .cons ⟨?_, ?_⟩ (Rps.rows b)
      · unfold encW at a
        cases a with
        | tup _ _ => exact ⟨_, rfl⟩
      · have := Rp.dp 60 a (encW_pl r)
        rw [encW_py] at this
        exact this
theorem ca_sortR (hu : X.A.units + 10 < cLine) : CaD X (.builtin "sorted") (RfX X) sortedRD := by
  refine ⟨_, cr_sortR hu, fun aT Oc σ ρ n H vs ds z Q s rs hz q => ?_⟩
  obtain ⟨xs, rows, rfl, h1, h2⟩ := L1_some hz
  split at h2
  case h_2 => exact (no_some h2).elim
  rename_i rest
  cases h2
  obtain ⟨v, rfl, r⟩ := Pb.one rs
  obtain ⟨p, ys, rfl, hp, rp⟩ := r.lst
  rw [rowsD_map h1] at rp
  have h0 : ∃ a0, ys[0]? = some (V.ref a0) ∧ SqT X.K H a0 [] := by
    cases rp with
    | cons a b =>
      unfold encW at a
      cases a with
      | tup ht hr =>
        cases hr
        exact ⟨_, rfl, ht.sq⟩
  obtain ⟨a0, z0, t0⟩ := h0
  refine ⟨p, a0, ys, _, rfl, SqL.of hp, rp.rows, z0, t0, fun zs ss t s1 s2 s3 ht => ?_⟩
  have e : ss = sortR ([] :: rest) := sorted_uniq leR_anti s1 (sortB_sorted leR_tot leR_tr _) (s2.trans (sortB_perm leR _).symm)
  subst e
  exact q _ _ (.new ht) (s.tw.new ht) (s.newLst ht (Rps.of_zip rp.zip_mem s3))
def sortedD3 (ds : List D) (n : Nat) : Option D := (sortedD2 ds n).orElse fun _ => sortedRD ds n
theorem ca_sorted3 (hu : X.A.units + 10 < cLine) : CaD X (.builtin "sorted") (RfX X) sortedD3 := CaD.or ca_sorted2 (ca_sortR hu)
end
end DL

set_option Elab.async false
set_option linter.all false
set_option maxRecDepth 100000
set_option maxHeartbeats 4000000
namespace DL
open PySem PySem.Spec PyProof.Rows L2
/-! ### sum of a tuple of ints -/
section
variable {prog : Program} {w : World} {A : Around} {E : Value → Shared → Prop} {s : Shared} {l : Addr}
theorem sum_intTup {xs : Array (Int × Tok)} {Q : Value → Shared → Prop} (hh : A.handled = none) (hl : s.heap.IsTuple l (intItems xs))
    (h : ∀ h' tk t', (∀ b o, s.heap.get? b = some o → h'.get? b = some o) → Q (.int (preSum (numAt xs) xs.size) t') { s with heap := h', toks := tk }) :
    wpAny (model prog w) A (call (.builtin "sum") [.ref l]) Q E s := by
  have hlt : l < s.heap.objs.size := by obtain ⟨_, e, _⟩ := hl; exact Heap.lt_size e
  refine call_sum_walkG (wpAny_pyIter_tuple hl ?_)
  refine ⟨_, _, _, _, _, _, numAt xs, rfl, Walks.tuple (A := A.in1) hh _ l (Nat.ne_of_lt hlt) (intItems xs), ⟨⟨_, Heap.get?_push_size _ rfl, rfl, rfl⟩, hl.at fun o e => Heap.get?_push_of_some _ e⟩, fun b hb => ?_, (fun _ _ => intItems_at), fun h' tk t' hk => ?_⟩
  · show b < (s.heap.push _).objs.size
    rw [Heap.size_push]
    rcases List.mem_cons.mp hb with rfl | hb
    · exact Nat.lt_succ_self _
    · rcases List.mem_cons.mp hb with rfl | hb
      · exact Nat.lt_succ_of_lt hlt
      · cases hb
  · have := h h' tk t' (fun b o e => hk b o (fun z => by
      have e1 : b = s.heap.objs.size := by simpa using z
      have e2 := Heap.lt_size e
      rw [e1] at e2
      exact absurd e2 (Nat.lt_irrefl _)) (Heap.get?_push_of_some _ e))
    simpa [intItems] using this
theorem sumT_raw {its : List Value} {ns : List Int} {Q : Value → Shared → Prop} (hh : A.handled = none) (hl : s.heap.IsTuple l its.toArray) (hi : IntsAre its ns)
    (h : ∀ h' tk t', (∀ b o, s.heap.get? b = some o → h'.get? b = some o) → Q (.int ns.sum t') { s with heap := h', toks := tk }) : wpAny (model prog w) A (call (.builtin "sum") [.ref l]) Q E s := by
  obtain ⟨xs, e⟩ := hi.allInts.items
  have hn : numsOf (intItems xs).toList = ns := by rw [← e]; exact hi.numsOf
  rw [nums_intItems] at hn
  rw [e] at hl
  refine sum_intTup hh hl fun h' tk t' hk => ?_
  have := h h' tk t' hk
  rw [preSum_eq, List.take_of_length_le (by simp), hn]; exact this
end
section
variable {X : Cx} {W : WX}
def rSumT (K : PySem.W.Frag) : List V → Hp → VK → Prop := fun vs H Q => ∃ (a : Addr) (ns : List Int), vs = [V.ref a] ∧ SqT K H a (ns.map V.int) ∧ Q (.int ns.sum) H
theorem cr_sumT (hc : X.calm = true) : CallR X (.builtin "sum") (rSumT X.K) := by
  intro pins s σ H vs us Q I r h
  obtain ⟨a, ns, rfl, hs, q⟩ := h
  obtain ⟨its, rv, hl, _⟩ := I.tuple hs
  rw [Vals.ref1 r]
  exact sumT_raw (I.ok.hd hc) (show s.heap.IsTuple a its.toArray from hl) rv.ints fun h' tk t' hk => ⟨.int _, H, I.kept hk, ⟨_, rfl⟩, q⟩
def sumTD (ds : List D) (_ : Nat) : Option D := match ds with
  | [.tup xs] => (intsD xs).map fun ns => .int ns.sum
  | _ => none
theorem ca_sumT (hc : X.calm = true) : CaD X (.builtin "sum") (RpX X) sumTD := by
  refine ⟨_, cr_sumT hc, fun aT Oc σ ρ n H vs ds z Q s rs hz q => ?_⟩
  unfold sumTD at hz
  split at hz
  case h_2 => exact (no_some hz).elim
  obtain ⟨ns, h1, rfl⟩ := Option.map_eq_some_iff.mp hz
  obtain ⟨v, rfl, r⟩ := Pb.one rs
  obtain ⟨p, ys, rfl, hp, rp⟩ := r.tup
  rw [intsD_map h1] at rp
  have e := rp.ints
  subst e
  exact ⟨p, ns, rfl, hp.sq, q _ _ .refl s.tw (.int _)⟩
def sumD2 (ds : List D) (n : Nat) : Option D := (L1 intsD (fun bs => some (.int bs.sum)) ds n).orElse fun _ => sumTD ds n
theorem ca_sum2 (hc : X.calm = true) : CaD X (.builtin "sum") (RpX X) sumD2 := CaD.or (ca_sum hc) (ca_sumT hc)
end
end DL

set_option Elab.async false
set_option linter.all false
set_option maxRecDepth 100000
set_option maxHeartbeats 4000000
namespace DL
open PySem PySem.Spec PyProof.Rows L2
/-! ### str of a tuple of texts, nested: some text -/
section
variable {prog : Program} {w : World}
/-- the repr of v is some text of at most L signs -/
def RSm (prog : Program) (w : World) (h : Heap) (B : Nat) (v : Value) (L : Nat) : Prop :=
  ∀ (b : Nat), b + L ≤ sizeLine → ∀ (A : Around) (E : Value → Shared → Prop) (s : Shared) (Q : Str → Shared → Prop), s.heap = h → A.units + B < cLine → (∀ m tk, m.length ≤ L → Q m { s with toks := tk }) → wpAny (model prog w) A (pyReprUnder b v) Q E s
inductive RSall (prog : Program) (w : World) (h : Heap) (B : Nat) : List Value → Nat → Prop
  | nil : RSall prog w h B [] 0
  | cons {x : Value} {L M : Nat} {l : List Value} : RSm prog w h B x L → RSall prog w h B l M → RSall prog w h B (x :: l) (L + 2 + M)
theorem RSm.str {h : Heap} {B : Nat} {y : Str} {t : Tok} (hy : ∀ c ∈ y.cps.toList, c < 16 ^ 8) (hz : 10 * y.length + 4 ≤ sizeLine) : RSm prog w h B (.str y t) (10 * y.length + 4) := by
  intro b hb A E s Q _ _ hQ
  have h1 := StrLaws.reprText_len y hy
  exact ReprIs.str y t (by omega) b (by omega) A E s Q fun tk => hQ _ tk (by omega)
variable {A : Around} {E : Value → Shared → Prop}
theorem some_fold {h : Heap} {B : Nat} : ∀ (l : List Value) (M : Nat) (acc : Array Str) (n : Nat) (s : Shared) (Q : (Array Str × Nat) → Shared → Prop), RSall prog w h B l M → n + M ≤ sizeLine → s.heap = h → A.units + B < cLine →
    (∀ (ts : List Str) tk, ts.length = l.length → piled ts ≤ M → Q ⟨acc ++ ts.toArray, n + piled ts⟩ { s with toks := tk }) → wpAny (model prog w) A (forIn l (⟨acc, n⟩ : (Array Str × Nat)) tupBody) Q E s := by
  intro l
  induction l with
  | nil =>
    intro M acc n s Q hT hn _ _ hq
    have h0 := hq [] s.toks rfl (by simp [piled])
    simp only [List.forIn_nil]
    exact wpAny_pure (by simpa [piled] using h0)
  | cons x l ih =>
    intro M acc n s Q hT hn hh hu hq
    cases hT with
    | cons hx hl =>
      rename_i L M'
      rw [List.forIn_cons]
      refine wpAny_bind (wpAny_bind (hx (n + 1) (by omega) _ _ _ _ hh hu fun t tk ht => wpAny_pure ?_))
      refine ih M' (acc.push t) (n + (t.length + 2)) _ Q hl (by omega) hh hu fun ts tk' e1 e2 => ?_
      have h1 := hq (t :: ts) tk' (by simp [e1]) (by rw [piled_cons]; omega)
      have e : n + piled (t :: ts) = n + (t.length + 2) + piled ts := by rw [piled_cons]; omega
      rw [e] at h1
      simpa using h1
theorem some_rest {s : Shared} {a : Addr} {o : Obj} {items : Array Value} {n b B M : Nat} {Q : PySem.Fin → Shared → Prop} (ha : s.heap.get? a = some o) (hd : o.data = .seq items n)
    (hT : RSall prog w s.heap B items.toList M) (hu : A.units + B < cLine) (h : ∀ (m : Str) u tk, m.length ≤ M + 2 → Q (.done (.ret (.str m u))) { s with toks := tk }) (hsz : b + (M + 2) ≤ sizeLine) :
    wpAny (model prog w) A (tupleReprRest b (.ref a)) Q E s := by
  unfold tupleReprRest Builtin.Tuple.tupleItemsOf
  refine wpAny_bind (wpAny_bind (wpAny_seqItems ha hd (wpAny_pure ?_)))
  rw [← Array.forIn_toList]
  refine wpAny_bind (some_fold _ M _ _ _ _ hT (by omega) rfl hu fun ts tk e1 e2 => ?_)
  have hlen : ts.length = items.size := by simpa using e1
  have htx := fmt_text ts
  refine wpAny_bind (wpAny_mkStr (wpAny_pure ?_) ?_)
  · have h1 := h (tupleText ts) tk (tk + 1) (by omega)
    simpa [tupleText, hlen] using h1
  · have : (tupleText ts).length ≤ sizeLine := by omega
    simpa [tupleText, hlen] using this
theorem some_at {s : Shared} {a : Addr} {o : Obj} {items : Array Value} {n b B M : Nat} {Q : PySem.Fin → Shared → Prop} (ha : s.heap.get? a = some o) (hd : o.data = .seq items n)
    (hT : RSall prog w s.heap B items.toList M) (hu : A.units + B < cLine) (h : ∀ (m : Str) u tk, m.length ≤ M + 7 → Q (.done (.ret (.str m u))) { s with toks := tk }) (hsz : b + (M + 7) ≤ sizeLine) :
    wpAny (model prog w) A (Builtin.tupleReprAt b ⟨[.ref a], []⟩) Q E s := by
  rw [tuple_repr_tree]
  refine wpAny_bind (fmt_underWay fun k => ?_)
  cases k with
  | true =>
    refine PySem.W.KFB.if_so rfl ?_
    refine wpAny_bind (wpAny_rule ?_)
    refine wpAny_bind (wpAny_mkStr (wpAny_pure ?_) (by decide +kernel))
    exact h "(...)" _ _ (Nat.le_trans fmt_way (by omega))
  | false =>
    refine PySem.W.KFB.if_not rfl ?_
    exact some_rest ha hd hT hu (fun m u tk hm => h m u tk (by omega)) (by omega)
theorem some_tuple_repr {s : Shared} {a : Addr} {o : Obj} {items : Array Value} {n B M : Nat} {Q : Value → Shared → Prop} (ha : s.heap.get? a = some o) (hc : o.cls = .type "tuple") (hd : o.data = .seq items n)
    (hT : RSall prog w s.heap B items.toList M) (hu : A.units + B + 2 < cLine) (hsz : M + 7 ≤ sizeLine) (h : ∀ (m : Str) (u tk : Tok), m.length ≤ M + 7 → Q (.str m u) { s with toks := tk }) :
    wpAny (model prog w) A (call (.builtin "tuple.__repr__") [.ref a]) Q E s := by
  refine wpAny_call (codeAny_call_builtin_own (Code.quiet_builtin _ (by decide +kernel)) F.entry_tuple_repr (F.slot_tuple_repr.check _ _ _ _ _ _ _ _ ⟨o, ha, hc⟩ (F.args_tuple_repr_1 _) (wpOwn_of_wpAny ?_)))
  show wpAny _ _ (Builtin.tupleReprAt 0 ⟨[.ref a], []⟩) _ _ s
  refine some_at ha hd hT ?_ (fun m u tk hm => h m u tk hm) (by omega)
  have := units_under_tuple_repr A ⟨[.ref a], []⟩
  rw [this]; omega
theorem RSm.tup {h0 : Heap} {a : Addr} {o : Obj} {items : Array Value} {n B M : Nat} (ha : h0.get? a = some o) (hc : o.cls = .type "tuple") (hd : o.data = .seq items n) (hT : RSall prog w h0 B items.toList M) : RSm prog w h0 (B + 2) (.ref a) (M + 7) := by
  intro b hb A E s Q hh hu hQ
  subst hh
  refine wpAny_pyReprUnder_ref (by omega) (wpAny_pyReprObjUnder_twin (twin := "tuple.__repr__.under") ⟨o, ha, hc⟩ F.slot_tuple_repr rfl (by omega)
    (call_twin_own (F.quiet_tuple_repr_under _) F.entry_tuple_repr_under F.check_tuple_repr_under ⟨o, ha, hc⟩ F.slot_tuple_repr (F.args_tuple_repr_1 _) (wpOwn_of_wpAny ?_)))
  refine some_at ha hd hT ?_ (fun m u tk hm => ⟨⟨_, _, rfl⟩, ⟨_, _, rfl, hQ m tk hm⟩⟩) hb
  have := units_under_tuple_repr_under A ⟨[.ref a, rawInt b], []⟩
  rw [this]; omega
theorem some_str {s : Shared} {a : Addr} {o : Obj} {items : Array Value} {n B M : Nat} {Q : Value → Shared → Prop} (ha : s.heap.get? a = some o) (hc : o.cls = .type "tuple") (hd : o.data = .seq items n)
    (hT : ∀ prog w, RSall prog w s.heap B items.toList M) (hu : A.units + B + 8 < cLine) (hsz : M + 7 ≤ sizeLine) (h : ∀ (m : Str) (u tk : Tok), m.length ≤ M + 7 → Q (.str m u) { s with toks := tk }) :
    wpAny (model prog w) A (call (.type "str") [.ref a]) Q E s :=
  callType_new F.called_str (by decide) (F.typeCall_str_1 _) (F.newCall_str_1 _) (fun obj => F.args_object_init_2 obj _) F.entry_str_new
    (meets_str_new (S := fun A' R s' => A'.units + B + 6 < cLine ∧ s'.heap = s.heap ∧ ∀ (m : Str) (u tk : Tok), m.length ≤ M + 7 → R (.ok (.ret (.str m u))) { s' with toks := tk })
      fun prog' w' A' R s' hq => by
        obtain ⟨q1, q2, q3⟩ := hq
        refine wpAny_strOf_slot (A := A'.in1) rfl (by show A'.units + 1 + 1 < cLine; omega) ⟨o, by rw [q2]; exact ha, hc⟩ F.slot_tuple_str F.slot_tuple_repr ?_
        refine some_tuple_repr (by rw [q2]; exact ha) hc hd (by rw [q2]; exact hT prog' w') (by show A'.units + 1 + 1 + B + 2 < cLine; omega) hsz fun m u tk hm => ⟨m, u, rfl, q3 m u tk hm⟩)
    ⟨by show A.units + 1 + B + 6 < cLine; omega, rfl, fun m u tk hm => ⟨typeIs_str _ _ _, h m u tk hm⟩⟩
end
/-! ### word in str(claim) -/
theorem RSm.mono {prog : Program} {w : World} {h : Heap} {B B' L L' : Nat} {v : Value} (r : RSm prog w h B v L) (hB : B ≤ B') (hL : L ≤ L') : RSm prog w h B' v L' := fun b hb A E s Q hh hu hQ =>
  r b (by omega) A E s Q hh (by omega) fun m tk hm => hQ m tk (by omega)
def wS : Nat → Nat
  | 0 => 204
  | k + 1 => 10 * (wS k + 2) + 7
def okS : Nat → D → Bool
  | _, .str x => PyData.strOk x && decide (x.length ≤ 20)
  | k + 1, .tup ds => decide (ds.length ≤ 10) && ds.all fun d => okS k d
  | _, _ => false
theorem wS_pos : ∀ k, 204 ≤ wS k
  | 0 => Nat.le_refl _
  | k + 1 => by
    have := wS_pos k
    show 204 ≤ 10 * (wS k + 2) + 7
    omega
theorem strOk_lt {x : Str} (h : PyData.strOk x = true) : ∀ c ∈ x.cps.toList, c < 16 ^ 8 := fun c hc => by
  simp only [PyData.strOk, Array.all_eq_true, decide_eq_true_eq] at h
  obtain ⟨i, hi, rfl⟩ := List.mem_iff_getElem.mp hc
  have := h i (by simpa using hi)
  simp only [Array.getElem_toList]
  omega
section
variable {X : Cx} {W : WX} {pins : List (Addr × Obj)} {σ : L2.St} {H : Hp} {s : Shared} {aT : Addr} {O : Addr → Prop}
theorem rs_all {prog : Program} {w : World} {h : Heap} {B L : Nat} : ∀ {its : List Value}, (∀ u ∈ its, RSm prog w h B u L) → RSall prog w h B its (its.length * (L + 2))
  | [], _ => by simpa using RSall.nil
  | u :: r, q => by
    have := RSall.cons (q u List.mem_cons_self) (rs_all fun v hv => q v (List.mem_cons_of_mem _ hv))
    have e : L + 2 + r.length * (L + 2) = (u :: r).length * (L + 2) := by rw [List.length_cons, Nat.add_mul]; omega
    rw [e] at this
    exact this
theorem rs_of (I : Inv X pins σ H s) : ∀ (k : Nat) (d : D) (v : V) (u : Value), Rp X.K aT O H v d → RelV v u → okS k d = true → ∀ prog w, RSm prog w s.heap (2 * k) u (wS k)
  | k, .str x, v, u, r, ru, h => by
    intro prog w
    have h : (PyData.strOk x && decide (x.length ≤ 20)) = true := by cases k <;> exact h
    simp only [Bool.and_eq_true, decide_eq_true_eq] at h
    cases r
    obtain ⟨t, rfl⟩ := ru
    have := wS_pos k
    exact (RSm.str (B := 0) (strOk_lt h.1) (by rw [sizeLine_eq]; omega)).mono (by omega) (by omega)
  | k + 1, .tup ds, v, u, r, ru, h => by
    intro prog w
    have h : (decide (ds.length ≤ 10) && ds.all fun d => okS k d) = true := h
    simp only [Bool.and_eq_true, decide_eq_true_eq, List.all_eq_true] at h
    cases r with
    | tup ht rt =>
      rename_i a xs
      obtain rfl : u = Value.ref a := ru
      obtain ⟨its, rv, ⟨o, ho, hc, n, hd⟩, hz⟩ := I.tuple ht.sq
      have hl : its.length = ds.length := by rw [← rv.length, rt.length]
      have hall : ∀ u ∈ its, RSm prog w s.heap (2 * k) u (wS k) := fun u hu => by
        obtain ⟨i, hi, rfl⟩ := List.mem_iff_getElem.mp hu
        have hid : i < ds.length := by omega
        obtain ⟨v', e1, e2⟩ := rt.get (List.getElem?_eq_getElem hid)
        obtain ⟨u', e3, e4⟩ := rv.get e1
        have : its[i] = u' := by
          rw [List.getElem?_eq_getElem hi] at e3
          simpa using e3
        rw [this]
        exact rs_of I k _ _ _ e2 e4 (h.2 _ (List.getElem_mem hid)) prog w
      have hs := rs_all hall
      have hm : its.length * (wS k + 2) ≤ 10 * (wS k + 2) := Nat.mul_le_mul_right _ (by omega)
      exact (RSm.tup ho hc hd hs).mono (by omega) (by show _ ≤ 10 * (wS k + 2) + 7; omega)
  | 0, .tup _, _, _, _, _, h => by simp [okS] at h
  | 0, .rcd _ _, _, _, _, _, h => by simp [okS] at h
  | _ + 1, .rcd _ _, _, _, _, _, h => by simp [okS] at h
  | k, .non, _, _, _, _, h => by cases k <;> simp [okS] at h
  | k, .bl _, _, _, _, _, h => by cases k <;> simp [okS] at h
  | k, .int _, _, _, _, _, h => by cases k <;> simp [okS] at h
  | k, .lst _, _, _, _, _, h => by cases k <;> simp [okS] at h
  | k, .trn _, _, _, _, _, h => by cases k <;> simp [okS] at h
  | k, .dct _, _, _, _, _, h => by cases k <;> simp [okS] at h
  | k, .cnt, _, _, _, _, h => by cases k <;> simp [okS] at h
  | k, .scr _, _, _, _, _, h => by cases k <;> simp [okS] at h
/-- str(x) of a text or a tuple of texts: some text -/
def rStrS (K : PySem.W.Frag) : List V → Hp → VK → Prop := fun vs H Q => ∃ (aT : Addr) (O : Addr → Prop) (v : V) (d : D), vs = [v] ∧ Rp K aT O H v d ∧ okS 3 d = true ∧ ∀ m : Str, Q (.str m) H
theorem cr_strS (hu : X.A.units + 20 < cLine) : CallR X (.type "str") (rStrS X.K) := by
  intro pins s σ H vs us Q I r h
  obtain ⟨aT, O, v, d, rfl, rv, ok, q⟩ := h
  obtain ⟨u, rfl, ru⟩ := vals1 r
  cases d with
  | str x =>
    cases rv
    obtain ⟨t, rfl⟩ := ru
    exact PySem.P.str_of_str ⟨.str x, H, I, ⟨t, rfl⟩, q x⟩
  | tup ds =>
    have ok' : (decide (ds.length ≤ 10) && ds.all fun d => okS 2 d) = true := ok
    simp only [Bool.and_eq_true, decide_eq_true_eq, List.all_eq_true] at ok'
    cases rv with
    | tup ht rt =>
      rename_i a xs
      obtain rfl : u = Value.ref a := ru
      obtain ⟨its, rvs, ⟨o, ho, hc, n, hd⟩, hz⟩ := I.tuple ht.sq
      have hl : its.length = ds.length := by rw [← rvs.length, rt.length]
      have hall : ∀ prog w, ∀ u ∈ its, RSm prog w s.heap 4 u (wS 2) := fun prog w u hu => by
        obtain ⟨i, hi, rfl⟩ := List.mem_iff_getElem.mp hu
        have hid : i < ds.length := by omega
        obtain ⟨v', e1, e2⟩ := rt.get (List.getElem?_eq_getElem hid)
        obtain ⟨u', e3, e4⟩ := rvs.get e1
        have : its[i] = u' := by
          rw [List.getElem?_eq_getElem hi] at e3
          simpa using e3
        rw [this]
        exact rs_of I 2 _ _ _ e2 e4 (ok'.2 _ (List.getElem_mem hid)) prog w
      have hm : its.length * (wS 2 + 2) ≤ 10 * (wS 2 + 2) := Nat.mul_le_mul_right _ (by omega)
      have hw : wS 2 = 20697 := rfl
      refine some_str ho hc hd (fun prog w => rs_all (hall prog w)) (by omega) (by have hsz := sizeLine_eq; have e : its.toArray.toList.length = its.length := rfl; rw [e]; omega) fun m u tk _ => ⟨.str m, H, I.tok _, ⟨u, rfl⟩, q m⟩
  | _ => simp [okS] at ok
def tInStr (fa fc : SE) : ST := fun ρ n => (fa ρ n).bind fun d n1 => (fc ρ n1).bind fun c n2 => match d with
  | .str _ => if okS 3 c = true then .amb fun b => .ok (b == 0) n2 else .no
  | _ => .no
theorem dt_inStr {a c : Expr} {fa fc : SE} {p pos pos2 : Pos} (hu : X.A.units + 20 < cLine) (ha : DB X W a fa) (hc : DE X W c fc) (hm : X.mg "str" = none) (hg : Gl X "str" := by rfl)
    (he : starEach [c] X.env = (false, eval c X.env) :: starEach [] X.env := by rfl) (hpl : (backTo pos2 (starEach [] X.env)).any (·.1) = false := by rfl) (hmk : behindInMarks .In (.Call (.Name "str" p) [c] [] pos2) = false := by rfl) :
    DT X W (.Compare a [.In] [.Call (.Name "str" p) [c] [] pos2] pos) (tInStr fa fc) := by
  refine PT.imp (pt_cmpR op_in_str ha (pe_callTy (cr_strS hu) hg hm (by rfl) (pa_cons hc pa_nil he) (by decide) (by decide) he hpl) hmk) fun σ H Q h => ?_
  refine Go.bind (R' := RtX) mo_c h fun aT Oc ρ H1 v d n1 s1 r g => ?_
  refine GoAt.bind (R' := RtX) mo_c s1 g fun H2 u c' n2 s2 e2 r2 g2 => ?_
  replace r := r.step e2 (O := Oo Oc σ ρ) (.inl s1.oT)
  cases d <;> try exact g2.elim
  rename_i x0
  by_cases hk : okS 3 c' = true
  case neg => simp only [if_neg hk] at g2; exact g2.elim
  simp only [if_pos hk] at g2
  refine ⟨aT, _, u, c', rfl, r2, hk, fun m => ⟨_, m, r.str, rfl, _, rfl, ?_⟩⟩
  generalize (!(Builtin.Str.occurrences m x0 0 m.length 1).isEmpty) = bb
  cases bb with
  | true => exact GoAt.ok (R := RtX aT (Oo Oc σ ρ)) (g2 0) .refl s2.tw rfl
  | false => exact GoAt.ok (R := RtX aT (Oo Oc σ ρ)) (g2 1) .refl s2.tw rfl
end
theorem u20_of {A : Around} {k : Nat} (hr : Room k A) : A.units + 20 < cLine := by have := hr.un; omega
end DL

set_option Elab.async false
set_option linter.all false
set_option maxRecDepth 100000
set_option maxHeartbeats 4000000
namespace DL
open PySem PySem.Spec PyProof.Rows L2
/-! ### enumerate of a tuple -/
theorem meets_enumB {v : Value} {o : Obj} {H : Heap → Prop} (B : Begins v o H) :
    Meets (Builtin.«enumerate.__new__» ⟨[.type "enumerate", v], []⟩) (fun _ R s => H s.heap ∧
      R (.ok (.ret (.ref (s.heap.push o).objs.size))) { s with heap := (s.heap.push o).push { cls := .type "enumerate", data := .fields #[.none, .bool false, .ref s.heap.objs.size, rawInt 0, .none, .none] } }) :=
  .of_wp fun prog w A R s h => by
    obtain ⟨hp, g, d, tk, os⟩ := s; obtain ⟨h1, h⟩ := h
    have hsub := sub_enumerate
    have q1 : ∀ {A' : Around} {E : Value → Shared → Prop} {Q : Value → Shared → Prop}, Q (.ref hp.objs.size) ⟨hp.push o, g, d, tk, os⟩ → wpAny (model prog w) A' (pyIter v) Q E ⟨hp, g, d, tk, os⟩ :=
      fun q => B.iter prog w _ _ ⟨hp, g, d, tk, os⟩ _ h1 q
    wp_walk using q1
    refine wpAny_stack_any fun st => wpAny_pure ?_
    split
    · rename_i c _ _ _ _ _
      cases (c == Value.type "enumerate")
      · wp_walk using q1
        exact ⟨_, rfl, h⟩
      · wp_walk using q1
        exact ⟨_, rfl, h⟩
    · wp_walk using q1
      exact ⟨_, rfl, h⟩
section
variable {prog : Program} {w : World} {A : Around} {E : Value → Shared → Prop} {s : Shared}
theorem call_enumB {v : Value} {o : Obj} {H : Heap → Prop} {Q : Value → Shared → Prop} (B : Begins v o H) (h1 : H s.heap)
    (h : ∀ h', IsEnum h' (s.heap.objs.size + 1) s.heap.objs.size 0 .none → h'.get? s.heap.objs.size = some o → h'.objs.size = s.heap.objs.size + 2 →
      (∀ b o, s.heap.get? b = some o → h'.get? b = some o) → Q (.ref (s.heap.objs.size + 1)) { s with heap := h' }) :
    wpAny (model prog w) A (call (.type "enumerate") [v]) Q E s := by
  refine callType_new F.called_enumerate (by decide) (F.typeCall_enumerate_1 _) (F.newCall_enumerate_1 _) (fun obj => F.args_object_init_2 obj _) F.entry_enumerate_new (meets_enumB B) ⟨h1, ?_⟩
  have hz : (s.heap.push o).objs.size = s.heap.objs.size + 1 := Heap.size_push ..
  show _ ∧ _
  rw [hz]
  have he : IsEnum ((s.heap.push o).push { cls := .type "enumerate", data := .fields #[.none, .bool false, .ref s.heap.objs.size, rawInt 0, .none, .none] }) (s.heap.objs.size + 1) s.heap.objs.size 0 .none := by
    have := Heap.get?_push_size (s.heap.push o) (o := { cls := .type "enumerate", data := .fields #[.none, .bool false, .ref s.heap.objs.size, rawInt 0, .none, .none] }) rfl
    rw [hz] at this; exact this
  exact ⟨⟨_, he, rfl⟩, h _ he (Heap.get?_push_of_some _ (Heap.get?_push_size _ B.free)) (by rw [Heap.size_push, hz]) fun b o x => Heap.get?_push_of_some _ (Heap.get?_push_of_some _ x)⟩
end
theorem enum_endT {prog : Program} {w : World} {A : Around} {E : Value → Shared → Prop} {s : Shared} {e it t : Addr} {i : Int} {j : Nat} {items : Array Value} {old : Value} {Q : Option Value → Shared → Prop} (hh : A.handled = none) (he : IsEnum s.heap e it i old) (hit : s.heap.IsTupleIter it t j) (ht : s.heap.IsTuple t items) (hx : items[j]? = none)
    (hQ : ∀ h', Heap.ExtBut it s.heap h' → Q none { s with heap := h' }) : wpAny (model prog w) A (pyNext (.ref e)) Q E s := by
  have hT : s.TypeIs (.ref e) "enumerate" := ⟨_, he, rfl⟩
  unfold pyNext
  refine wpAny_bind (wpAny_attempt (wpAny_callSpecial?_slot (name := Str.ofString "__next__") hT F.slot_enumerate_next
    (wpAny_call_entry F.slot_enumerate_next hT F.entry_enumerate_next ?_ (F.args_enumerate_next_1 _))))
  show wpAny _ _ (field (.ref e) 2 >>= _) _ _ _
  refine wpAny_bind (wpAny_field he rfl (x := .ref it) rfl ?_)
  refine wpAny_bind (wpAny_nextOf_tuple_end (A := A.in1) hh hit ht hx fun h' x he' hx' => ?_)
  obtain ⟨o, ho, hc⟩ := hx'
  refine wpAny_bind (wpAny_isInstance (T := "StopIteration") (b := true) ⟨o, ho, hc⟩ isSubtype_stop ?_)
  exact wpAny_pure (hQ _ he')
/-- the tuple at a, each item in a new pair -/
def IteT (K : PySem.W.Frag) (a : Addr) : It :=
  ⟨fun i H => ∃ (xs : List V) (x : V), SqT K H a xs ∧ xs[i]? = some x, fun i H v H' => ∃ T x, v = .ref T ∧ H T = none ∧ (∃ o : Obj, o.dict = none ∧ H' = upd H T (.frz o (.tup [.int (i : Nat), x]))) ∧ ∀ xs, SqT K H a xs → xs[i]? = some x, fun i H => ∃ xs : List V, SqT K H a xs ∧ xs.length ≤ i⟩
theorem turn_enumT {P : Program} {w : World} {K : PySem.W.Frag} {elts : List Expr} {kk : Nat} {tpos : Pos} (a e it : Addr) :
    Turn P w K (.Tuple elts kk tpos) (IteT K a) [e, it] e (fun i h => (∃ old, IsEnum h e it ((i : Nat) : Int) old) ∧ h.IsTupleIter it a i ∧ e ≠ it) where
  mem := by simp
  obj := fun i h st b hb => by
    obtain ⟨⟨old, he⟩, ⟨o, ho, hc, hd⟩, _⟩ := st
    have e' : b = e ∨ b = it := by simpa using hb
    rcases e' with z | z
    · rw [z]; exact ⟨_, he, fun v q => nomatch q⟩
    · rw [z]; exact ⟨o, ho, fun v q => by rw [hd] at q; cases q⟩
  keep := fun i h h' st k => let ⟨⟨old, he⟩, hi, hne⟩ := st; ⟨⟨old, k e (by simp) _ he⟩, hi.at fun o q => k it (by simp) o q, hne⟩
  item := by
    intro X hP hw hK hc i pins s σ H E I hf st hg
    subst hP hw hK
    obtain ⟨⟨old, he⟩, hit, hne⟩ := st
    obtain ⟨xs, x, hq, hx⟩ := hg
    obtain ⟨its, rv, p, hz⟩ := I.tuple hq
    have pT : s.heap.IsTuple a its.toArray := p
    obtain ⟨u, hu, ru⟩ := rv.get hx
    have hel : e < s.heap.objs.size := Heap.lt_size he
    have hil : it < s.heap.objs.size := by obtain ⟨_, q, _⟩ := hit; exact Heap.lt_size q
    have hai : a ≠ it := fun z => by
      obtain ⟨o1, q1, q2, _⟩ := hit
      obtain ⟨o2, q3, q4, _⟩ := pT
      rw [← z, q3] at q1
      cases q1
      rw [q4] at q2
      exact absurd (Value.type.inj q2) (by decide)
    have hae : e ∉ [it, a] := fun z => by
      rcases List.mem_cons.mp z with z | z
      · exact hne z
      · have z : e = a := by simpa using z
        obtain ⟨o2, q3, q4, _⟩ := pT
        have hT : s.TypeIs (.ref e) "enumerate" := ⟨_, he, rfl⟩
        obtain ⟨o3, q5, q6⟩ := hT
        rw [z, q3] at q5
        cases q5
        rw [q4] at q6
        exact absurd (Value.type.inj q6) (by decide)
    have hil2 : i < its.toArray.size := by
      have := (List.getElem?_eq_some_iff.mp hu).1
      simpa using this
    refine wpAny_pyNext_enum_itemD (Draws.tuple (A := X.A.in1) (I.ok.hd hc) it a hai its.toArray) he ⟨hit, pT⟩ hil2 hne hae fun x' h' tk hP ho hst hT hsz hk => ?_
    have ex : x' = u := by
      have hP : its.toArray[i]? = some x' := hP
      have : its[i]? = some x' := by simpa using hP
      rw [hu] at this
      cases this
      rfl
    subst ex
    refine ⟨_, rfl, wpAny_letOwnedTupleGo_enum (s := { s with heap := h', toks := tk + 1 }) ho fun h'' he' sb => ?_⟩
    have hT2 : h''.get? s.heap.objs.size = some { cls := .type "tuple", data := .seq #[.int i tk, x'] } := (sb.2 _ (Nat.ne_of_gt hel)).trans hT
    have new : ObjOk X.prog X.w (upd H s.heap.objs.size (.frz { cls := .type "tuple", data := .seq #[.int i tk, x'] } (.tup [.int (i : Nat), x]))) h'' s.heap.objs.size (.frz { cls := .type "tuple", data := .seq #[.int i tk, x'] } (.tup [.int (i : Nat), x])) :=
      ⟨hT2, by show 2 ≤ sizeLine; decide, [.int i tk, x'], .cons ⟨_, rfl⟩ (.cons ru .nil), ⟨_, hT2, rfl, _, rfl⟩⟩
    have I1 : Inv X pins σ (upd H s.heap.objs.size (.frz { cls := .type "tuple", data := .seq #[.int i tk, x'] } (.tup [.int (i : Nat), x]))) { s with heap := h'', toks := tk + 1 } :=
      I.turnedNew (ch := [e, it]) (fun b ob hb q => (sb.2 b (fun z => hb (by simp [z]))).trans (hk b ob (fun z => hb (by simp [z])) (fun z => hb (by simp [z])) q)) hf (Nat.le_refl _) new
    refine ⟨.ref s.heap.objs.size, _, I1, rfl, ⟨_, x, rfl, I.hok.fresh (Nat.le_refl _), ⟨_, rfl, rfl⟩, fun ys hy => by rw [I.tuple_inj hy hq]; exact hx⟩, ⟨⟨x', ?_⟩, hst.1.at fun o q => (sb.2 it (Ne.symm hne)).trans q, hne⟩, fun b hb => ?_⟩
    · have e1 : ((i + 1 : Nat) : Int) = (i : Int) + 1 := by omega
      rw [e1]; exact he'
    · have hb' : b < s.heap.objs.size := by
        have e' : b = e ∨ b = it := by simpa using hb
        rcases e' with z | z
        · rw [z]; exact hel
        · rw [z]; exact hil
      rw [upd_ne (Nat.ne_of_lt hb')]
      exact (hf b hb).1
  done := by
    intro X hP hw hK hc i pins s σ H E I hf st hg
    subst hP hw hK
    obtain ⟨⟨old, he⟩, hit, hne⟩ := st
    obtain ⟨xs, hq, hx⟩ := hg
    obtain ⟨its, rv, p, hz⟩ := I.tuple hq
    have pT : s.heap.IsTuple a its.toArray := p
    obtain ⟨f0, f1, f2, f3, f4, f5⟩ := hf it (by simp)
    have hl := rv.length
    exact enum_endT (I.ok.hd hc) he hit pT (by simp; omega) fun h' eb => ⟨rfl, I.turned (t' := s.toks) (fun b o hb q => eb b o hb q) f0 f1 f3 f4 f5⟩
  self := fun A i s Q E st h => let ⟨⟨_, he⟩, _⟩ := st; wpAny_pyIter_enum he h
def iEnumT (K : PySem.W.Frag) (ta : TA) : TI := fun σ H R => ta σ H fun vs H1 => ∃ a xs, vs = [.ref a] ∧ SqT K H1 a xs ∧ R (IteT K a) H1
theorem pi_enumT {X : Cx} {e : Expr} {ta : TA} {p pos tpos : Pos} {elts : List Expr} {kk : Nat} (hg : Gl X "enumerate") (hm : X.mg "enumerate" = none) (ha : PA X [e] ta) (hs : starEach [e] X.env = [(false, eval e X.env)] := by rfl) :
    PI X (.Tuple elts kk tpos) (.Call (.Name "enumerate" p) [e] [] pos) (iEnumT X.K ta) := by
  refine ⟨fun pins s σ H R I h => ?_⟩
  refine Call_ (ld_blt I hg hm boot_enumerate (PyProof.Rows.callWith_type1 (thn (ha.run pos pins s σ H _ I h) fun us s1 ⟨vs, H1, I1, r1, q1⟩ => ?_) hs rfl))
  obtain ⟨a, xs, ex, hq, q⟩ := q1
  subst ex
  cases r1 with
  | cons r rr =>
    cases rr
    cases r
    obtain ⟨its, rv, p', hz⟩ := I1.tuple hq
    refine call_enumB (begins_tuple a its.toArray) (show s1.heap.IsTuple a its.toArray from p') fun h' he hit hsz hk => wpAny_pyIter_enum he ?_
    have I2 : Inv X pins σ H1 { s1 with heap := h' } := I1.kept (t' := s1.toks) hk
    refine ⟨s1.heap.objs.size + 1, [s1.heap.objs.size + 1, s1.heap.objs.size], _, _, H1, rfl, I2, turn_enumT a (s1.heap.objs.size + 1) s1.heap.objs.size, ⟨⟨.none, he⟩, ⟨_, hit, rfl, rfl⟩, Nat.succ_ne_self _⟩, fun b hb => ?_, q⟩
    have e' : b = s1.heap.objs.size + 1 ∨ b = s1.heap.objs.size := by simpa using hb
    have hle : s1.heap.objs.size ≤ b := by
      rcases e' with z | z
      · rw [z]; exact Nat.le_add_right _ _
      · rw [z]; exact Nat.le_refl _
    exact I1.fpOk hle (I1.hok.fresh hle)
section
variable {X : Cx} {W : WX} {a : Expr} {pos p tpos : Pos} {elts : List Expr} {kk : Nat}
def enumD (d : List D) : Option (List D) := match d with
  | [.tup xs] => some (xs.zipIdx.map fun p => D.tup [.int (p.2 : Nat), p.1])
  | _ => none
theorem wk_enum {K : PySem.W.Frag} {aT : Addr} {O1 : Addr → Prop} {H1 : Hp} {xs : List V} {ds : List D} {q : Addr} {L : (Addr → Prop) → Hp → Prop} (r : Rps K aT O1 H1 xs ds) (h1 : ∀ O H, L O H → Kp O1 H1 O H) (h2 : ∀ O H, L O H → SqT K H q xs) : Wk K aT L (IteT K q) (ds.zipIdx.map fun p => D.tup [.int (p.2 : Nat), p.1]) := fun O H hL dom => by
  refine ⟨fun i d hd => ?_, fun i hi => ⟨xs, h2 O H hL, by rw [r.length]; simpa using hi⟩⟩
  rw [List.getElem?_map] at hd
  obtain ⟨p, hp, rfl⟩ := Option.map_eq_some_iff.mp hd
  rw [List.getElem?_zipIdx] at hp
  obtain ⟨d1, q1, rfl⟩ := Option.map_eq_some_iff.mp hp
  obtain ⟨v1, e1, p1⟩ := r.getO (h1 O H hL) q1
  refine ⟨⟨xs, v1, h2 O H hL, e1⟩, fun v H' y => ?_⟩
  obtain ⟨T, x, rfl, nT, ⟨o, od, rfl⟩, y1⟩ := y
  have z1 := (y1 xs (h2 O H hL)).symm.trans e1
  obtain rfl := Option.some.inj z1
  have kp : Kp O H O (upd H T (.frz o (.tup [.int (i : Nat), x]))) := fun a u e na => ⟨by rw [upd_ne (ne_of_none e nT)]; exact e, na⟩
  refine ⟨fun b u e => by rw [upd_ne (ne_of_none e nT)]; exact e, .tup (.inl ⟨⟨o, od, upd_same⟩, fun z => dom T z nT⟩) (.cons ?_ (.cons (p1.mono kp) .nil))⟩
  have : ((0 + i : Nat) : Int) = (i : Int) := by omega
  show Rp K aT O _ (.int (i : Nat)) (.int ((0 + i : Nat) : Int))
  rw [this]
  exact .int _
theorem dj_enum {f : SA} (ha : DQ X W [a] f) (hm : X.mg "enumerate" = none) (hg : Gl X "enumerate" := by rfl) (hs : starEach [a] X.env = [(false, eval a X.env)] := by rfl) : DJ X W (.Tuple elts kk tpos) (.Call (.Name "enumerate" p) [a] [] pos) (iRng enumD f) := PI.imp (pi_enumT hg hm ha hs) fun σ H R h => by
  refine Go.bind (R' := fun aT O (_ : Hp) H1 (J : It) (ds : List D) => Wk X.K aT (le' aT O H1) J ds) mo_w h fun aT Oc ρ H1 vs ds n1 s1 r g => ?_
  obtain ⟨z, hz, q⟩ := g.of
  unfold enumD at hz
  split at hz
  · cases hz
    obtain ⟨v, rfl, ra⟩ := Pb.one r
    obtain ⟨p1, xs, rfl, t1, k1⟩ := ra.tup
    exact ⟨p1, xs, rfl, t1.sq, q _ _ .refl s1.tw (wk_enum k1 (fun O H k => k.1) fun O H k => (Kp.tup k.1 t1).sq)⟩
  · exact (no_some hz).elim
theorem di_enum {f : SA} (ha : DQ X W [a] f) (hm : X.mg "enumerate" = none) (hg : Gl X "enumerate" := by rfl) (hs : starEach [a] X.env = [(false, eval a X.env)] := by rfl) : DI X W (.Tuple elts kk tpos) (.Call (.Name "enumerate" p) [a] [] pos) (iRng enumD f) := PI.imp (pi_enumT hg hm ha hs) fun σ H R h => by
  refine Go.bind (R' := fun aT O (_ : Hp) H1 (J : It) (ds : List D) => Wk X.K aT (lk aT O H1) J ds) mo_w h fun aT Oc ρ H1 vs ds n1 s1 r g => ?_
  obtain ⟨z, hz, q⟩ := g.of
  unfold enumD at hz
  split at hz
  · cases hz
    obtain ⟨v, rfl, ra⟩ := Pb.one r
    obtain ⟨p1, xs, rfl, t1, k1⟩ := ra.tup
    exact ⟨p1, xs, rfl, t1.sq, q _ _ .refl s1.tw (wk_enum k1 (fun O H k => k) fun O H k => (Kp.tup k t1).sq)⟩
  · exact (no_some hz).elim
end
end DL

set_option Elab.async false
set_option linter.all false
set_option maxRecDepth 100000
set_option maxHeartbeats 4000000
/-! t.count(x), t.index(x) of tuples of ints -/
namespace DL
open PySem PySem.Spec PyProof.Rows L2
section
variable {X : Cx} {W : WX} {o e : Expr} {es : List Expr} {fo : SE} {apos cpos : Pos} {name : Str} {id : String}
/-- a tuple whose object has no dict -/
def tuV (x : V) (H : Hp) : Prop := ∃ a xs, x = .ref a ∧ SlT H a xs
theorem tuV_is {pins : List (Addr × Obj)} {σ : L2.St} {H : Hp} {s : Shared} {x : V} {v : Value} (I : Inv X pins σ H s) (r : RelV x v) (ty : tuV x H) :
    s.TypeIs v "tuple" ∧ ∀ a, v = .ref a → ∃ ob, s.heap.get? a = some ob ∧ ob.dict = none := by
  obtain ⟨a, xs, rfl, h⟩ := ty
  obtain rfl : v = Value.ref a := r
  obtain ⟨o, hd, h⟩ := h
  obtain ⟨g, _, its, _, o', g', hc, _⟩ := I.hok _ _ h
  rw [g] at g'
  cases g'
  exact ⟨⟨o, g, hc⟩, fun b e => by cases e; exact ⟨o, g, hd⟩⟩
def tTM (r : V → List V → Hp → VK → Prop) (to : TE) (t : TA) : TE := fun σ H Q => to σ H fun x H1 => tuV x H1 ∧ t σ H1 fun xs H2 => r x xs H2 Q
theorem pe_tm {to : TE} {t : TA} {r : V → List V → Hp → VK → Prop} (slot : Slot "tuple" name id) (hty : typeOf (.builtin id) = pure (.type "method_descriptor")) (hm : MtR X id r) (ho : PE X o to) (ha : PA X (e :: es) t)
    (hbase : attributeBase o name X.env (eval o X.env) = eval o X.env := by rfl)
    (hfew : ((backTo cpos (starEach (e :: es) X.env)).all (fun x => !x.1) && (backToKw cpos (keywordEach [] X.env)).all (fun x => x.1.isSome)
      && decide ((e :: es).length + ([] : List Keyword).length + (if ([] : List Keyword).isEmpty then 0 else 1) < 30)) = true := by rfl)
    (hline : (apos.endLine == cpos.line) = true := by rfl) (hs : starEach (e :: es) X.env = (false, eval e X.env) :: starEach es X.env := by rfl) (hplain : (backTo cpos (starEach es X.env)).any (·.1) = false := by rfl) :
    PE X (.Call (.Attribute o name apos) (e :: es) [] cpos) (tTM r to t) := by
  refine ⟨fun pins s σ H Q I h => ?_⟩
  refine wpAny_Call_method_late hbase hfew hline rfl (thn (ho.run pins s σ H _ I h) fun v s1 ⟨x, H1, I1, r1, ty, q1⟩ => ?_)
  obtain ⟨h1, h2⟩ := tuV_is I1 r1 ty
  refine ⟨"tuple", id, PySem.F.plainAttrs_tuple, slot, hty, h1, h2, ?_⟩
  have hA := ha.run cpos pins s1 σ H1 _ I1 q1
  rw [hs] at hA ⊢
  refine Calls.callWith_builtin (by show (false || (backTo cpos (starEach es X.env)).any (·.1)) = false; rw [hplain] <;> rfl) (Calls.evalArgs_plain ?_)
  exact thn hA fun us s2 ⟨vs, H2, I2, r2, q2⟩ => hm pins s2 σ H2 x vs v us Q I2 r1 r2 q2
/-- the two rules -/
def rTCount (K : PySem.W.Frag) : V → List V → Hp → VK → Prop := fun x xs H Q => ∃ (a : Addr) (ns : List Int) (k : Int), x = V.ref a ∧ xs = [.int k] ∧ SqT K H a (ns.map V.int) ∧ Q (.int (ns.count k : Nat)) H
def rTIndex (K : PySem.W.Frag) : V → List V → Hp → VK → Prop := fun x xs H Q => ∃ (a : Addr) (ns : List Int) (k : Int), x = V.ref a ∧ xs = [.int k] ∧ SqT K H a (ns.map V.int) ∧ k ∈ ns ∧ Q (.int (ns.idxOf k : Nat)) H
theorem mt_tindex : MtR X "tuple.index" (rTIndex X.K) := by
  intro pins s σ H x xs v us Q I rx rxs h
  obtain ⟨a, ns, k, rfl, rfl, hl, hk, q⟩ := h
  obtain rfl : v = Value.ref a := rx
  obtain ⟨u, rfl, t, rfl⟩ := rxs.one
  obtain ⟨its, rv, p, hz⟩ := I.tuple hl
  exact SeqAt.tuple_index_ints (show s.heap.IsTuple a its.toArray from p) rv.ints hk ⟨.int (ns.idxOf k : Nat), H, I.tok _, ⟨_, rfl⟩, q⟩
theorem dpAll_ints {K : PySem.W.Frag} {H : Hp} : ∀ ns : List Int, DpAll K H (ns.map V.int) (ns.map .int) := DpAll.ints
theorem eqv_intS (i k : Int) : PyData.eqv (.int i) (.int k) = (i == k) := by simp [PyData.eqv]
theorem mt_tcount (hu : X.A.units + 65 < cLine) : MtR X "tuple.count" (rTCount X.K) := by
  intro pn z σ G x xs v us R J rx rxs h
  obtain ⟨a, ns, k, rfl, rfl, hl, q⟩ := h
  obtain rfl : v = Value.ref a := rx
  obtain ⟨uy, rfl, ry⟩ := rxs.one
  obtain ⟨bs, r1⟩ := Dp.reads J (.int k) (.int k) uy (.int k) ry
  have lay : PyData.canLayAll0 (ns.map .int) = true := layInts ns
  obtain ⟨its, rv, ⟨⟨cls, dd, data, sls⟩, ho, hc, n, hdt⟩, hlen⟩ := J.tuple hl
  simp only at hc hdt
  subst hc hdt
  obtain ⟨as, r4⟩ := Dp.readsAll J (ns.map .int) _ its (DpAll.ints ns) rv
  have hmap : its.map (SeqAt.readOf z.heap) = ns.map .int := SeqAt.readsAll_map _ its as lay r4
  have sd : SeqAt.shaped (.int k) = true := rfl
  refine call_meets PySem.F.slot_tuple_count ⟨_, ho, rfl⟩ PySem.F.entry_tuple_count (PySem.F.args_tuple_count_2 _ _)
    (SeqAt.tuple_countAt a its.toArray n dd sls uy (fun u => PyData.eqv (SeqAt.readOf z.heap u) (.int k))) ⟨ho, SeqAt.items_eqAt (vs := its.toArray) r4 r1 lay (SeqAt.canLay_of_shaped sd) (room_in_shaped sd hu), ?_⟩
  have ec : its.toArray.toList.countP (fun u => PyData.eqv (SeqAt.readOf z.heap u) (.int k)) = ns.count k := by
    have e1 : its.countP (fun u => PyData.eqv (SeqAt.readOf z.heap u) (.int k)) = (its.map (SeqAt.readOf z.heap)).countP fun w => PyData.eqv w (.int k) := by
      rw [List.countP_map]; rfl
    show its.countP _ = _
    rw [e1, hmap, List.countP_map, List.count]
    refine List.countP_congr fun i _ => ?_
    show PyData.eqv (.int i) (.int k) = true ↔ (i == k) = true
    rw [eqv_intS]
  refine ⟨.int (ns.count k : Nat), G, J.tok _, ⟨z.toks, ?_⟩, q⟩
  show Value.int ((its.toArray.toList.countP (fun u => PyData.eqv (SeqAt.readOf z.heap u) (.int k)) : Nat) : Int) z.toks = _
  rw [ec]
/-! on data -/
def eTm (g : List Int → Int → Option Int) (fo : SE) (f : SA) : SE := fun ρ n => (fo ρ n).bind fun d n1 => match d with
  | .tup ds => match intsD ds with
    | some (m :: ms) => (f ρ n1).bind fun as n2 => Rs.of (match as with
      | [.int k] => (g (m :: ms) k).map D.int
      | _ => none) n2
    | _ => .no
  | _ => .no
def tcnt (ns : List Int) (k : Int) : Option Int := some (ns.count k : Nat)
def tidx (ns : List Int) (k : Int) : Option Int := if k ∈ ns then some (ns.idxOf k : Nat) else none
theorem TupO.tuV {K : PySem.W.Frag} {O : Addr → Prop} {H : Hp} {a : Addr} {m : Int} {ms : List Int} (h : TupO K O H a ((m :: ms).map V.int)) : tuV (.ref a) H := by
  rcases h with ⟨h, _⟩ | ⟨⟨ss, hs⟩, _⟩
  · exact ⟨a, _, rfl, h⟩
  · cases ss with
    | nil => cases hs
    | cons s ss => cases hs
theorem de_tm {g : List Int → Int → Option Int} {f : SA} {r : V → List V → Hp → VK → Prop} (slot : Slot "tuple" name id) (hty : typeOf (.builtin id) = pure (.type "method_descriptor")) (hm : MtR X id r)
    (hr : ∀ a ns k z H (Q : VK), SqT X.K H a (ns.map V.int) → g ns k = some z → Q (.int z) H → r (.ref a) [.int k] H Q) (ho : DB X W o fo) (ha : DQ X W [e] f)
    (hbase : attributeBase o name X.env (eval o X.env) = eval o X.env := by rfl)
    (hfew : ((backTo cpos (starEach [e] X.env)).all (fun x => !x.1) && (backToKw cpos (keywordEach [] X.env)).all (fun x => x.1.isSome)
      && decide (([e] : List Expr).length + ([] : List Keyword).length + (if ([] : List Keyword).isEmpty then 0 else 1) < 30)) = true := by rfl)
    (hline : (apos.endLine == cpos.line) = true := by rfl) (hs : starEach [e] X.env = (false, eval e X.env) :: starEach [] X.env := by rfl) (hplain : (backTo cpos (starEach [] X.env)).any (·.1) = false := by rfl) :
    DE X W (.Call (.Attribute o name apos) [e] [] cpos) (eTm g fo f) := by
  refine PE.imp (pe_tm slot hty hm ho ha hbase hfew hline hs hplain) fun σ H Q h => ?_
  refine Go.bind mo_c h fun aT Oc ρ H1 v d n1 s1 rv gg => ?_
  cases d <;> try exact gg.elim
  rename_i dd
  have hi : ∃ m ms, intsD dd = some (m :: ms) := by
    cases h1 : intsD dd with
    | none => simp only [h1] at gg; exact gg.elim
    | some l =>
      cases l with
      | nil => simp only [h1] at gg; exact gg.elim
      | cons m ms => exact ⟨m, ms, rfl⟩
  obtain ⟨m, ms, h1⟩ := hi
  simp only [h1] at gg
  obtain ⟨a, xs, rfl, ht, rt⟩ := rv.tup
  rw [intsD_map h1] at rt
  rw [rt.ints] at ht
  refine ⟨ht.tuV, ?_⟩
  refine GoAt.bind mo_c s1 gg fun H2 vs ds n2 s2 e2 r2 g2 => ?_
  obtain ⟨z, hz, q⟩ := g2.of
  split at hz
  case h_2 => exact (no_some hz).elim
  obtain ⟨y, h3, rfl⟩ := Option.map_eq_some_iff.mp hz
  obtain ⟨u, rfl, ru⟩ := Pb.one r2
  obtain ⟨a', xs', e', ht', rt'⟩ := (rv.step e2 (O := Oo Oc σ ρ) (.inl s1.oT)).tup
  cases e'
  rw [intsD_map h1] at rt'
  rw [rt'.ints] at ht'
  rw [ru.int]
  exact hr a (m :: ms) _ y H2 Q ht'.sq h3 (q _ _ .refl s2.tw (.int _))
theorem de_tcount {f : SA} (hu : X.A.units + 65 < cLine) (ho : DB X W o fo) (ha : DQ X W [e] f)
    (hbase : attributeBase o "count" X.env (eval o X.env) = eval o X.env := by rfl)
    (hfew : ((backTo cpos (starEach [e] X.env)).all (fun x => !x.1) && (backToKw cpos (keywordEach [] X.env)).all (fun x => x.1.isSome)
      && decide (([e] : List Expr).length + ([] : List Keyword).length + (if ([] : List Keyword).isEmpty then 0 else 1) < 30)) = true := by rfl)
    (hline : (apos.endLine == cpos.line) = true := by rfl) (hs : starEach [e] X.env = (false, eval e X.env) :: starEach [] X.env := by rfl) (hplain : (backTo cpos (starEach [] X.env)).any (·.1) = false := by rfl) :
    DE X W (.Call (.Attribute o "count" apos) [e] [] cpos) (eTm tcnt fo f) :=
  de_tm PySem.F.slot_tuple_count PySem.F.type_tuple_count (mt_tcount hu) (fun a ns k z H Q h1 h2 q => by cases h2; exact ⟨a, ns, k, rfl, rfl, h1, q⟩) ho ha hbase hfew hline hs hplain
theorem de_tindex {f : SA} (ho : DB X W o fo) (ha : DQ X W [e] f)
    (hbase : attributeBase o "index" X.env (eval o X.env) = eval o X.env := by rfl)
    (hfew : ((backTo cpos (starEach [e] X.env)).all (fun x => !x.1) && (backToKw cpos (keywordEach [] X.env)).all (fun x => x.1.isSome)
      && decide (([e] : List Expr).length + ([] : List Keyword).length + (if ([] : List Keyword).isEmpty then 0 else 1) < 30)) = true := by rfl)
    (hline : (apos.endLine == cpos.line) = true := by rfl) (hs : starEach [e] X.env = (false, eval e X.env) :: starEach [] X.env := by rfl) (hplain : (backTo cpos (starEach [] X.env)).any (·.1) = false := by rfl) :
    DE X W (.Call (.Attribute o "index" apos) [e] [] cpos) (eTm tidx fo f) :=
  de_tm PySem.F.slot_tuple_index PySem.F.type_tuple_index mt_tindex (fun a ns k z H Q h1 h2 q => by
    obtain ⟨h3, rfl⟩ := some_ite h2
    exact ⟨a, ns, k, rfl, rfl, h1, h3, q⟩) ho ha hbase hfew hline hs hplain
end
end DL

set_option Elab.async false
set_option linter.all false
set_option maxRecDepth 100000
set_option maxHeartbeats 4000000
/-! a module's dict from texts to ints: NAME[text] -/
namespace DL
open PySem PySem.Spec PyProof.Rows L2
/-- the entries of such a dict -/
def entOk (w : World) (e : DictEntry) : Option (Str × Int) := match e.key, e.val with
  | .str k _, .int i _ => if e.hash = hashStr w k then some (k, i) else none
  | _, _ => none
inductive EntAll (w : World) : List DictEntry → List (Str × Int) → Prop
  | nil : EntAll w [] []
  | cons {k : Str} {i : Int} {t u : Tok} {es : List DictEntry} {kvs : List (Str × Int)} : EntAll w es kvs → EntAll w (⟨hashStr w k, .str k t, .int i u⟩ :: es) ((k, i) :: kvs)
def lookS (kvs : List (Str × Int)) (k : Str) : Option Int := (kvs.find? fun kv => decide (kv.1 = k)).map (·.2)
theorem EntAll.find {P : Program} {w : World} {es : List DictEntry} {kvs : List (Str × Int)} (h : EntAll w es kvs) (k : Str) {i : Int} (hk : lookS kvs k = some i) : ∃ t, (es.find? fun e => (mixKind P w).is (.inr k) e.key).map (·.val) = some (.int i t) := by
  induction h with
  | nil => simp [lookS] at hk
  | @cons k' i' t u es kvs _ ih =>
    have hd : (mixKind P w).is (.inr k) (.str k' t) = decide (k = k') := by
      have := KeyKind.is_eq_decide (knd := mixKind P w) (k := .inr k') (v := .str k' t) (keyIs_str k' t) (.inr k)
      rw [this, key_rr]
    by_cases e : k = k'
    · subst e
      simp only [lookS, List.find?_cons, decide_true, Option.map_some, Option.some.injEq] at hk
      subst hk
      exact ⟨u, by simp [List.find?_cons, hd]⟩
    · have e' : ¬ k' = k := fun z => e z.symm
      simp only [lookS, List.find?_cons, decide_eq_false e'] at hk
      obtain ⟨t', h'⟩ := ih hk
      exact ⟨t', by simpa [List.find?_cons, hd, e] using h'⟩
theorem EntAll.keys {P : Program} {w : World} {es : List DictEntry} {kvs : List (Str × Int)} (h : EntAll w es kvs) : ∀ e ∈ es, ∃ k, (mixKind P w).is k e.key = true ∧ e.hash = (mixKind P w).hash k := by
  induction h with
  | nil => simp
  | @cons k' i' t u es kvs _ ih =>
    intro e he
    rcases List.mem_cons.mp he with rfl | he
    · exact ⟨.inr k', keyIs_str k' t, rfl⟩
    · exact ih e he
structure GDic (w : World) (K : PySem.W.Frag) (mg : Str → Option Value) (x : Str) (kvs : List (Str × Int)) : Prop where
  ex : ∃ (a : Addr) (ob : Obj) (es : Array DictEntry) (ep : Nat), mg x = some (.ref a) ∧ K.lookup a = some ob ∧ ob.ExactDict ∧ ob.data = .dict es ep ∧ EntAll w es.toList kvs
theorem GDic.map {w : World} {K : PySem.W.Frag} {a : Addr} {ob : Obj} {es : Array DictEntry} {ep : Nat} {kvs : List (Str × Int)} (P : Program) {h : Heap} (hg : h.get? a = some ob) (h1 : ob.ExactDict) (h2 : ob.data = .dict es ep) (h3 : EntAll w es.toList kvs) :
    ∃ f, h.MapOf (mixKind P w) a f ∧ ∀ k i, lookS kvs k = some i → ∃ t, f (.inr k) = some (.int i t) := by
  refine ⟨fun k => findBy (mixKind P w).is es k, ⟨ob, es, ep, hg, h1, h2, fun e he => h3.keys e (Array.mem_toList_iff.mpr he), fun k => rfl⟩, fun k i hk => ?_⟩
  obtain ⟨t, ht⟩ := h3.find (P := P) k hk
  refine ⟨t, ?_⟩
  rw [← ht]
  simp [findBy]
def eGd (kvs : List (Str × Int)) (fi : SE) : SE := fun ρ n => (fi ρ n).bind fun d n1 => match d with
  | .str k => Rs.of ((lookS kvs k).map D.int) n1
  | _ => .no
section
variable {X : Cx} {W : WX} {i : Expr} {fi : SE} {p pos : Pos}
theorem de_gd {x : Str} {kvs : List (Str × Int)} (h : GDic X.w X.K X.mg x kvs) (hi : DB X W i fi) (hs : NoSl i := by intro _ _; rfl) (hg : Gl X x := by rfl) (hd : (x == ("__debug__" : Str)) = false := by decide) : DE X W (.Subscript (.Name x p) i pos) (eGd kvs fi) := by
  obtain ⟨a, ob, es, ep, m1, m2, m3, m4, m5⟩ := h
  refine ⟨fun pins s σ H Q I h => ?_⟩
  have h0 : Go X W (RbX X) fi σ H (fun y H2 => ∃ k z, y = V.str k ∧ lookS kvs k = some z ∧ Q (.int z) H2) := by
    refine Go.bind (R' := RpX X) mo_c h fun aT Oc ρ H1 v d n1 s1 r g => ?_
    cases d <;> try (exact g.elim)
    rename_i k
    obtain ⟨z, hz, q⟩ := GoAt.of g
    obtain ⟨i, hi, rfl⟩ := Option.map_eq_some_iff.mp hz
    have := r.str
    subst this
    exact ⟨k, i, rfl, hi, q _ _ .refl s1.tw (.int i)⟩
  refine subD_of PySem.F.slot_dict_getitem.lookup hs (thn ((pe_glob (v := .ref a) hg m1 rfl hd).run pins s σ H (fun x H1 => x = V.ref a ∧ Go X W (RbX X) fi σ H1 (fun y H2 => ∃ k z, y = V.str k ∧ lookS kvs k = some z ∧ Q (.int z) H2)) I ⟨rfl, h0⟩) fun u s1 ⟨v, H1, I1, rv, ev, q1⟩ => ?_)
  subst ev
  obtain rfl : u = Value.ref a := rv
  refine thn (hi.run pins s1 σ H1 _ I1 q1) fun iv s2 ⟨y, H2, I2, ry, k, z, ey, hz, q2⟩ => ?_
  subst ey
  obtain ⟨t, rfl⟩ : ∃ t, iv = Value.str k t := ry
  have hget := I2.kIn a ob m2
  obtain ⟨f, hm, hf⟩ := GDic.map (K := X.K) X.prog hget m3 m4 m5
  obtain ⟨t2, hf⟩ := hf k z hz
  exact ⟨hm.typeIs, wpAny_getItem_of (keyIs_str k t) hm hf ⟨.int z, H2, I2.tok _, ⟨t2, rfl⟩, q2⟩⟩
end
end DL

set_option Elab.async false
set_option linter.all false
set_option maxRecDepth 100000
set_option maxHeartbeats 4000000
/-! list(zip(xs, ys)) of two lists -/
namespace DL
open PySem PySem.Spec PyProof.Rows L2
open Sem (wp)
theorem zip_no_len : typeLookup (.type "zip") "__len__" = pure none := am_miss_of_fast (by decide +kernel)
theorem zip_no_hint : typeLookup (.type "zip") "__length_hint__" = pure none := am_miss_of_fast (by decide +kernel)
structure ZA where
  z : Addr
  TI : Addr
  TO : Addr
  i1 : Addr
  i2 : Addr
  l1 : Addr
  l2 : Addr
  S : Addr
def ZA.St (a : ZA) (xs ys : Array Value) (i : Nat) (h : Heap) : Prop :=
  IsPair h a.TI (.ref a.i1) (.ref a.i2) ∧ h.IsListIter a.i1 a.l1 i ∧ h.IsListIter a.i2 a.l2 i ∧ h.IsList a.l1 xs ∧ h.IsList a.l2 ys ∧
    ((IsZip h a.z a.TI a.TO .none ∧ ∃ u v, IsPair h a.TO u v) ∨ ∃ T f oT, IsZipHeld h a.z a.TI a.TO T f ∧ h.get? T = some oT ∧ T ≠ a.z ∧ T ≠ a.i1 ∧ T ≠ a.i2 ∧ T ≠ a.S ∧ ∃ u, h.get? a.TO = some u)
def ZA.Off (a : ZA) (b : Addr) : Prop := b ≠ a.S ∧ b ≠ a.z ∧ b ≠ a.TO ∧ b ≠ a.i1 ∧ b ≠ a.i2
def ZA.Outs (a : ZA) (xs ys : Array Value) (base : Nat) (h : Heap) (acc : Array Value) (i : Nat) : Prop :=
  acc.size = i ∧ (∀ j, j < i → ∃ T x y, acc[j]? = some (.ref T) ∧ xs[j]? = some x ∧ ys[j]? = some y ∧ IsPair h T x y ∧ a.Off T ∧ base ≤ T) ∧ ∀ (j k : Nat) (T : Addr), acc[j]? = some (Value.ref T) → acc[k]? = some (Value.ref T) → j = k
structure ZA.Ap (a : ZA) : Prop where
  D : ZipApart a.z a.TI a.TO a.i1 a.i2 a.l1 a.l2
  Sz : a.S ≠ a.z
  STI : a.S ≠ a.TI
  STO : a.S ≠ a.TO
  Si1 : a.S ≠ a.i1
  Si2 : a.S ≠ a.i2
  Sl1 : a.S ≠ a.l1
  Sl2 : a.S ≠ a.l2
section
variable {prog : Program} {w : World} {A : Around} {R : Result → Shared → Prop} {a : ZA} {xs ys : Array Value} {base : Nat}
theorem ZA.St.upd (P : a.Ap) {i : Nat} {h h' : Heap} (st : a.St xs ys i h) (k : ∀ b o, b ≠ a.S → h.get? b = some o → h'.get? b = some o) : a.St xs ys i h' := by
  obtain ⟨hTI, h1, h2, hl1, hl2, hz⟩ := st
  refine ⟨k _ _ (Ne.symm P.STI) hTI, h1.at fun o e => k _ o (Ne.symm P.Si1) e, h2.at fun o e => k _ o (Ne.symm P.Si2) e, hl1.at fun o e => k _ o (Ne.symm P.Sl1) e, hl2.at fun o e => k _ o (Ne.symm P.Sl2) e, ?_⟩
  rcases hz with ⟨hz, u, v, hTO⟩ | ⟨T, f, oT, hz, hT, r1, r2, r3, r4, u5, r5⟩
  · exact .inl ⟨k _ _ (Ne.symm P.Sz) hz, u, v, k _ _ (Ne.symm P.STO) hTO⟩
  · exact .inr ⟨T, f, oT, k _ _ (Ne.symm P.Sz) hz, k _ _ r4 hT, r1, r2, r3, r4, u5, k _ _ (Ne.symm P.STO) r5⟩
theorem ZA.Outs.upd {i : Nat} {h h' : Heap} {acc : Array Value} (o : a.Outs xs ys base h acc i) (k : ∀ b o, a.Off b → h.get? b = some o → h'.get? b = some o) : a.Outs xs ys base h' acc i :=
  ⟨o.1, fun j hj => by
    obtain ⟨T, x, y, e1, e2, e3, e4, e5, e6⟩ := o.2.1 j hj
    exact ⟨T, x, y, e1, e2, e3, k _ _ e5 e4, e5, e6⟩, o.2.2⟩
theorem ZA.Outs.push {i : Nat} {h : Heap} {acc : Array Value} (o : a.Outs xs ys base h acc i) {T : Addr} {x y : Value} (e2 : xs[i]? = some x) (e3 : ys[i]? = some y) (e4 : IsPair h T x y) (e5 : a.Off T) (e6 : base ≤ T) (e7 : ∀ j : Nat, acc[j]? ≠ some (Value.ref T)) : a.Outs xs ys base h (acc.push (.ref T)) (i + 1) := by
  refine ⟨by rw [Array.size_push, o.1], fun j hj => ?_, fun j k U hj hk => ?_⟩
  by_cases c : j = i
  · subst c
    exact ⟨T, x, y, by rw [Array.getElem?_push, if_pos o.1.symm], e2, e3, e4, e5, e6⟩
  · obtain ⟨T', x', y', q1, q⟩ := o.2.1 j (by omega)
    exact ⟨T', x', y', by rw [Array.getElem?_push, if_neg (by rw [o.1]; exact c)]; exact q1, q⟩
  · rw [Array.getElem?_push] at hj hk
    split at hj <;> split at hk
    · omega
    · cases hj; exact absurd hk (e7 k)
    · cases hk; exact absurd hj (e7 j)
    · exact o.2.2 j k U hj hk
theorem loop_zip (P : a.Ap) (hn : min xs.size ys.size ≤ sizeLine) (hh : A.in1.handled = none) (res : Value) : ∀ (k i : Nat) (s : Shared) (acc : Array Value) (c : Nat), min xs.size ys.size - i = k → i ≤ min xs.size ys.size → a.St xs ys i s.heap → base ≤ s.heap.objs.size →
    s.heap.get? a.S = some { cls := .type "list", dict := none, data := .seq acc c, slots := #[] } → a.Outs xs ys base s.heap acc i →
    (∀ h' tk acc' c', (∀ b o, a.Off b → s.heap.get? b = some o → h'.get? b = some o) → h'.get? a.S = some { cls := .type "list", dict := none, data := .seq acc' c', slots := #[] } → a.Outs xs ys base h' acc' (min xs.size ys.size) → R (.ok (.ret res)) { s with heap := h', toks := tk }) →
    codeAny (model prog w) A (.builtin "list.extend.loop" ⟨[.ref a.S, .ref a.z, res], []⟩) R s := by
  intro k
  induction k with
  | zero =>
    intro i s acc c hk hi hst hb hS ho hR
    have hin : i = min xs.size ys.size := by omega
    refine codeAny_builtin F.entry_extend_loop ?_
    rw [Around.under_plainId F.plain_extend_loop _]
    show wpAny _ A.in1 (pyNext (.ref a.z) >>= _) _ _ s
    obtain ⟨hTI, h1, h2, hl1, hl2, hz⟩ := hst
    have hend : xs[i]? = none ∨ ys[i]? = none := by
      rcases Nat.le_total xs.size ys.size with h | h
      · exact .inl (Array.getElem?_eq_none (by omega))
      · exact .inr (Array.getElem?_eq_none (by omega))
    rcases hz with ⟨hz, u, v, hTO⟩ | ⟨T, f, oT, hz, hT, r1, r2, r3, r4, u5, r5⟩
    · refine wpAny_bind (wpAny_pyNext_zip_end hh P.D hz hTI hTO h1 h2 hl1 hl2 hend fun h' hk => ?_)
      have k' : ∀ b o, a.Off b → s.heap.get? b = some o → h'.get? b = some o := fun b o hb e => hk b o hb.2.1 hb.2.2.1 hb.2.2.2.1 hb.2.2.2.2 e
      exact wpAny_pure (hR h' s.toks acc c k' (hk _ _ P.Sz P.STO P.Si1 P.Si2 hS) (hin ▸ ho.upd k'))
    · refine wpAny_bind (wpAny_pyNext_zip_end_held hh P.D hz hT hTI h1 h2 hl1 hl2 hend fun h' hk => ?_)
      have k' : ∀ b o, a.Off b → s.heap.get? b = some o → h'.get? b = some o := fun b o hb e => hk b o hb.2.1 hb.2.2.2.1 hb.2.2.2.2 e
      exact wpAny_pure (hR h' s.toks acc c k' (hk _ _ P.Sz P.Si1 P.Si2 hS) (hin ▸ ho.upd k'))
  | succ k ih =>
    intro i s acc c hk hi hst hb hS ho hR
    have hlt : i < min xs.size ys.size := by omega
    have ex := Array.getElem?_eq_getElem (xs := xs) (i := i) (by omega)
    have ey := Array.getElem?_eq_getElem (xs := ys) (i := i) (by omega)
    refine codeAny_builtin F.entry_extend_loop ?_
    rw [Around.under_plainId F.plain_extend_loop _]
    show wpAny _ A.in1 (pyNext (.ref a.z) >>= _) _ _ s
    have lt : ∀ {c o}, s.heap.get? c = some o → s.heap.objs.size ≠ c := fun e => Nat.ne_of_gt (Heap.lt_size e)
    -- what is behind a drawn pair
    have next : ∀ h', a.St xs ys (i + 1) h' → IsPair h' s.heap.objs.size xs[i] ys[i] → h'.objs.size = s.heap.objs.size + 1 → (∀ b o, b ≠ a.z → b ≠ a.TO → b ≠ a.i1 → b ≠ a.i2 → s.heap.get? b = some o → h'.get? b = some o) → a.Off s.heap.objs.size →
        wpAny (model prog w) A.in1 (updateSeq a.S (·.push (.ref s.heap.objs.size)) >>= fun _ => again (.builtin "list.extend.loop" ⟨[.ref a.S, .ref a.z, res], []⟩))
          (fun fin s' => match fin with | .done f => R (.ok f) s' | .again c' => c'.quiet = true ∧ codeAny (model prog w) A c' R s') (fun e s' => R (.error e) s') { s with heap := h' } := by
      intro h' st' hp hsz hk' hoff
      have hS' := hk' _ _ P.Sz P.STO P.Si1 P.Si2 hS
      refine wpAny_bind ?_
      have oth : ∀ b o, b ≠ a.S → h'.get? b = some o → (h'.update a.S (Obj.mapSeq (·.push (.ref s.heap.objs.size)))).get? b = some o := fun b o hb e => (Heap.get?_update_other _ _ (Ne.symm hb)).trans e
      refine wpAny_updateSeq (s := { s with heap := h' }) hS' rfl (wpAny_pure ⟨plainId_quiet F.plain_extend_loop _, ih (i + 1) _ (acc.push (.ref s.heap.objs.size)) _ (by omega) hlt (st'.upd P oth) ?_ (Heap.get?_update_self _ hS' rfl) ?_ fun h'' tk acc' c' k'' hS'' ho'' => ?_⟩)
        (by rw [ho.1]; omega) (by show (acc.push _).size ≤ sizeLine + 1; rw [Array.size_push, ho.1]; omega)
      · show base ≤ (h'.update a.S _).objs.size
        rw [Heap.size_update, hsz]
        omega
      · have o1 : a.Outs xs ys base h' acc i := ho.upd fun b o hb e => hk' b o hb.2.1 hb.2.2.1 hb.2.2.2.1 hb.2.2.2.2 e
        exact (o1.upd fun b o hb e => oth b o hb.1 e).push ex ey (oth _ _ hoff.1 hp) hoff hb fun j hj => by
          have hlt2 : j < i := by rw [← ho.1]; exact (Array.getElem?_eq_some_iff.mp hj).1
          obtain ⟨T', x', y', q1, _, _, q4, _⟩ := ho.2.1 j hlt2
          rw [q1] at hj
          cases hj
          exact absurd rfl (lt q4)
      · refine hR h'' tk acc' c' (fun b o hb e => k'' b o hb ?_) hS'' ho''
        exact oth b o hb.1 (hk' b o hb.2.1 hb.2.2.1 hb.2.2.2.1 hb.2.2.2.2 e)
    obtain ⟨hTI, h1, h2, hl1, hl2, hz⟩ := hst
    have n1 : s.heap.objs.size ≠ a.i1 := let ⟨_, e, _⟩ := h1; lt e
    have n2 : s.heap.objs.size ≠ a.i2 := let ⟨_, e, _⟩ := h2; lt e
    rcases hz with ⟨hz, u, v, hTO⟩ | ⟨T, f, oT, hz, hT, r1, r2, r3, r4, u5, r5⟩
    · refine wpAny_bind (wpAny_pyNext_zip_item P.D hz hTI hTO h1 h2 hl1 hl2 ex ey fun h' a1 a2 a3 a4 a5 a6 hk' => ?_)
      refine next h' ⟨hk' _ _ P.D.TIz P.D.TITO P.D.TIi1 P.D.TIi2 hTI, a3, a4, hl1.at fun o e => hk' _ o P.D.l1z P.D.l1TO P.D.l1i1 P.D.l1i2 e, hl2.at fun o e => hk' _ o P.D.l2z P.D.l2TO P.D.l2i1 P.D.l2i2 e,
        .inr ⟨s.heap.objs.size, false, _, a1, a5, lt hz, n1, n2, lt hS, _, a2⟩⟩ a5 a6 hk' ⟨lt hS, lt hz, lt hTO, n1, n2⟩
    · refine wpAny_bind (wpAny_pyNext_zip_item_held P.D hz hT hTI h1 h2 hl1 hl2 ex ey fun h' a1 a3 a4 a5 a6 hk' => ?_)
      refine next h' ⟨hk' _ _ P.D.TIz P.D.TIi1 P.D.TIi2 hTI, a3, a4, hl1.at fun o e => hk' _ o P.D.l1z P.D.l1i1 P.D.l1i2 e, hl2.at fun o e => hk' _ o P.D.l2z P.D.l2i1 P.D.l2i2 e,
        .inr ⟨T, true, oT, a1, hk' _ _ r1 r2 r3 hT, r1, r2, r3, r4, u5, hk' _ _ P.D.TOz P.D.TOi1 P.D.TOi2 r5⟩⟩ a5 a6 (fun b o q1 _ q3 q4 e => hk' b o q1 q3 q4 e) ⟨lt hS, lt hz, lt r5, n1, n2⟩
theorem wpAny_extend_zip {s : Shared} (P : a.Ap) (hn : min xs.size ys.size ≤ sizeLine) (hh : A.in1.handled = none) (res : Value) (c₀ : Nat) (hz0 : IsZip s.heap a.z a.TI a.TO .none) (hst : a.St xs ys 0 s.heap) (hb : base ≤ s.heap.objs.size)
    (hS : s.heap.get? a.S = some { cls := .type "list", data := .seq #[] c₀ })
    (hR : ∀ h' tk acc' c', (∀ b o, a.Off b → s.heap.get? b = some o → h'.get? b = some o) → h'.get? a.S = some { cls := .type "list", dict := none, data := .seq acc' c', slots := #[] } → a.Outs xs ys base h' acc' (min xs.size ys.size) → R (.ok (.ret res)) { s with heap := h', toks := tk }) :
    wpAny (model prog w) A.in1 (Builtin.List.listExtendWith (.ref a.S) (.ref a.z) res)
      (fun fin s' => match fin with | .done f => R (.ok f) s' | .again c' => c'.quiet = true ∧ codeAny (model prog w) A c' R s') (fun e s' => R (.error e) s') s := by
  have hT : s.TypeIs (.ref a.z) "zip" := ⟨_, hz0, rfl⟩
  unfold Builtin.List.listExtendWith
  refine wpAny_bind (wpAny_typeOf hT ?_)
  have h1 : Builtin.List.listSameRef (.ref a.S) (.ref a.z) = false := by simp [Builtin.List.listSameRef, P.Sz]
  have h2 : (Value.type "zip" == Value.type "list") = false := by decide
  have h3 : (Value.type "zip" == Value.type "tuple") = false := by decide
  simp only [h1, h2, h3, Bool.or_false, Bool.false_eq_true, if_false]
  refine wpAny_bind (wpAny_pyIter_zip hz0 ?_)
  refine wpAny_bind (wpAny_holding ?_)
  unfold Builtin.List.listLengthHint
  refine wpAny_bind (wpAny_specialOf hT zip_no_len ?_)
  show wpAny _ A.in1 (specialOf (Value.ref a.z) (Str.ofString "__length_hint__") >>= _) _ _ _
  refine wpAny_bind (wpAny_specialOf hT zip_no_hint ?_)
  refine wpAny_pure ?_
  show wpAny _ A.in1 (rule "list.extend.makes-room" >>= fun _ => Builtin.List.listTouch (.ref a.S) >>= fun _ =>
    again (.builtin "list.extend.loop" ⟨[.ref a.S, .ref a.z, res], []⟩)) _ _ _
  refine wpAny_bind (wpAny_rule ?_)
  refine wpAny_bind ?_
  show wpAny _ A.in1 (updateSeq a.S (·.push .none) >>= fun _ => updateSeq a.S (·.pop)) _ _ _
  refine wpAny_bind (wpAny_updateSeq hS rfl ?_)
  have hS₂ := Heap.get?_update_self (Obj.mapSeq (·.push Value.none)) hS rfl
  refine wpAny_updateSeq (hz := by seq_fits) hS₂ rfl ?_
  have hS₃ := Heap.get?_update_self (Obj.mapSeq (·.pop)) hS₂ rfl
  have oth : ∀ b o, b ≠ a.S → s.heap.get? b = some o → ((s.heap.update a.S (Obj.mapSeq (·.push Value.none))).update a.S (Obj.mapSeq (·.pop))).get? b = some o :=
    fun b o hb e => (Heap.get?_update_other _ _ (Ne.symm hb)).trans ((Heap.get?_update_other _ _ (Ne.symm hb)).trans e)
  refine wpAny_pure ⟨plainId_quiet F.plain_extend_loop _, loop_zip (base := base) P hn hh res _ 0 _ _ _ rfl (Nat.zero_le _) (hst.upd P oth) ?_ hS₃ ⟨rfl, fun j hj => by omega, fun j k T h => by simp at h⟩ fun h' tk acc' c' k' hS' ho => ?_⟩
  · show base ≤ ((s.heap.update a.S _).update a.S _).objs.size
    rw [Heap.size_update, Heap.size_update]
    exact hb
  · exact hR h' tk acc' c' (fun b o hb e => k' b o hb (oth b o hb.1 e)) hS' ho
theorem wpAny_list_init_zip {s : Shared} (P : a.Ap) (hn : min xs.size ys.size ≤ sizeLine) (hh : A.in1.handled = none) (hz0 : IsZip s.heap a.z a.TI a.TO .none) (hst : a.St xs ys 0 s.heap) (hb : base ≤ s.heap.objs.size)
    (hS : s.heap.get? a.S = some { cls := .type "list", data := .seq #[] })
    (hR : ∀ h' tk acc' c', (∀ b o, a.Off b → s.heap.get? b = some o → h'.get? b = some o) → h'.get? a.S = some { cls := .type "list", dict := none, data := .seq acc' c', slots := #[] } → a.Outs xs ys base h' acc' (min xs.size ys.size) → R (.ok (.ret .none)) { s with heap := h', toks := tk }) :
    wpAny (model prog w) A.in1 (Builtin.«list.__init__» ⟨[.ref a.S, .ref a.z], []⟩)
      (fun fin s' => match fin with | .done f => R (.ok f) s' | .again c' => c'.quiet = true ∧ codeAny (model prog w) A c' R s') (fun e s' => R (.error e) s') s := by
  show wpAny _ A.in1 (do let old ← Builtin.List.listItems (.ref a.S); Builtin.List.listUpdate (.ref a.S) (fun _ => #[]); letGo old.toList.reverse; Builtin.List.listExtendWith (.ref a.S) (.ref a.z) .none) _ _ s
  refine wpAny_bind ?_
  unfold Builtin.List.listItems
  refine wpAny_bind (wpAny_seqItems hS rfl (wpAny_pure ?_))
  show wpAny _ A.in1 (updateSeq a.S (fun _ => #[]) >>= fun _ => letGo (#[] : Array Value).toList.reverse >>= fun _ => Builtin.List.listExtendWith (.ref a.S) (.ref a.z) .none) _ _ s
  refine wpAny_bind (wpAny_updateSeq hS rfl ?_)
  have hS₂ := Heap.get?_update_self (Obj.mapSeq (fun _ => (#[] : Array Value))) hS rfl
  have oth : ∀ b o, b ≠ a.S → s.heap.get? b = some o → (s.heap.update a.S (Obj.mapSeq (fun _ => (#[] : Array Value)))).get? b = some o :=
    fun b o hb e => (Heap.get?_update_other _ _ (Ne.symm hb)).trans e
  refine wpAny_bind (wpAny_letGo ?_)
  refine wpAny_extend_zip (base := base) P hn hh .none _ (oth _ _ (Ne.symm P.Sz) hz0) (hst.upd P oth) ?_ hS₂ fun h' tk acc' c' k' hS' ho => ?_
  · show base ≤ (s.heap.update a.S _).objs.size
    rw [Heap.size_update]
    exact hb
  · exact hR h' tk acc' c' (fun b o hb e => k' b o hb (oth b o hb.1 e)) hS' ho
end
section
variable {prog : Program} {w : World} {A : Around} {E : Value → Shared → Prop} {s : Shared}
/-- list(zip(l1, l2)): the two calls, the one right behind the other -/
theorem call_list_zip {Q : Value → Shared → Prop} {z TI TO i1 i2 l1 l2 : Addr} {xs ys : Array Value} (D : ZipApart z TI TO i1 i2 l1 l2) (hh : A.handled = none) (hn : min xs.size ys.size ≤ sizeLine)
    (hz : IsZip s.heap z TI TO .none) (hTI : IsPair s.heap TI (.ref i1) (.ref i2)) {u v : Value} (hTO : IsPair s.heap TO u v) (h1 : s.heap.IsListIter i1 l1 0) (h2 : s.heap.IsListIter i2 l2 0) (hl1 : s.heap.IsList l1 xs) (hl2 : s.heap.IsList l2 ys)
    (hQ : ∀ h' tk acc' c', (∀ b o, b ≠ z → b ≠ TO → b ≠ i1 → b ≠ i2 → s.heap.get? b = some o → h'.get? b = some o) → h'.get? s.heap.objs.size = some { cls := .type "list", dict := none, data := .seq acc' c', slots := #[] } →
      ZA.Outs ⟨z, TI, TO, i1, i2, l1, l2, s.heap.objs.size⟩ xs ys (s.heap.objs.size + 1) h' acc' (min xs.size ys.size) → Q (.ref s.heap.objs.size) { s with heap := h', toks := tk }) :
    wpAny (model prog w) A (call (.type "list") [.ref z]) Q E s := by
  refine callType_codes (Q₁ := fun obj s₁ => obj = .ref s.heap.objs.size ∧ s₁ = { s with heap := s.heap.push { cls := .type "list", data := .seq #[] } }) F.called_list (F.typeCall_list_1 _) F.entry_list_init
    (code_list_new _ ⟨rfl, rfl⟩) fun obj s₁ q => ?_
  obtain ⟨rfl, rfl⟩ := q
  have hS : (s.heap.push { cls := .type "list", data := .seq #[] }).get? s.heap.objs.size = some { cls := .type "list", data := .seq #[] } := Heap.get?_push_size _ rfl
  have lt : ∀ {c o}, s.heap.get? c = some o → s.heap.objs.size ≠ c := fun e => Nat.ne_of_gt (Heap.lt_size e)
  have P : ZA.Ap ⟨z, TI, TO, i1, i2, l1, l2, s.heap.objs.size⟩ := ⟨D, lt hz, lt hTI, lt hTO, let ⟨_, e, _⟩ := h1; lt e, let ⟨_, e, _⟩ := h2; lt e, let ⟨_, e, _⟩ := hl1; lt e, let ⟨_, e, _⟩ := hl2; lt e⟩
  have up : ∀ b o, s.heap.get? b = some o → (s.heap.push { cls := .type "list", data := .seq #[] }).get? b = some o := fun b o e => Heap.get?_push_of_some _ e
  have st : ZA.St ⟨z, TI, TO, i1, i2, l1, l2, s.heap.objs.size⟩ xs ys 0 (s.heap.push { cls := .type "list", data := .seq #[] }) := ⟨up _ _ hTI, h1.at fun o e => up _ o e, h2.at fun o e => up _ o e, hl1.at fun o e => up _ o e, hl2.at fun o e => up _ o e, .inl ⟨up _ _ hz, u, v, up _ _ hTO⟩⟩
  refine ⟨⟨_, hS, rfl⟩, F.args_list_init_2 _ _, wpAny_list_init_zip (a := ⟨z, TI, TO, i1, i2, l1, l2, s.heap.objs.size⟩) (base := s.heap.objs.size + 1) (A := A.in1) P hn hh (up _ _ hz) st (by show _ ≤ (s.heap.push _).objs.size; rw [Heap.size_push]; exact Nat.le_refl _) hS fun h' tk acc' c' k' hS' ho => ?_⟩
  exact ⟨rfl, hQ h' tk acc' c' (fun b o q1 q2 q3 q4 e => k' b o ⟨Ne.symm (lt e), q1, q2, q3, q4⟩ (up b o e)) hS' ho⟩
end
/-- many new objects laid and tracked -/
def ov (H N : Hp) : Hp := fun b => match N b with
  | some u => some u
  | none => H b
theorem ov_old {H N : Hp} {b : Addr} (h : N b = none) : ov H N b = H b := by unfold ov; rw [h]
theorem ov_new {H N : Hp} {b : Addr} {u : HO} (h : N b = some u) : ov H N b = some u := by unfold ov; rw [h]
theorem laids {X : Cx} {pins : List (Addr × Obj)} {σ : L2.St} {H N : Hp} {s : Shared} {h' : Heap} {t' : Nat} (I : Inv X pins σ H s) (k : ∀ b u, s.heap.get? b = some u → h'.get? b = some u) (fr : ∀ a u, N a = some u → s.heap.objs.size ≤ a)
    (new : ∀ a u, N a = some u → ObjOk X.prog X.w (ov H N) h' a u) : Inv X pins σ (ov H N) { s with heap := h', toks := t' } := by
  have nn : ∀ b u, H b = some u → N b = none := fun b u e => by
    cases q : N b with
    | none => rfl
    | some v => rw [I.hok.fresh (fr b v q)] at e; cases e
  have no : ∀ b u, s.heap.get? b = some u → N b = none := fun b u e => by
    cases q : N b with
    | none => rfl
    | some v => exact absurd (Heap.lt_size e) (Nat.not_lt.mpr (fr b v q))
  refine I.un ⟨fun b o q _ _ _ => k b o q, fun b o q _ _ _ => ⟨o.slots, k b o q⟩, fun b o q n _ => by rw [ov_old (no b o q)]; exact n, fun b o q _ => ⟨o, k b o q⟩, fun b xs q => by rw [ov_old (nn b _ q)]; exact q,
    fun b o u q => by rw [ov_old (nn b _ q)]; exact q, fun b ps q => ⟨#[], by rw [ov_old (nn b _ q), q]; simp⟩⟩ fun b u e => ?_
  cases q : N b with
  | some v =>
    rw [ov_new q] at e
    cases e
    exact new b _ q
  | none =>
    rw [ov_old q] at e
    exact (I.hok b u e).stay (fun c v _ z => k c v z) (fun c z => by rw [ov_old (nn c _ z)]; exact z) fun c xs z => by rw [ov_old (nn c _ z)]; exact z
/-- what list(zip(..)) lays: the list at q, its pairs at ts -/
structure LzN (H : Hp) (xs ys : List V) (q : Addr) (ts : List Addr) (N : Hp) : Prop where
  q0 : H q = none
  t0 : ∀ t ∈ ts, H t = none
  len : ts.length = min xs.length ys.length
  qt : q ∉ ts
  nq : N q = some (.lst (ts.map V.ref))
  nt : ∀ (j : Nat) (t : Addr) (x y : V), ts[j]? = some t → xs[j]? = some x → ys[j]? = some y → ∃ o : Obj, o.dict = none ∧ N t = some (.frz o (.tup [x, y]))
  on : ∀ b u, N b = some u → b = q ∨ b ∈ ts
def tLz (K : PySem.W.Frag) (ta : TA) : TE := fun σ H Q => ta σ H fun vs H1 => ∃ a b xs ys, vs = [V.ref a, V.ref b] ∧ SqL K H1 a xs ∧ SqL K H1 b ys ∧ min xs.length ys.length ≤ sizeLine ∧ ∀ q ts N, LzN H1 xs ys q ts N → Q (.ref q) (ov H1 N)
open Classical in
theorem lz_end {X : Cx} {pins : List (Addr × Obj)} {σ : L2.St} {H1 : Hp} {s1 : Shared} {xs ys : List V} {its its2 : List Value} {h' h'' : Heap} {tk c' : Nat} {acc : Array Value} {a b : Addr} {Q : VK} (I1 : Inv X pins σ H1 s1) (rv : Vals xs its) (rv2 : Vals ys its2)
    (hsz : h'.objs.size = s1.heap.objs.size + 5) (hk : ∀ c o, s1.heap.get? c = some o → h'.get? c = some o)
    (k' : ∀ b o, b ≠ s1.heap.objs.size + 4 → b ≠ s1.heap.objs.size + 3 → b ≠ s1.heap.objs.size → b ≠ s1.heap.objs.size + 1 → h'.get? b = some o → h''.get? b = some o)
    (hS : h''.get? h'.objs.size = some { cls := .type "list", dict := none, data := .seq acc c', slots := #[] })
    (ho : ZA.Outs ⟨s1.heap.objs.size + 4, s1.heap.objs.size + 2, s1.heap.objs.size + 3, s1.heap.objs.size, s1.heap.objs.size + 1, a, b, h'.objs.size⟩ its.toArray its2.toArray (h'.objs.size + 1) h'' acc (min its.toArray.size its2.toArray.size))
    (hn : min xs.length ys.length ≤ sizeLine) (q1 : ∀ q ts N, LzN H1 xs ys q ts N → Q (.ref q) (ov H1 N)) : EP X pins σ Q (.ref h'.objs.size) { s1 with heap := h'', toks := tk } := by
  have l1 := rv.length
  have l2 := rv2.length
  have hnn : min its.toArray.size its2.toArray.size = min xs.length ys.length := by simp; omega
  rw [hnn] at ho
  generalize hN : min xs.length ys.length = n at *
  obtain ⟨tf, htf⟩ := Classical.axiomOfChoice (r := fun (j : Nat) (T : Addr) => j < n → ∃ x y, acc[j]? = some (Value.ref T) ∧ its.toArray[j]? = some x ∧ its2.toArray[j]? = some y ∧ IsPair h'' T x y ∧ h'.objs.size + 1 ≤ T) fun j => by
    by_cases hj : j < n
    · obtain ⟨T, x, y, g1, g2, g3, g4, _, g6⟩ := ho.2.1 j hj
      exact ⟨T, fun _ => ⟨x, y, g1, g2, g3, g4, g6⟩⟩
    · exact ⟨0, fun z => absurd z hj⟩
  have inj : ∀ j k, j < n → k < n → tf j = tf k → j = k := fun j k hj hk e => by
    obtain ⟨_, _, g1, _⟩ := htf j hj
    obtain ⟨_, _, g2, _⟩ := htf k hk
    rw [e] at g1
    exact ho.2.2 j k _ g1 g2
  let ts : List Addr := (List.range n).map tf
  let ob : Nat → Obj := fun j => { cls := .type "tuple", data := .seq #[its[j]?.getD .none, its2[j]?.getD .none] }
  let N : Hp := fun b => if b = h'.objs.size then some (.lst (ts.map V.ref)) else if e : ∃ j, j < n ∧ tf j = b then some (.frz (ob e.choose) (.tup [xs[e.choose]?.getD .non, ys[e.choose]?.getD .non])) else none
  have tsq : ∀ j, j < n → h'.objs.size + 1 ≤ tf j := fun j hj => by
    obtain ⟨_, _, _, _, _, _, g⟩ := htf j hj
    exact g
  have Nq : N h'.objs.size = some (.lst (ts.map V.ref)) := if_pos rfl
  have Nt : ∀ j, j < n → N (tf j) = some (.frz (ob j) (.tup [xs[j]?.getD .non, ys[j]?.getD .non])) := fun j hj => by
    have e : ∃ k, k < n ∧ tf k = tf j := ⟨j, hj, rfl⟩
    have ec : e.choose = j := inj _ _ e.choose_spec.1 hj e.choose_spec.2
    show (if tf j = h'.objs.size then _ else _) = _
    rw [if_neg (Nat.ne_of_gt (Nat.lt_of_succ_le (tsq j hj))), dif_pos e, ec]
  have No : ∀ b u, N b = some u → b = h'.objs.size ∨ ∃ j, j < n ∧ tf j = b := fun b u e => by
    by_cases c1 : b = h'.objs.size
    · exact .inl c1
    · by_cases c2 : ∃ j, j < n ∧ tf j = b
      · exact .inr c2
      · have : N b = none := by
          show (if b = h'.objs.size then _ else _) = _
          rw [if_neg c1, dif_neg c2]
        rw [this] at e
        cases e
  have mem : ∀ t, t ∈ ts ↔ ∃ j, j < n ∧ tf j = t := fun t => by simp [ts]
  have key : LzN H1 xs ys h'.objs.size ts N := by
    refine ⟨I1.hok.fresh (by omega), fun t ht => ?_, by simp [ts, hN], fun hm => ?_, Nq, fun j t x y g1 g2 g3 => ?_, fun b u e => (No b u e).imp id fun z => (mem b).mpr z⟩
    · obtain ⟨j, hj, rfl⟩ := (mem t).mp ht
      have := tsq j hj
      exact I1.hok.fresh (by omega)
    · obtain ⟨j, hj, e⟩ := (mem _).mp hm
      exact absurd e (Nat.ne_of_gt (Nat.lt_of_succ_le (tsq j hj)))
    · have hj : j < n := by
        have := (List.getElem?_eq_some_iff.mp g1).1
        simpa [ts] using this
      have et : t = tf j := by
        have : ts[j]? = some (tf j) := by simp [ts, hj]
        rw [this] at g1
        exact (Option.some.inj g1).symm
      subst et
      exact ⟨ob j, rfl, by rw [Nt j hj, g2, g3]; rfl⟩
  refine ⟨.ref h'.objs.size, ov H1 N, laids I1 (fun b o e => ?_) (fun b u e => ?_) (fun b u e => ?_), rfl, q1 _ ts N key⟩
  · have := Heap.lt_size e
    exact k' b o (Nat.ne_of_lt (Nat.lt_of_lt_of_le this (Nat.le_add_right _ _))) (Nat.ne_of_lt (Nat.lt_of_lt_of_le this (Nat.le_add_right _ _))) (Nat.ne_of_lt this) (Nat.ne_of_lt (Nat.lt_of_lt_of_le this (Nat.le_add_right _ _))) (hk b o e)
  · rcases No b u e with rfl | ⟨j, hj, rfl⟩
    · omega
    · have := tsq j hj
      omega
  · rcases No b u e with rfl | ⟨j, hj, rfl⟩
    · rw [Nq] at e
      cases e
      refine ⟨by simp [ts]; omega, acc.toList, c', ?_, by simpa using hS⟩
      have ea : acc.toList = ts.map Value.ref := by
        refine List.ext_getElem? fun i => ?_
        rw [Array.getElem?_toList]
        by_cases hi : i < n
        · obtain ⟨_, _, g1, _⟩ := htf i hi
          rw [g1]
          simp [ts, hi]
        · rw [Array.getElem?_eq_none (by rw [ho.1]; omega)]
          simp [ts, hi]
      rw [ea]
      have : ∀ l : List Addr, Vals (l.map V.ref) (l.map Value.ref) := fun l => by
        induction l with
        | nil => exact .nil
        | cons x r ih => exact .cons rfl ih
      exact this ts
    · rw [Nt j hj] at e
      cases e
      obtain ⟨x, y, _, g2, g3, g4, _⟩ := htf j hj
      have hx : its[j]? = some x := by simpa using g2
      have hy : its2[j]? = some y := by simpa using g3
      have eo : ob j = { cls := .type "tuple", data := .seq #[x, y] } := by simp only [ob, hx, hy]; rfl
      have hjx : j < xs.length := by omega
      have hjy : j < ys.length := by omega
      obtain ⟨u1, w1, w2⟩ := rv.get (List.getElem?_eq_getElem hjx)
      obtain ⟨u2, w3, w4⟩ := rv2.get (List.getElem?_eq_getElem hjy)
      rw [hx] at w1
      rw [hy] at w3
      cases w1
      cases w3
      refine ⟨by rw [eo]; exact g4, by simp; rw [sizeLine_eq]; omega, [x, y], ?_, ⟨_, g4, rfl, _, rfl⟩⟩
      rw [List.getElem?_eq_getElem hjx, List.getElem?_eq_getElem hjy]
      exact .cons w2 (.cons w4 .nil)
section
variable {X : Cx} {e e2 : Expr} {ta : TA} {p pos p2 pos2 : Pos}
theorem pe_lzip (hc : X.calm = true) (hg : Gl X "list") (hm : X.mg "list" = none) (hg2 : Gl X "zip") (hm2 : X.mg "zip" = none) (ha : PA X [e, e2] ta)
    (hs : starEach [e, e2] X.env = (false, eval e X.env) :: starEach [e2] X.env := by rfl) (hpl : (backTo pos2 (starEach [e2] X.env)).any (·.1) = false := by rfl)
    (na : starEach [.Call (.Name "zip" p2) [e, e2] [] pos2] X.env = (false, eval (.Call (.Name "zip" p2) [e, e2] [] pos2) X.env) :: starEach [] X.env := by rfl) :
    PE X (.Call (.Name "list" p) [.Call (.Name "zip" p2) [e, e2] [] pos2] [] pos) (tLz X.K ta) := by
  refine ⟨fun pins s σ H Q I h => ?_⟩
  refine Call_ (ld_blt I hg hm boot_list (PyProof.Rows.callWith_type1 (args_cons ?_ na) na))
  refine Call_ (ld_blt I hg2 hm2 PyProof.Rows.boot_zip (PyProof.Rows.callWith_type1 (thn (ha.run pos2 pins s σ H _ I h) fun us s1 ⟨vs, H1, I1, r1, q1⟩ => ?_) hs hpl))
  obtain ⟨a, b, xs, ys, ex, hqx, hqy, hn, q1⟩ := q1
  subst ex
  cases r1 with
  | cons r rr =>
    cases rr with
    | cons r' rr =>
      cases rr
      cases r
      cases r'
      obtain ⟨its, rv, p1, _⟩ := I1.list hqx
      obtain ⟨its2, rv2, p3, _⟩ := I1.list hqy
      refine call_zip_2 p1.isList p3.isList fun h' hz hTI hTO h1 h2 hsz hk => args_nil ?_
      have I2 : Inv X pins σ H1 { s1 with heap := h' } := I1.kept (t' := s1.toks) hk
      have D := PySem.W.ktu_apart s1.heap.objs.size a b p1.lt p3.lt
      have hl1 : h'.IsList a its.toArray := p1.isList.at fun o e => hk _ o e
      have hl2 : h'.IsList b its2.toArray := p3.isList.at fun o e => hk _ o e
      have e1 : xs.length = its.length := rv.length
      have e2 : ys.length = its2.length := rv2.length
      refine call_list_zip (s := { s1 with heap := h' }) D (I2.ok.hd hc) (by simp; omega) hz hTI hTO h1 h2 hl1 hl2 fun h'' tk acc c' k' hS ho => ?_
      exact lz_end (s1 := s1) (h' := h') (a := a) (b := b) I1 rv rv2 hsz hk (fun b o q1 q2 q3 q4 e => k' b o q1 q2 q3 q4 e) hS ho (by omega) q1
end
end DL

set_option Elab.async false
set_option linter.all false
set_option maxRecDepth 100000
set_option maxHeartbeats 4000000
namespace DL
open PySem PySem.Spec PyProof.Rows L2
def lzipD (ds : List D) : Option D := match ds with
  | [.lst as, .lst bs] => if min as.length bs.length ≤ szMax then some (.lst (List.zipWith (fun x y => D.tup [x, y]) as bs)) else none
  | _ => none
def eLz (f : SA) : SE := fun ρ n => (f ρ n).bind fun ds n1 => Rs.of (lzipD ds) n1
section
variable {K : PySem.W.Frag} {aT : Addr} {O : Addr → Prop} {H : Hp}
theorem Rps.of_get : ∀ {vs : List V} {ds : List D}, vs.length = ds.length → (∀ (j : Nat) v d, vs[j]? = some v → ds[j]? = some d → Rp K aT O H v d) → Rps K aT O H vs ds
  | [], [], _, _ => .nil
  | [], _ :: _, h, _ => by simp at h
  | _ :: _, [], h, _ => by simp at h
  | v :: vs, d :: ds, h, k => .cons (k 0 v d rfl rfl) (Rps.of_get (by simpa using h) fun j v d e1 e2 => k (j + 1) v d (by simpa using e1) (by simpa using e2))
theorem Rb.lstS {v : V} {ds : List D} (r : Rb K aT O H v (.lst ds)) : ∃ a xs, v = .ref a ∧ SqL K H a xs ∧ Rps K aT O H xs ds := by
  rcases r with r | ⟨a, rfl, o, _⟩
  · cases r with
    | lst h _ r => exact ⟨_, _, rfl, .inl (.of h), r⟩
  · obtain ⟨xs, h, r⟩ := o
    exact ⟨a, xs, rfl, .inl (.of h), r⟩
end
section
variable {X : Cx} {W : WX} {a b : Expr} {f : SA} {p pos p2 pos2 : Pos}
theorem df_lzip (ha : DQ X W [a, b] f) (hm : X.mg "list" = none) (hm2 : X.mg "zip" = none) (hc : X.calm = true := by rfl) (hg : Gl X "list" := by rfl) (hg2 : Gl X "zip" := by rfl)
    (hs : starEach [a, b] X.env = (false, eval a X.env) :: starEach [b] X.env := by rfl) (hpl : (backTo pos2 (starEach [b] X.env)).any (·.1) = false := by rfl)
    (na : starEach [.Call (.Name "zip" p2) [a, b] [] pos2] X.env = (false, eval (.Call (.Name "zip" p2) [a, b] [] pos2) X.env) :: starEach [] X.env := by rfl) :
    DF X W (.Call (.Name "list" p) [.Call (.Name "zip" p2) [a, b] [] pos2] [] pos) (eLz f) := by
  refine PE.imp (pe_lzip hc hg hm hg2 hm2 ha hs hpl na) fun σ H Q h => ?_
  refine Go.bind mo_f h fun aT Oc ρ H1 vs ds n1 s1 rs g => ?_
  obtain ⟨z, hz, q⟩ := g.of
  unfold lzipD at hz
  split at hz
  case h_2 => exact (no_some hz).elim
  rename_i as bs
  obtain ⟨hlen, rfl⟩ := some_ite hz
  cases rs with
  | cons r1 rs =>
    cases rs with
    | cons r2 rs =>
      cases rs
      obtain ⟨u1, xs, rfl, l1, r1⟩ := r1.lstS
      obtain ⟨u2, ys, rfl, l2, r2⟩ := r2.lstS
      have e1 := r1.length
      have e2 := r2.length
      refine ⟨u1, u2, xs, ys, rfl, l1, l2, sz (by rw [e1, e2]; exact hlen), fun t ts N key => ?_⟩
      have old : ∀ b u, H1 b = some u → ov H1 N b = some u := fun b u e => by
        rw [ov_old]
        · exact e
        · cases qn : N b with
          | none => rfl
          | some w =>
            rcases key.on b w qn with z | z
            · rw [z, key.q0] at e; cases e
            · rw [key.t0 b z] at e; cases e
      refine q _ _ (fun b u _ e => old b u e) ⟨old _ _ s1.tw.1, s1.tw.2⟩ ⟨t, rfl, key.q0, s1.fresh key.q0, ts.map V.ref, ov_new key.nq, ?_⟩
      refine Rps.of_get (by simp [key.len]; omega) fun j v d g1 g2 => ?_
      simp only [List.getElem?_map, Option.map_eq_some_iff] at g1
      obtain ⟨tj, g1, rfl⟩ := g1
      rw [List.getElem?_zipWith] at g2
      cases ha : as[j]? with
      | none => rw [ha] at g2; simp at g2
      | some dx =>
        cases hb : bs[j]? with
        | none => rw [ha, hb] at g2; simp at g2
        | some dy =>
          rw [ha, hb] at g2
          simp at g2
          subst g2
          obtain ⟨vx, x1, x2⟩ := r1.get ha
          obtain ⟨vy, y1, y2⟩ := r2.get hb
          obtain ⟨o, od, on⟩ := key.nt j tj vx vy g1 x1 y1
          have tm : tj ∈ ts := List.mem_of_getElem? g1
          have kp : Kp (Oo Oc σ ρ) H1 (fun b => Oo Oc σ ρ b ∨ b = t) (ov H1 N) := fun b u e n => ⟨old b u e, by
            rintro (z | z)
            · exact n z
            · rw [z, key.q0] at e; cases e⟩
          refine .tup (.inl ⟨⟨o, od, ov_new on⟩, ?_⟩) (.cons (x2.mono kp) (.cons (y2.mono kp) .nil))
          rintro (z | z)
          · exact s1.fresh (key.t0 tj tm) z
          · rw [z] at tm; exact key.qt tm
end
@[simp] theorem s_eLz (f : SA) (ρ : Ev) (n : Nat) : eLz f ρ n = (f ρ n).bind fun ds n1 => Rs.of (lzipD ds) n1 := rfl
end DL

set_option Elab.async false
set_option linter.all false
set_option maxRecDepth 100000
set_option maxHeartbeats 4000000
namespace DL
open PySem PySem.Spec PyProof.Rows L2
/-! ### a truth value and an int, added -/
section
variable {X : Cx}
theorem op_add_bi : OpR X (binaryOp .Add) (fun x y H Q => ∃ k i, x = .bl k ∧ y = .int i ∧ Q (.int ((if k = true then (1 : Int) else 0) + i)) H) := by
  intro pins s σ H x y v u Q I rx ry h
  obtain ⟨k, i, rfl, rfl, q⟩ := h
  cases rx
  obtain ⟨t, rfl⟩ := ry
  exact IntBool.add_bool_int ⟨.int ((if k = true then (1 : Int) else 0) + i), H, I.tok _, ⟨_, rfl⟩, q⟩
def blAddD : D → D → Option D
  | .bl b, .int i => some (.int ((if b = true then (1 : Int) else 0) + i))
  | _, _ => none
theorem op_blAddD : OpD X (binaryOp .Add) (RpX X) blAddD := by
  refine ⟨_, op_add_bi, fun aT Oc σ ρ n H x y d e z Q s rx ry hz q => ?_⟩
  cases d <;> cases e <;> try (exact (no_some hz).elim)
  cases hz
  have := rx.bl
  have := ry.int
  subst x y
  exact ⟨_, _, rfl, rfl, q _ _ .refl s.tw (.int _)⟩
def addB : D → D → Option D := fun d e => (addD d e).orElse fun _ => blAddD d e
theorem op_addB : OpD X (binaryOp .Add) (RpX X) addB := OpD.or op_addD op_blAddD
end
@[simp] theorem s_addB_int (i j : Int) : addB (.int i) (.int j) = some (.int (i + j)) := rfl
@[simp] theorem s_addB_bl (b : Bool) (j : Int) : addB (.bl b) (.int j) = some (.int ((if b = true then (1 : Int) else 0) + j)) := rfl
theorem addB_tup (xs ys : List D) (h : xs.length + ys.length ≤ 100000) : addB (.tup xs) (.tup ys) = some (.tup (xs ++ ys)) := by
  have : tupCatD (.tup xs) (.tup ys) = some (.tup (xs ++ ys)) := by
    show (if xs.length + ys.length ≤ szMax then some (D.tup (xs ++ ys)) else none) = _
    rw [if_pos (show xs.length + ys.length ≤ szMax from h)]
  show (((iD0 (fun i j => i + j) (.tup xs) (.tup ys)).orElse fun _ => (strCatD (.tup xs) (.tup ys)).orElse fun _ => (tupCatD (.tup xs) (.tup ys)).orElse fun _ => lstCatD (.tup xs) (.tup ys)).orElse fun _ => blAddD (.tup xs) (.tup ys)) = _
  rw [this]
  rfl
end DL

set_option Elab.async false
set_option linter.all false
set_option maxRecDepth 100000
set_option maxHeartbeats 4000000
namespace DL
open PySem PySem.Spec PyProof.Rows L2
section
variable {X : Cx} {W : WX} {k : Nat} {E : St → XK} {fe e i : Expr} {es : List Expr} {tf : TE} {t : TA} {pos p1 p2 p3 p4 p5 : Pos}
/-- a def that an expression gives, called -/
def tCallE (X : Cx) (k : Nat) (E : St → XK) (tf : TE) (t : TA) : TE := fun σ H Q => tf σ H fun y H1 => ∃ (j : Nat) (f : Addr) (fd : FuncData) (ps : List Str) (sp : Sp), j ≤ k ∧ FnOk X.prog X.w X.K X.mg X.base (L2N.CX X.prog X.w) j f fd ps sp ∧ PySem.W.keepIn X.K (.ref f) = true ∧ Binds X.K fd ps [] ∧ y = .ref f ∧ t σ H1 fun vs H2 => sp vs H2 Q (E σ)
theorem pe_callE (hf : PE X fe tf) (hr : Room k X.A) (hx : ∀ σ, PassesAt (L2N.CX X.prog X.w) X σ (E σ)) (ha : PA X (e :: es) t)
    (ht : eval (.Call fe (e :: es) [] pos) X.env = (do callWith pos (← eval fe X.env) [] (backTo pos (starEach (e :: es) X.env)) (backToKw pos (keywordEach [] X.env))) := by rfl)
    (he : starEach (e :: es) X.env = (false, eval e X.env) :: starEach es X.env := by rfl) (hpl : (backTo pos (starEach es X.env)).any (·.1) = false := by rfl) : PE X (.Call fe (e :: es) [] pos) (tCallE X k E tf t) := by
  refine ⟨fun pins s σ H Q I h => ?_⟩
  refine Call_ (thn (hf.run pins s σ H _ I h) fun u s1 ⟨y, H1, I1, ry, j, f, fd, ps, sp, hj, F, hk, hb, ey, q⟩ => ?_) ht
  subst ey
  obtain rfl : u = Value.ref f := ry
  refine PySem.W.callWith_K (h₀ := X.base) I1.ok.mod.kin hk (thn (ha.run pos pins s1 σ H1 _ I1 q) fun us s2 ⟨vs, H2, I2, r, q2⟩ => ⟨I2.kIn, ?_⟩) he hpl
  exact run_fnS F (hr.mono hj) hb (hx σ) I2 r q2
def eSel (gs : List (Nat × (List D → Nat → Rs D))) (fi : SE) (fa : SA) : SE := fun ρ n => (fi ρ n).bind fun d n1 => match d with
  | .int k => if 0 ≤ k ∧ k < 100 then match gs[k.toNat]? with
    | some (ar, g) => (fa ρ n1).bind fun ds n2 => if ds.length = ar then g ds n2 else .no
    | none => .no
    else .no
  | _ => .no
/-- names of defs -/
inductive Cals (X : Cx) (k : Nat) : List Expr → List (Nat × (List D → Nat → Rs D)) → Prop
  | nil : Cals X k [] []
  | cons {x : Str} {p : Pos} {j ar : Nat} {g : List D → Nat → Rs D} {xs : List Expr} {gs : List (Nat × (List D → Nat → Rs D))} (c : CalD X.prog X.w X.K X.mg X.base j x ar g) (hj : j ≤ k) (hg : Gl X x) (hdb : (x == ("__debug__" : Str)) = false)
    (hs : starEach (.Name x p :: xs) X.env = (false, eval (.Name x p) X.env) :: starEach xs X.env) : Cals X k xs gs → Cals X k (.Name x p :: xs) ((ar, g) :: gs)
/-- what each of them is -/
def isFn (X : Cx) (k : Nat) (v : V) (a : Nat × (List D → Nat → Rs D)) : Prop := ∃ (j : Nat) (f : Addr) (fd : FuncData) (ps : List Str), j ≤ k ∧ FnOk X.prog X.w X.K X.mg X.base (L2N.CX X.prog X.w) j f fd ps (spD X.K X.mg a.1 a.2) ∧ PySem.W.keepIn X.K (.ref f) = true ∧ Binds X.K fd ps [] ∧ v = .ref f
theorem Cals.run {xs : List Expr} {gs : List (Nat × (List D → Nat → Rs D))} (c : Cals X k xs gs) : ∃ vs : List V, Paired (isFn X k) vs gs ∧ PA X xs (fun _ H Q => Q vs H) := by
  induction c with
  | nil => exact ⟨[], .nil, pa_nil⟩
  | cons c hj hg hdb hs _ ih =>
    obtain ⟨vs, h1, h2⟩ := ih
    obtain ⟨f, fd, ps, F, hm, hkp, hb⟩ := c.ex
    exact ⟨.ref f :: vs, .cons ⟨_, f, fd, ps, hj, F, hkp, hb, rfl⟩ h1, PA.imp (pa_cons (pe_glob (v := .ref f) hg hm rfl hdb) h2 hs) fun σ H Q h => h⟩
theorem paired_get {α β : Type} {R : α → β → Prop} : ∀ {xs : List α} {ys : List β}, Paired R xs ys → ∀ {i : Nat} {y : β}, ys[i]? = some y → ∃ x, xs[i]? = some x ∧ R x y
  | _, _, .nil, i, y, h => by simp at h
  | _, _, .cons r _, 0, y, h => by simp at h; subst h; exact ⟨_, rfl, r⟩
  | _, _, .cons _ p, i + 1, y, h => by
    obtain ⟨x, h1, h2⟩ := paired_get p (i := i) (y := y) (by simpa using h)
    exact ⟨x, by simpa using h1, h2⟩
theorem de_sel {names : List Expr} {gs : List (Nat × (List D → Nat → Rs D))} {fi : SE} {f : SA} (c : Cals X k names gs) (hlen : gs.length ≤ 100) (hr : Room k X.A) (tk : L2N.Takes X W) (hi : DB X W i fi) (ha : DA X W (e :: es) f) (hs : PlainIx i := by intro _ _; rfl)
    (ht : eval (.Call (.Subscript (.List names p4) i p5) (e :: es) [] pos) X.env = (do callWith pos (← eval (.Subscript (.List names p4) i p5) X.env) [] (backTo pos (starEach (e :: es) X.env)) (backToKw pos (keywordEach [] X.env))) := by rfl)
    (he : starEach (e :: es) X.env = (false, eval e X.env) :: starEach es X.env := by rfl) (hpl : (backTo pos (starEach es X.env)).any (·.1) = false := by rfl) :
    DE X W (.Call (.Subscript (.List names p4) i p5) (e :: es) [] pos) (eSel gs fi f) := by
  obtain ⟨vs, hv, hp⟩ := c.run
  have hvl : vs.length = gs.length := hv.length
  refine PE.imp (pe_callE (k := k) (E := WE W) (pe_ix ix_list (pe_lst hp) hi hs) hr (fun σ => L2N.passAt tk σ) ha ht he hpl) fun σ H Q h => ?_
  obtain ⟨aT, Oc, ρ, n, s, h⟩ := h
  refine ⟨by rw [hvl, sizeLine_eq]; omega, fun l hl => ?_⟩
  have e1 : Ex1 aT H (upd H l (.lst vs)) := .new hl
  have t1 := s.tw.new (o := .lst vs) hl
  have s1 := s.step e1 t1
  have g := GoAt.step (R := RpX X) mo_c e1 t1 h
  have na : l ≠ aT := fun z => by rw [z, s.tw.1] at hl; cases hl
  refine GoAt.bind (R := RbX X) mo_c s1 g fun H2 u d n2 s2 e2 r2 g2 => ?_
  cases d <;> try exact g2.elim
  rename_i z
  have g2 : GoAt X.mg W (RpX X aT (Oo Oc σ ρ)) aT σ H2 (if 0 ≤ z ∧ z < 100 then match gs[z.toNat]? with
    | some (ar, g) => (f ρ n2).bind fun ds n2 => if ds.length = ar then g ds n2 else .no
    | none => .no
    else .no) Q := g2
  by_cases hz : 0 ≤ z ∧ z < 100
  case neg => rw [if_neg hz] at g2; exact g2.elim
  rw [if_pos hz] at g2
  cases hg : gs[z.toNat]? with
  | none => rw [hg] at g2; exact g2.elim
  | some a =>
    rw [hg] at g2
    obtain ⟨v, hv1, j, fa, fd, ps, hj, F, hkp, hb, rfl⟩ := paired_get hv hg
    have := r2.int
    subst this
    have hl2 : H2 l = some (.lst vs) := e2 l _ na upd_same
    refine ⟨l, vs, z, .ref fa, rfl, rfl, SqL.of hl2, ?_, j, fa, fd, ps, _, hj, F, hkp, hb, rfl, ?_⟩
    · have hlt := (List.getElem?_eq_some_iff.mp hv1).1
      unfold atI ixN
      simp only [hz.1, show z < (vs.length : Int) by omega, and_self, if_true]
      exact hv1
    · refine GoAt.bind (R := RaX X) mo_c s2 g2 fun H3 us ds n3 s3 e3 r3 g3 => ?_
      exact spD_of s3 r3 g3
end
@[simp] theorem s_eSel (gs : List (Nat × (List D → Nat → Rs D))) (fi : SE) (fa : SA) (ρ : Ev) (n : Nat) : eSel gs fi fa ρ n = (fi ρ n).bind fun d n1 => match d with
  | .int k => if 0 ≤ k ∧ k < 100 then match gs[k.toNat]? with
    | some (ar, g) => (fa ρ n1).bind fun ds n2 => if ds.length = ar then g ds n2 else .no
    | none => .no
    else .no
  | _ => .no := rfl
end DL

set_option Elab.async false
set_option linter.all false
set_option maxRecDepth 100000
set_option maxHeartbeats 4000000
namespace DL
open PySem PySem.Spec PyProof.Rows L2
/-! ### a class called whose __init__ raises -/
def Rs.onlyEx : Rs D → Rs D
  | .ex c n => .ex c n
  | .ok _ _ => .no
  | .no => .no
  | .amb f => .amb fun b => (f b).onlyEx
/-- the first parameter is not looked at -/
def callI (m : Nat) (F : SS) (ds : List D) (n : Nat) : Rs D := (F (Sl.no :: (ds.map Sl.sh ++ List.replicate (m - 1 - ds.length) .no)) n).out.onlyEx
def spI (K : PySem.W.Frag) (mg : Str → Option Value) (ar : Nat) (g : List D → Nat → Rs D) : Sp := fun vs H Q E => ∃ (v0 : V) (us : List V) (aT : Addr) (Oc : Addr → Prop) (ds : List D) (n : Nat),
  vs = v0 :: us ∧ Tw aT H n ∧ Oc aT ∧ (∀ b, Oc b → H b ≠ none) ∧ Rps K aT Oc H us ds ∧ ds.length = ar ∧ SpO K mg aT Oc H Q E (g ds n)
section
variable {P : Program} {w : World} {K : PySem.W.Frag} {mg : Str → Option Value} {base : Heap}
theorem start_okI {aT : Addr} {Oc : Addr → Prop} {H : Hp} {n : Nat} {N : List Str} {v0 : V} {vs : List V} {ds : List D} (hN : 1 ≤ N.length) (t : Tw aT H n) (o : Oc aT) (dm : ∀ b, Oc b → H b ≠ none) (r : Rps K aT Oc H vs ds) : StE K aT Oc H (L2.start N (v0 :: vs)) (Sl.no :: (ds.map Sl.sh ++ List.replicate (N.length - 1 - ds.length) .no)) n := by
  have noow : ∀ (i : Nat) d, (Sl.no :: (ds.map Sl.sh ++ List.replicate (N.length - 1 - ds.length) Sl.no))[i]? ≠ some (.ow d) := fun i d h => by
    have := List.mem_of_getElem? h
    simp at this
  have eO : ∀ b, Oo Oc (L2.start N (v0 :: vs)) (Sl.no :: (ds.map Sl.sh ++ List.replicate (N.length - 1 - ds.length) Sl.no)) b → Oc b := fun b h => by
    rcases h with h | ⟨i, d, h, _⟩
    · exact h
    · exact absurd h (noow i d)
  refine ⟨t, o, dm, by simp [L2.start, r.length]; omega, fun i d h => ?_, fun i d h => absurd h (noow i d), fun i j d e a h => absurd h (noow i d), fun i k a h => by
    have := List.mem_of_getElem? h
    simp at this⟩
  cases i with
  | zero => simp at h
  | succ i =>
    rw [List.getElem?_cons_succ] at h
    by_cases hl : i < ds.length
    · rw [List.getElem?_append_left (by simpa using hl), List.getElem?_map] at h
      obtain ⟨d', h1, h2⟩ := Option.map_eq_some_iff.mp h
      cases h2
      obtain ⟨v, h3, h4⟩ := r.get h1
      refine ⟨v, ?_, h4.mono (Kp.anti eO)⟩
      unfold L2.start
      rw [List.map_cons, List.cons_append, List.getElem?_cons_succ, List.getElem?_append_left (by rw [List.length_map, r.length]; exact hl), List.getElem?_map, h3]
      rfl
    · rw [List.getElem?_append_right (by simpa using hl)] at h
      have := List.mem_of_getElem? h
      simp at this
theorem go_startI {X : Cx} {W : WX} {F : SS} {N : List Str} {aT : Addr} {Oc : Addr → Prop} {H : Hp} {n : Nat} {v0 : V} {vs : List V} {ds : List D} {Q : VK} {E : XK} (hN : 1 ≤ N.length) (t : Tw aT H n) (o : Oc aT) (dm : ∀ b, Oc b → H b ≠ none) (r : Rps X.K aT Oc H vs ds) (hW : W = fun c d _ H' => E c d H')
    (h : SpO X.K X.mg aT Oc H Q E (callI N.length F ds n)) : GoS X W F { nx := fun _ H' => Q .non H', rt := Q } (L2.start N (v0 :: vs)) H := by
  subst hW
  have s := start_okI (N := N) (v0 := v0) hN t o dm r
  refine ⟨aT, Oc, H, _, n, ⟨s, .refl, fun i d a z => ?_, dm⟩, ?_⟩
  · have := List.mem_of_getElem? z
    simp at this
  · unfold callI at h
    generalize F (Sl.no :: (ds.map Sl.sh ++ List.replicate (N.length - 1 - ds.length) .no)) n = r0 at h ⊢
    induction r0 with
    | amb f ih => exact fun b => ih b (h b)
    | no => exact h
    | ex c m =>
      obtain ⟨u, h1, h2⟩ := h
      exact ⟨u, h1, fun σ' H' e t => h2 H' e t⟩
    | ok f m =>
      cases f with
      | rt d => exact h.elim
      | nx ρ' => exact h.elim
theorem init_ok {x qual : Str} {st : Stmt} {f : Addr} {fd : FuncData} {N ps : List Str} {k ar : Nat} {F : SS} (Fn : Fun K x qual st f fd) (S : FnScope N ps (defScope st)) (hp : ps.length = ar + 1) (hN : 1 ≤ N.length)
    (body : ∀ (cdv : Value) (A : Around) (outer : List Env) (s : Shared) (H : Hp) (E : XK), Room k (bX P w K mg base N qual st f cdv A outer s H E).A → DSs (bX P w K mg base N qual st f cdv A outer s H E) (bW E) (defBody st) F) :
    FnOk P w K mg base (L2N.CX P w) (k + 1) f fd ps (spI K mg ar (callI N.length F)) := by
  refine fun_okN Fn S (fun vs H Q E h => ?_) (fun cdv A outer s H vs Q E hr h => ?_)
  · obtain ⟨_, us, _, _, ds, _, rfl, _, _, _, r, hl, _⟩ := h
    rw [List.length_cons, r.length, hl, hp]
  · obtain ⟨v0, us, aT, Oc, ds, n, rfl, t, o, dm, r, hl, q⟩ := h
    exact ⟨_, body cdv A outer s H E hr, go_startI (X := bX P w K mg base N qual st f cdv A outer s H E) hN t o dm r rfl q⟩
/-- a class that can be called -/
structure MkX (P : Program) (w : World) (K : PySem.W.Frag) (mg : Str → Option Value) (base : Heap) (k : Nat) (x : Str) (ar : Nat) (g : List D → Nat → Rs D) : Prop where
  ex : ∃ (C f : Addr) (fd : FuncData) (ps : List Str), Mk K C f ∧ FnOk P w K mg base (L2N.CX P w) k f fd ps (spI K mg ar g) ∧ mg x = some (.ref C) ∧ Binds K fd ps []
end
section
variable {X : Cx} {CX : CXT} {k : Nat} {f C : Addr} {fd : FuncData} {ps : List Str} {sp : Sp} {E : St → XK} {x : Str} {p pos : Pos} {e : Expr} {es : List Expr} {t : TA}
theorem run_makeS {pins : List (Addr × Obj)} {σ : St} {H : Hp} {s : Shared} {Q : VK} {us : List Value} {vs : List V} (M : Mk X.K C f) (F : FnOk X.prog X.w X.K X.mg X.base CX k f fd ps sp) (hr : Room (k + 1) X.A) (hb : Binds X.K fd ps [])
    (hx : PassesAt CX X σ (E σ)) (I : Inv X pins σ H s) (r : Vals vs us)
    (h : ∀ x dx, H x = none → H dx = none → dx ≠ x → sp (.ref x :: vs) (upd (upd H dx (.own x)) x (.ins C dx [])) (fun v H2 => v = .non ∧ Q (.ref x) H2) (E σ)) :
    wpAny (model X.prog X.w) X.A (call (.ref C) us) (EP X pins σ Q) X.xe s := by
  have q := h (s.heap.objs.size + 1) s.heap.objs.size (I.hok.fresh (Nat.le_succ _)) (I.hok.fresh (Nat.le_refl _)) (Nat.ne_of_lt (Nat.lt_succ_self _))
  have J := Inv.made (C := C) I
  have r2 : Vals (V.ref (s.heap.objs.size + 1) :: vs) (Value.ref (s.heap.objs.size + 1) :: us) := .cons rfl r
  have hl : (Value.ref (s.heap.objs.size + 1) :: us).length = ps.length := by rw [← r2.length, F.len _ _ _ _ q]
  have b := hb { s with heap := _ } (Value.ref (s.heap.objs.size + 1) :: us) J.kIn (by rw [List.append_nil]; exact hl)
  rw [List.append_nil] at b
  refine wpAny_call (make_map (f := f) I.kIn M.makes M.init (beq_iff_eq.mp M.fn) (codeAny_mono (F.run _ X.stack _ _ ⟨Value.ref (s.heap.objs.size + 1) :: us, []⟩ (Value.ref (s.heap.objs.size + 1) :: us) _ _ (E σ) (hr.make C us []) (J.env0.make C us []) b r2 q) fun z s' hz => ?_))
  cases z with
  | error e => exact hx pins _ _ e s' J hz
  | ok fl =>
    cases fl with
    | ret u =>
      obtain ⟨v, H', I3, rv, ev, q3⟩ := J.after hz
      subst ev
      exact ⟨rv, ⟨V.ref (s.heap.objs.size + 1), H', I3, rfl, q3⟩⟩
    | next => exact False.elim hz
    | brk => exact False.elim hz
    | cont => exact False.elim hz
def tMakeS (C : Addr) (sp : Sp) (E : St → XK) (t : TA) : TE := fun σ H Q => t σ H fun vs H1 => ∀ x dx, H1 x = none → H1 dx = none → dx ≠ x →
  sp (.ref x :: vs) (upd (upd H1 dx (.own x)) x (.ins C dx [])) (fun v H2 => v = .non ∧ Q (.ref x) H2) (E σ)
theorem pe_makeS (M : Mk X.K C f) (F : FnOk X.prog X.w X.K X.mg X.base CX k f fd ps sp) (hr : Room (k + 1) X.A) (hg : Gl X x) (hm : X.mg x = some (.ref C)) (hb : Binds X.K fd ps []) (hx : ∀ σ, PassesAt CX X σ (E σ))
    (ha : PA X (e :: es) t) (hdb : (x == ("__debug__" : Str)) = false := by decide) (he : starEach (e :: es) X.env = (false, eval e X.env) :: starEach es X.env := by rfl) (hpl : (backTo pos (starEach es X.env)).any (·.1) = false := by rfl) :
    PE X (.Call (.Name x p) (e :: es) [] pos) (tMakeS C sp E t) := by
  refine ⟨fun pins s σ H Q I h => ?_⟩
  refine wpAny_Call_Name_kw (ld_glob I hg hm ?_ hdb)
  refine PySem.W.callWith_K (h₀ := X.base) I.ok.mod.kin M.kp (thn (ha.run pos pins s σ H _ I h) fun us s1 ⟨vs, H1, I1, r, q⟩ => ⟨I1.kIn, ?_⟩) he hpl
  exact run_makeS M F hr hb (hx σ) I1 r q
end
def eMkX (ar : Nat) (g : List D → Nat → Rs D) (f : SA) : SE := fun ρ n => (f ρ n).bind fun ds n1 => if ds.length = ar then g ds n1 else .no
section
variable {X : Cx} {W : WX} {e : Expr} {es : List Expr} {pos : Pos}
theorem de_makeX {k j ar : Nat} {x : Str} {g : List D → Nat → Rs D} {f : SA} {p : Pos} (c : MkX X.prog X.w X.K X.mg X.base k x ar g) (ho : ∀ ds n, (g ds n).onlyEx = g ds n) (hr : Room j X.A) (hk : k + 1 ≤ j) (tk : L2N.Takes X W) (ha : DA X W (e :: es) f) (hg : Gl X x := by rfl) (hdb : (x == ("__debug__" : Str)) = false := by decide)
    (he : starEach (e :: es) X.env = (false, eval e X.env) :: starEach es X.env := by rfl) (hpl : (backTo pos (starEach es X.env)).any (·.1) = false := by rfl) : DE X W (.Call (.Name x p) (e :: es) [] pos) (eMkX ar g f) := by
  obtain ⟨C, fa, fd, ps, M, F, hm, hb⟩ := c.ex
  refine PE.imp (pe_makeS (E := WE W) M F (hr.mono hk) hg hm hb (fun σ => L2N.passAt tk σ) ha hdb he hpl) fun σ H Q h => ?_
  refine Go.bind mo_c h fun aT Oc ρ H1 vs ds n1 s1 rs g' x dx hx hdx hne => ?_
  by_cases hl : ds.length = ar
  case neg => rw [if_neg hl] at g'; exact g'.elim
  rw [if_pos hl] at g'
  have e1 : Ex1 aT H1 (upd H1 dx (.own x)) := .new hdx
  have hx1 : upd H1 dx (.own x) x = none := by rw [upd_ne (Ne.symm hne)]; exact hx
  have e2 : Ex1 aT (upd H1 dx (.own x)) (upd (upd H1 dx (.own x)) x (.ins C dx [])) := .new hx1
  have t1 := s1.tw.new (o := .own x) hdx
  have t2 := t1.new (o := .ins C dx []) hx1
  have s2 := (s1.step e1 t1).step e2 t2
  refine ⟨.ref x, vs, aT, Oo Oc σ ρ, ds, n1, rfl, t2, .inl s1.oT, s2.domO, rs.mono ((e1.trans e2).kp (.inl s1.oT)), hl, ?_⟩
  have g2 := GoAt.step (R := RpX X) mo_c (e1.trans e2) t2 g'
  have hoo := ho ds n1
  generalize g ds n1 = r at g2 hoo ⊢
  induction r with
  | ok d n' => cases hoo
  | ex c n' => exact g2
  | no => exact g2
  | amb f ih => exact fun b => ih b (g2 b) (by
      have := congrArg (fun z => match z with | Rs.amb q => q b | _ => Rs.no) hoo
      exact this)
end
theorem onlyEx_idem : ∀ r : Rs D, r.onlyEx.onlyEx = r.onlyEx
  | .ex _ _ => rfl
  | .ok _ _ => rfl
  | .no => rfl
  | .amb f => by simp only [Rs.onlyEx]; congr 1; funext b; exact onlyEx_idem (f b)
theorem callI_only (m : Nat) (F : SS) (ds : List D) (n : Nat) : (callI m F ds n).onlyEx = callI m F ds n := onlyEx_idem _
@[simp] theorem s_eMkX (ar : Nat) (g : List D → Nat → Rs D) (f : SA) (ρ : Ev) (n : Nat) : eMkX ar g f ρ n = (f ρ n).bind fun ds n1 => if ds.length = ar then g ds n1 else .no := rfl
/-- the j-th statement of a class's body -/
def clsS (st : Stmt) (j : Nat) : Stmt := match st with
  | .ClassDef _ _ _ body _ _ _ _ _ _ _ => body.getD j (.Pass ⟨0, 0, 0, 0⟩)
  | _ => .Pass ⟨0, 0, 0, 0⟩
end DL

set_option Elab.async false
set_option linter.all false
set_option maxRecDepth 100000
set_option maxHeartbeats 4000000
namespace DL
open PySem PySem.Spec PyProof.Rows L2
open AutoSeq1 (wpAny_loadPart')
/-! ### a tuple, once -/
theorem tuple_mul1 (l : Addr) (items : Array Value) (n : Nat) (dd : Option Addr) (sl : Array (Option Value)) (u : Tok) :
    Meets (Builtin.«tuple.__mul__» ⟨[.ref l, .int 1 u], []⟩) (fun _ R s => s.heap.get? l = some { cls := .type "tuple", dict := dd, data := .seq items n, slots := sl } ∧ R (.ok (.ret (Value.ref l))) s) :=
  .of_wp fun prog w A R s h => by
    obtain ⟨hp, g, d, tk, os⟩ := s
    obtain ⟨hl, h⟩ := h
    have f1 := AutoSeq1.idx_int
    wp_walk using wpAny_loadPart' hl
    repeat (first
      | (refine wpAny_ite_false (decide_eq_false (by decide)) ?_; wp_walk using wpAny_loadPart' hl)
      | (refine wpAny_ite_true (decide_eq_true (by simp)) ?_; wp_walk using wpAny_loadPart' hl))
    exact ⟨_, rfl, h⟩
section
variable {X : Cx}
def rRep1 (K : PySem.W.Frag) : R2 := fun x y H Q => ∃ l xs, x = .ref l ∧ y = .int 1 ∧ SqT K H l xs ∧ Q (.ref l) H
theorem op_rep1 : OpR X (binaryOp .Mult) (rRep1 X.K) := by
  intro pins s σ H x y v u Q I rx ry h
  obtain ⟨l, xs, rfl, rfl, hT, q⟩ := h
  cases rx
  obtain ⟨t, rfl⟩ := ry
  obtain ⟨its, r, ⟨⟨cls, dd, data, sl⟩, ho, hc, n, hd⟩, hs⟩ := I.tuple hT
  simp only at hc hd
  subst hc hd
  refine wpAny_binaryOp_repeat_ref (T := "tuple") (U := "int") (by decide) ⟨_, ho, rfl⟩ (fun s' => typeIs_int s' 1 t) noFill_tuple_mul F.fills_int_mul F.slot_int_rmul repeat_tuple F.slot_int_index.lookup
    (call_meets F.slot_int_rmul (typeIs_int s 1 t) F.entry_int_rmul (F.args_int_rmul_2 _ _) (int_rmul_tuple 1 t l its.toArray n dd sl)
      ⟨ho, rfl, ⟨_, ho, rfl⟩, call_meets F.slot_tuple_mul ⟨_, ho, rfl⟩ F.entry_tuple_mul (F.args_tuple_mul_2 _ _) (tuple_mul1 l its.toArray n dd sl t) ⟨ho, ⟨.ref l, H, I, rfl, q⟩⟩⟩)
def tupOnceD : D → D → Option D
  | .tup xs, .int k => if k = 1 then some (.tup xs) else none
  | _, _ => none
theorem op_tupOnceD : OpD X (binaryOp .Mult) (RpX X) tupOnceD := by
  refine ⟨_, op_rep1, fun aT Oc σ ρ n H x y d e z Q s rx ry hz q => ?_⟩
  cases d <;> cases e <;> try (exact (no_some hz).elim)
  obtain ⟨h1, rfl⟩ := some_ite hz
  subst h1
  obtain ⟨a, xs, rfl, ta, ra⟩ := rx.tup
  have := ry.int
  subst y
  exact ⟨a, xs, rfl, rfl, ta.sq, q _ _ .refl s.tw (.tup ta ra)⟩
def mulB : D → D → Option D := fun d e => (mulD d e).orElse fun _ => tupOnceD d e
theorem op_mulB : OpD X (binaryOp .Mult) (RpX X) mulB := OpD.or op_mulD op_tupOnceD
end
theorem mulB_once (xs : List D) : mulB (.tup xs) (.int 1) = some (.tup xs) := by
  have h1 : mulD (.tup xs) (.int 1) = none := by
    show ((iD cMul (fun i j => i * j) (.tup xs) (.int 1)).orElse fun _ => (lstRepD (.tup xs) (.int 1)).orElse fun _ => tupRepD (.tup xs) (.int 1)) = none
    have : tupRepD (.tup xs) (.int 1) = none := by
      show (if ((2 : Int) ≤ 1 ∧ (1 : Int) ≤ 1000) ∧ xs ≠ [] ∧ xs.length ≤ 1000 then some (D.tup (List.replicate (1 : Int).toNat xs).flatten) else none) = none
      rw [if_neg (by omega)]
    rw [this]
    rfl
  show ((mulD (.tup xs) (.int 1)).orElse fun _ => tupOnceD (.tup xs) (.int 1)) = _
  rw [h1]
  rfl
theorem mulB_many {xs : List D} {k : Int} {z : D} (h : mulD (.tup xs) (.int k) = some z) : mulB (.tup xs) (.int k) = some z := by
  show ((mulD (.tup xs) (.int k)).orElse fun _ => tupOnceD (.tup xs) (.int k)) = _
  rw [h]
  rfl
/-! ### records: fields -/
def fldD (b : Bool) : D → Option D
  | .rcd c h => some (if b = true then h else c)
  | _ => none
def eFld (b : Bool) (fa : SE) : SE := fun ρ n => (fa ρ n).bind fun d n1 => Rs.of (fldD b d) n1
section
variable {X : Cx} {W : WX} {a e o : Expr} {es : List Expr} {fa : SE} {pos apos : Pos}
theorem Rb.rcd {K : PySem.W.Frag} {aT : Addr} {O : Addr → Prop} {H : Hp} {v : V} {c h : D} (r : Rb K aT O H v (.rcd c h)) : ∃ a v1 v2, v = .ref a ∧ RcO K O H a v1 v2 ∧ Rp K aT O H v1 c ∧ Rp K aT O H v2 h := by
  rcases r with r | ⟨_, _, o, _⟩
  · cases r with
    | rcd hr r1 r2 => exact ⟨_, _, _, rfl, hr, r1, r2⟩
  · exact o.elim
theorem de_how (ha : DB X W a fa) (hb : attributeBase a "how" X.env (eval a X.env) = eval a X.env := by rfl) : DE X W (.Attribute a "how" pos) (eFld true fa) := by
  refine PE.imp (pe_fld ha hb) fun σ H Q h => ?_
  refine Go.bind mo_c h fun aT Oc ρ H1 v d n1 s1 r g => ?_
  obtain ⟨z, hz, q⟩ := g.of
  cases d <;> try (exact (no_some hz).elim)
  cases hz
  obtain ⟨x, v1, v2, rfl, ⟨C, dx, p, y, t, e, n⟩, r1, r2⟩ := r.rcd
  exact ⟨x, C, dx, _, v2, rfl, e, t.cls, t.nh, rfl, q _ _ .refl s1.tw r2⟩
theorem de_claim (ha : DB X W a fa) (hb : attributeBase a "claim" X.env (eval a X.env) = eval a X.env := by rfl) : DE X W (.Attribute a "claim" pos) (eFld false fa) := by
  refine PE.imp (pe_fld ha hb) fun σ H Q h => ?_
  refine Go.bind mo_c h fun aT Oc ρ H1 v d n1 s1 r g => ?_
  obtain ⟨z, hz, q⟩ := g.of
  cases d <;> try (exact (no_some hz).elim)
  cases hz
  obtain ⟨x, v1, v2, rfl, ⟨C, dx, p, y, t, e, n⟩, r1, r2⟩ := r.rcd
  exact ⟨x, C, dx, _, v1, rfl, e, t.cls, t.nc, rfl, q _ _ .refl s1.tw r1⟩
/-! ### records: methods -/
structure CalM (P : Program) (w : World) (K : PySem.W.Frag) (mg : Str → Option Value) (base : Heap) (k : Nat) (m : Str) (ar : Nat) (g : List D → Nat → Rs D) : Prop where
  ex : ∃ (C f : Addr) (fd : FuncData) (ps : List Str), TwK K C ∧ Meth K C m f ∧ FnOk P w K mg base (L2N.CX P w) k f fd ps (spD K mg (ar + 1) g) ∧ Binds K fd ps []
/-- o.m(..), E by the slots -/
def tMethS (C : Addr) (m : Str) (sp : Sp) (E : St → XK) (ta : TE) (t : TA) : TE := fun σ H Q => ta σ H fun x H1 => ∃ a dx fs, x = .ref a ∧ H1 a = some (.ins C dx fs) ∧ fs.lookup m = none ∧ t σ H1 fun vs H2 => sp (x :: vs) H2 Q (E σ)
theorem pe_methE {CX : CXT} {k : Nat} {f C : Addr} {fd : FuncData} {ps : List Str} {sp : Sp} {E : St → XK} {m : Str} {ta : TE} {t : TA} {pl : Sem Bool} (he : PE X o ta) (c : Cls X.K C) (hm : Meth X.K C m f) (F : FnOk X.prog X.w X.K X.mg X.base CX k f fd ps sp) (hr : Room k X.A) (hb : Binds X.K fd ps []) (hx : ∀ σ, PassesAt CX X σ (E σ)) (ha : PA X (e :: es) t)
    (hst : starEach (e :: es) X.env = (false, eval e X.env) :: starEach es X.env := by rfl) (hpl : (backTo pos (starEach es X.env)).any (·.1) = false := by rfl)
    (ht : eval (.Call (.Attribute o m apos) (e :: es) [] pos) X.env = (do
      let ov ← eval o X.env
      standAt apos.atName
      let (f, first) ← holding [ov] (getMethod ov m pl)
      callWith pos f first (backTo pos (starEach (e :: es) X.env)) (backToKw pos (keywordEach [] X.env))) := by rfl) :
    PE X (.Call (.Attribute o m apos) (e :: es) [] pos) (tMethS C m sp E ta t) := by
  refine ⟨fun pins s σ H Q I h => ?_⟩
  refine PySem.W.methodCall_KW (pl := pl) (thn (he.run pins s σ H _ I h) fun u s1 ⟨x, H1, I1, rx, a, dx, fs, ex, ea, l, q⟩ => ?_) ht
  subst ex
  obtain rfl : u = Value.ref a := rx
  refine getmeth_ok I1 ea c hm l ?_
  refine PySem.W.callWith_K (first := [.ref a]) (h₀ := X.base) I.ok.mod.kin hm.kp (thn (ha.run pos pins s1 σ H1 _ I1 q) fun us s2 ⟨vs, H2, I2, r, q2⟩ => ⟨I2.kIn, ?_⟩) hst hpl
  exact run_fnS (us := .ref a :: us) (vs := .ref a :: vs) F hr hb (hx σ) I2 (.cons rfl r) q2
theorem pe_methE0 {CX : CXT} {k : Nat} {f C : Addr} {fd : FuncData} {ps : List Str} {sp : Sp} {E : St → XK} {m : Str} {ta : TE} {pl : Sem Bool} (he : PE X o ta) (c : Cls X.K C) (hm : Meth X.K C m f) (F : FnOk X.prog X.w X.K X.mg X.base CX k f fd ps sp) (hr : Room k X.A) (hb : Binds X.K fd ps []) (hx : ∀ σ, PassesAt CX X σ (E σ))
    (ht : eval (.Call (.Attribute o m apos) [] [] pos) X.env = (do
      let ov ← eval o X.env
      standAt apos.atName
      let (f, first) ← holding [ov] (getMethod ov m pl)
      callWith pos f first (backTo pos (starEach [] X.env)) (backToKw pos (keywordEach [] X.env))) := by rfl) :
    PE X (.Call (.Attribute o m apos) [] [] pos) (tMethS C m sp E ta tNil) := by
  refine ⟨fun pins s σ H Q I h => ?_⟩
  refine PySem.W.methodCall_KW (pl := pl) (thn (he.run pins s σ H _ I h) fun u s1 ⟨x, H1, I1, rx, a, dx, fs, ex, ea, l, q⟩ => ?_) ht
  subst ex
  obtain rfl : u = Value.ref a := rx
  refine getmeth_ok I1 ea c hm l ?_
  exact PySem.W.callWith_K0 (first := [.ref a]) I1.kIn hm.kp (run_fnS (us := [.ref a]) (vs := [.ref a]) F hr hb (hx σ) I1 (.cons rfl .nil) q)
def eMet (ar : Nat) (g : List D → Nat → Rs D) (fo : SE) (f : SA) : SE := fun ρ n => (fo ρ n).bind fun d n1 => if d.isR = true then (f ρ n1).bind fun ds n2 => if ds.length = ar then g (d :: ds) n2 else .no else .no
theorem de_met {k j ar : Nat} {m : Str} {g : List D → Nat → Rs D} {fo : SE} {f : SA} (c : CalM X.prog X.w X.K X.mg X.base k m ar g) (hr : Room j X.A) (hk : k ≤ j) (tk : L2N.Takes X W) (ho : DE X W o fo) (ha : DA X W (e :: es) f)
    (hl : ∀ v1 v2 v3 v4 : V, List.lookup m [((Str.ofString "claim"), v1), ((Str.ofString "how"), v2), ((Str.ofString "past"), v3), ((Str.ofString "calls"), v4)] = none := by intros; rfl)
    {pl : Sem Bool} (hst : starEach (e :: es) X.env = (false, eval e X.env) :: starEach es X.env := by rfl) (hpl : (backTo pos (starEach es X.env)).any (·.1) = false := by rfl)
    (ht : eval (.Call (.Attribute o m apos) (e :: es) [] pos) X.env = (do
      let ov ← eval o X.env
      standAt apos.atName
      let (f, first) ← holding [ov] (getMethod ov m pl)
      callWith pos f first (backTo pos (starEach (e :: es) X.env)) (backToKw pos (keywordEach [] X.env))) := by rfl) :
    DE X W (.Call (.Attribute o m apos) (e :: es) [] pos) (eMet ar g fo f) := by
  obtain ⟨C, fa, fd, ps, hcl, hm, F, hb⟩ := c.ex
  · refine PE.imp (pe_methE (E := WE W) (pl := pl) ho hcl.cls hm F (hr.mono hk) hb (fun σ => L2N.passAt tk σ) ha hst hpl ht) fun σ H Q h => ?_
    refine Go.bind mo_c h fun aT Oc ρ H1 v d n1 s1 r g' => ?_
    cases hd : d.isR with
    | false => rw [hd] at g'; exact g'.elim
    | true =>
      cases d <;> try (cases hd; done)
      rename_i c h
      rw [hd] at g'
      cases r with
      | rcd hr0 r1 r2 =>
        obtain ⟨C', dx, p, q, t, e, n⟩ := hr0
        have : C' = C := by
          have := t.own.symm.trans hcl.own
          cases this
          rfl
        subst this
        refine ⟨_, dx, _, rfl, e, hl _ _ _ _, ?_⟩
        refine GoAt.bind (R := RaX X) mo_c s1 g' fun H2 vs ds n2 s2 e2 r3 g2 => ?_
        have rr : Rp X.K aT (Oo Oc σ ρ) H2 _ (.rcd c h) := (Rp.rcd ⟨C', dx, p, q, t, e, n⟩ r1 r2).mono (e2.kp (.inl s1.oT))
        exact spD_of (ar := ar + 1) (g := g) s2 (.cons rr r3) (by
          by_cases hl : ds.length = ar
          · rw [if_pos hl] at g2
            rw [if_pos (by rw [List.length_cons, hl])]
            exact g2
          · rw [if_neg hl] at g2
            exact g2.elim)
theorem de_met0 {k j : Nat} {m : Str} {g : List D → Nat → Rs D} {fo : SE} (c : CalM X.prog X.w X.K X.mg X.base k m 0 g) (hr : Room j X.A) (hk : k ≤ j) (tk : L2N.Takes X W) (ho : DE X W o fo)
    (hl : ∀ v1 v2 v3 v4 : V, List.lookup m [((Str.ofString "claim"), v1), ((Str.ofString "how"), v2), ((Str.ofString "past"), v3), ((Str.ofString "calls"), v4)] = none := by intros; rfl)
    {pl : Sem Bool} (ht : eval (.Call (.Attribute o m apos) [] [] pos) X.env = (do
      let ov ← eval o X.env
      standAt apos.atName
      let (f, first) ← holding [ov] (getMethod ov m pl)
      callWith pos f first (backTo pos (starEach [] X.env)) (backToKw pos (keywordEach [] X.env))) := by rfl) :
    DE X W (.Call (.Attribute o m apos) [] [] pos) (eMet 0 g fo eNil) := by
  obtain ⟨C, fa, fd, ps, hcl, hm, F, hb⟩ := c.ex
  refine PE.imp (pe_methE0 (E := WE W) (pl := pl) ho hcl.cls hm F (hr.mono hk) hb (fun σ => L2N.passAt tk σ) ht) fun σ H Q h => ?_
  refine Go.bind mo_c h fun aT Oc ρ H1 v d n1 s1 r g' => ?_
  cases hd : d.isR with
  | false => rw [hd] at g'; exact g'.elim
  | true =>
    cases d <;> try (cases hd; done)
    rename_i c h
    rw [hd] at g'
    cases r with
    | rcd hr0 r1 r2 =>
      obtain ⟨C', dx, p, q, t, e, n⟩ := hr0
      have : C' = C := by
        have := t.own.symm.trans hcl.own
        cases this
        rfl
      subst this
      refine ⟨_, dx, _, rfl, e, hl _ _ _ _, ?_⟩
      exact spD_of (ar := 1) (g := g) s1 (.cons (.rcd ⟨C', dx, p, q, t, e, n⟩ r1 r2) .nil) (by
        rw [if_pos (show [D.rcd c h].length = 1 from rfl)]
        exact g')
end
@[simp] theorem s_eFld (b : Bool) (fa : SE) (ρ : Ev) (n : Nat) : eFld b fa ρ n = (fa ρ n).bind fun d n1 => Rs.of (fldD b d) n1 := rfl
@[simp] theorem s_fldD (b : Bool) (c h : D) : fldD b (.rcd c h) = some (if b = true then h else c) := rfl
@[simp] theorem s_eMet (ar : Nat) (g : List D → Nat → Rs D) (fo : SE) (f : SA) (ρ : Ev) (n : Nat) : eMet ar g fo f ρ n = (fo ρ n).bind fun d n1 => if d.isR = true then (f ρ n1).bind fun ds n2 => if ds.length = ar then g (d :: ds) n2 else .no else .no := rfl
@[simp] theorem s_isR (c h : D) : (D.rcd c h).isR = true := rfl
end DL

set_option Elab.async false
set_option linter.all false
set_option maxRecDepth 100000
set_option maxHeartbeats 4000000
namespace DL
open PySem PySem.Spec PyProof.Rows L2
/-! ### frozen data -/
def TupF (K : PySem.W.Frag) (H : Hp) (a : Addr) (xs : List V) : Prop :=
  SlT H a xs ∨ ((∃ ss : List Str, xs = ss.map V.str) ∧ ∃ (o : Obj) (its : Array Value) (n : Nat), K.lookup a = some o ∧ o.cls = .type "tuple" ∧ o.data = .seq its n ∧ its.size ≤ sizeLine ∧ Vals xs its.toList)
mutual
inductive RF (K : PySem.W.Frag) (H : Hp) : V → D → Prop
  | non : RF K H .non .non
  | bl (b : Bool) : RF K H (.bl b) (.bl b)
  | int (i : Int) : RF K H (.int i) (.int i)
  | str (x : Str) : RF K H (.str x) (.str x)
  | tup {a : Addr} {xs : List V} {ds : List D} : TupF K H a xs → RFs K H xs ds → RF K H (.ref a) (.tup ds)
inductive RFs (K : PySem.W.Frag) (H : Hp) : List V → List D → Prop
  | nil : RFs K H [] []
  | cons {v : V} {vs : List V} {d : D} {ds : List D} : RF K H v d → RFs K H vs ds → RFs K H (v :: vs) (d :: ds)
end
/-- what is frozen stays -/
def Fz (H H' : Hp) : Prop := ∀ b o u, H b = some (.frz o u) → H' b = some (.frz o u)
theorem Fz.tup {K : PySem.W.Frag} {H H' : Hp} (z : Fz H H') {a : Addr} {xs : List V} (h : TupF K H a xs) : TupF K H' a xs := by
  rcases h with ⟨o, hd, h⟩ | h
  · exact .inl ⟨o, hd, z _ _ _ h⟩
  · exact .inr h
section
variable {K : PySem.W.Frag} {H H' : Hp} {aT : Addr} {O : Addr → Prop}
mutual
theorem RF.mono (z : Fz H H') : ∀ {v : V} {d : D}, RF K H v d → RF K H' v d
  | _, _, .non => .non
  | _, _, .bl b => .bl b
  | _, _, .int i => .int i
  | _, _, .str x => .str x
  | _, _, .tup h r => .tup (z.tup h) (RFs.mono z r)
theorem RFs.mono (z : Fz H H') : ∀ {v : List V} {d : List D}, RFs K H v d → RFs K H' v d
  | _, _, .nil => .nil
  | _, _, .cons a b => .cons (RF.mono z a) (RFs.mono z b)
end
/-- nothing owned is frozen -/
def NoF (O : Addr → Prop) (H : Hp) : Prop := ∀ b, O b → ∀ o u, H b ≠ some (.frz o u)
mutual
theorem RF.rp (nf : NoF O H) : ∀ {v : V} {d : D}, RF K H v d → Rp K aT O H v d
  | _, _, .non => .non
  | _, _, .bl b => .bl b
  | _, _, .int i => .int i
  | _, _, .str x => .str x
  | _, _, .tup h r => by
    refine .tup ?_ (RFs.rp nf r)
    rcases h with ⟨o, hd, h⟩ | h
    · exact .inl ⟨⟨o, hd, h⟩, fun z => nf _ z _ _ h⟩
    · exact .inr h
theorem RFs.rp (nf : NoF O H) : ∀ {v : List V} {d : List D}, RFs K H v d → Rps K aT O H v d
  | _, _, .nil => .nil
  | _, _, .cons a b => .cons (RF.rp nf a) (RFs.rp nf b)
end
mutual
def D.fz : D → Bool
  | .non => true
  | .bl _ => true
  | .int _ => true
  | .str _ => true
  | .tup ds => fzs ds
  | _ => false
def fzs : List D → Bool
  | [] => true
  | d :: ds => d.fz && fzs ds
end
mutual
theorem Rp.rf : ∀ {v : V} {d : D}, Rp K aT O H v d → d.fz = true → RF K H v d
  | _, _, .non, _ => .non
  | _, _, .bl b, _ => .bl b
  | _, _, .int i, _ => .int i
  | _, _, .str x, _ => .str x
  | _, _, .tup h r, z => by
    refine .tup ?_ (Rps.rf r (by simpa [D.fz] using z))
    rcases h with ⟨h, _⟩ | h
    · exact .inl h
    · exact .inr h
  | _, _, .trn _ _ _, z => by simp [D.fz] at z
  | _, _, .lst _ _ _, z => by simp [D.fz] at z
  | _, _, .dct _ _ _, z => by simp [D.fz] at z
  | _, _, .cnt, z => by simp [D.fz] at z
  | _, _, .scr _, z => by simp [D.fz] at z
  | _, _, .rcd _ _ _, z => by simp [D.fz] at z
theorem Rps.rf : ∀ {v : List V} {d : List D}, Rps K aT O H v d → fzs d = true → RFs K H v d
  | _, _, .nil, _ => .nil
  | _, _, .cons a b, z => by
    simp only [fzs, Bool.and_eq_true] at z
    exact .cons (Rp.rf a z.1) (Rps.rf b z.2)
end
/-! data without records -/
mutual
def D.nR : D → Bool
  | .rcd _ _ => false
  | .tup ds => nRs ds
  | .lst ds => nRs ds
  | .trn ds => nRs ds
  | .dct kds => nRk kds
  | _ => true
def nRs : List D → Bool
  | [] => true
  | d :: ds => d.nR && nRs ds
def nRk : List (Key × D) → Bool
  | [] => true
  | (_, d) :: ds => d.nR && nRk ds
end
/-- addresses of instances -/
def InsA (S : Addr → Prop) (H : Hp) : Prop := ∀ b, S b → ∃ C dx fs, H b = some (.ins C dx fs)
mutual
theorem Rp.plus {S : Addr → Prop} (hi : InsA S H) : ∀ {v : V} {d : D}, Rp K aT O H v d → d.nR = true → Rp K aT (fun b => O b ∨ S b) H v d
  | _, _, .non, _ => .non
  | _, _, .bl b, _ => .bl b
  | _, _, .int i, _ => .int i
  | _, _, .str x, _ => .str x
  | _, _, .tup h r, z => by
    refine .tup ?_ (Rps.plus hi r (by simpa [D.nR] using z))
    rcases h with ⟨⟨o, hd, h⟩, n⟩ | h
    · refine .inl ⟨⟨o, hd, h⟩, ?_⟩
      rintro (q | q)
      · exact n q
      · obtain ⟨C, dx, fs, e⟩ := hi _ q
        rw [h] at e; cases e
    · exact .inr h
  | _, _, .trn h n r, z => by
    refine .trn h ?_ (Rps.plus hi r (by simpa [D.nR] using z))
    rintro (q | q)
    · exact n q
    · obtain ⟨C, dx, fs, e⟩ := hi _ q
      rw [h] at e; cases e
  | _, _, .lst h n r, z => by
    refine .lst h ?_ (Rps.plus hi r (by simpa [D.nR] using z))
    rintro (q | q)
    · exact n q
    · obtain ⟨C, dx, fs, e⟩ := hi _ q
      rw [h] at e; cases e
  | _, _, .dct h n r, z => by
    refine .dct h ?_ (Rpk.plus hi r (by simpa [D.nR] using z))
    rintro (q | q)
    · exact n q
    · obtain ⟨C, dx, fs, e⟩ := hi _ q
      rw [h] at e; cases e
  | _, _, .cnt, _ => .cnt
  | _, _, .scr h, _ => by
    refine .scr ?_
    rcases h with ⟨h, n⟩ | h
    · refine .inl ⟨h, ?_⟩
      rintro (q | q)
      · exact n q
      · obtain ⟨C, dx, fs, e⟩ := hi _ q
        rcases h with h | ⟨o, h⟩ <;> (rw [h] at e; cases e)
    · exact .inr h
  | _, _, .rcd _ _ _, z => by simp [D.nR] at z
theorem Rps.plus {S : Addr → Prop} (hi : InsA S H) : ∀ {v : List V} {d : List D}, Rps K aT O H v d → nRs d = true → Rps K aT (fun b => O b ∨ S b) H v d
  | _, _, .nil, _ => .nil
  | _, _, .cons a b, z => by
    simp only [nRs, Bool.and_eq_true] at z
    exact .cons (Rp.plus hi a z.1) (Rps.plus hi b z.2)
theorem Rpk.plus {S : Addr → Prop} (hi : InsA S H) : ∀ {v : List (Key × V)} {d : List (Key × D)}, Rpk K aT O H v d → nRk d = true → Rpk K aT (fun b => O b ∨ S b) H v d
  | _, _, .nil, _ => .nil
  | _, _, .cons a b, z => by
    simp only [nRk, Bool.and_eq_true] at z
    exact .cons (Rp.plus hi a z.1) (Rpk.plus hi b z.2)
end
end
/-! ### towns -/
structure Tn where
  c : D
  h : D
  ps : List D
  cs : List D
structure TA where
  a : Addr
  dx : Addr
  p : Addr
  q : Addr
def TA.has (A : TA) (b : Addr) : Prop := b = A.a ∨ b = A.dx ∨ b = A.p ∨ b = A.q
structure TwnAt (K : PySem.W.Frag) (H : Hp) (A : TA) (t : Tn) : Prop where
  ex : ∃ C v1 v2 xs ys, TwK K C ∧ H A.a = some (.ins C A.dx [("claim", v1), ("how", v2), ("past", .ref A.p), ("calls", .ref A.q)]) ∧ H A.p = some (.lst xs) ∧ H A.q = some (.lst ys) ∧ RF K H v1 t.c ∧ RF K H v2 t.h ∧ RFs K H xs t.ps ∧ RFs K H ys t.cs
  dx : H A.dx = some (.own A.a)
  ap : A.a ≠ A.p
  aq : A.a ≠ A.q
  pq : A.p ≠ A.q
/-- a town stays where its objects do -/
theorem TwnAt.mono {K : PySem.W.Frag} {H H' : Hp} {A : TA} {t : Tn} (h : TwnAt K H A t) (z : Fz H H') (k : ∀ b u, A.has b → H b = some u → H' b = some u) : TwnAt K H' A t := by
  obtain ⟨C, v1, v2, xs, ys, c, e1, e2, e3, r1, r2, r3, r4⟩ := h.ex
  exact ⟨⟨C, v1, v2, xs, ys, c, k _ _ (.inl rfl) e1, k _ _ (.inr (.inr (.inl rfl))) e2, k _ _ (.inr (.inr (.inr rfl))) e3, r1.mono z, r2.mono z, r3.mono z, r4.mono z⟩, k _ _ (.inr (.inl rfl)) h.dx, h.ap, h.aq, h.pq⟩
end DL

set_option Elab.async false
set_option linter.all false
set_option maxRecDepth 100000
set_option maxHeartbeats 4000000
namespace DL
open PySem PySem.Spec PyProof.Rows L2
/-! ### frames with towns -/
def ExT (aT : Addr) (as : List TA) (H H' : Hp) : Prop := ∀ b u, b ≠ aT → (∀ A ∈ as, ¬ A.has b) → H b = some u → H' b = some u
theorem ExT.refl {aT : Addr} {as : List TA} {H : Hp} : ExT aT as H H := fun _ _ _ _ h => h
theorem ExT.trans {aT : Addr} {as : List TA} {H H1 H2 : Hp} (a : ExT aT as H H1) (b : ExT aT as H1 H2) : ExT aT as H H2 := fun x u n m h => b x u n m (a x u n m h)
theorem Ex1.t {aT : Addr} {as : List TA} {H H' : Hp} (e : Ex1 aT H H') : ExT aT as H H' := fun b u n _ h => e b u n h
structure StT (K : PySem.W.Frag) (aT : Addr) (Oc : Addr → Prop) (H : Hp) (σ : St) (ρ : Ev) (n : Nat) (as : List TA) (ts : List Tn) : Prop where
  st : StE K aT Oc H σ ρ n
  nf : NoF Oc H
  tw : Paired (TwnAt K H) as ts
  oc : ∀ A ∈ as, ∀ b, A.has b → Oc b
  nT : ∀ A ∈ as, ¬ A.has aT
  dj : as.Pairwise fun A B => ∀ b, A.has b → ¬ B.has b
  ix : ∀ (i k : Nat) (a : Addr), ρ[i]? = some (.tw k a) → ∃ A, as[k]? = some A ∧ A.a = a
section
variable {K : PySem.W.Frag} {aT : Addr} {Oc : Addr → Prop} {H H' : Hp} {σ : St} {ρ : Ev} {n n' : Nat} {as : List TA} {ts : List Tn}
theorem StE.nfO (s : StE K aT Oc H σ ρ n) (nf : NoF Oc H) : NoF (Oo Oc σ ρ) H := fun b h o u e => by
  rcases h with h | ⟨i, d, h1, h2⟩
  · exact nf b h o u e
  · obtain ⟨a, g1, _, g3⟩ := s.ow i d h1
    rw [h2] at g1
    cases g1
    cases d <;> try exact g3.elim
    · obtain ⟨xs, q, _⟩ := g3; rw [e] at q; cases q
    · obtain ⟨xs, q, _⟩ := g3; rw [e] at q; cases q
theorem pairedGet {α β : Type} {R : α → β → Prop} {xs : List α} {ys : List β} (p : Paired R xs ys) {i : Nat} {y : β} (h : ys[i]? = some y) : ∃ x, xs[i]? = some x ∧ R x y := paired_get p h
theorem pairedGetL {α β : Type} {R : α → β → Prop} : ∀ {xs : List α} {ys : List β}, Paired R xs ys → ∀ {i : Nat} {x : α}, xs[i]? = some x → ∃ y, ys[i]? = some y ∧ R x y
  | _, _, .nil, i, y, h => by simp at h
  | _, _, .cons r _, 0, y, h => by simp at h; subst h; exact ⟨_, rfl, r⟩
  | _, _, .cons _ p, i + 1, y, h => by
    obtain ⟨x, h1, h2⟩ := pairedGetL p (i := i) (x := y) (by simpa using h)
    exact ⟨x, by simpa using h1, h2⟩
/-! the view -/
def vwS (ts : List Tn) : Sl → Sl
  | .tw k _ => match ts[k]? with
    | some t => .sh (.rcd t.c t.h)
    | none => .no
  | .no => .no
  | .sh d => .sh d
  | .ow d => .ow d
def vwE (ts : List Tn) (ρ : Ev) : Ev := ρ.map (vwS ts)
def OcS (Oc : Addr → Prop) (as : List TA) : Addr → Prop := fun b => Oc b ∧ ∀ A ∈ as, b ≠ A.a
theorem vw_ow {i : Nat} {d : D} : (vwE ts ρ)[i]? = some (.ow d) ↔ ρ[i]? = some (.ow d) := by
  unfold vwE
  rw [List.getElem?_map]
  cases h : ρ[i]? with
  | none => simp
  | some w =>
    cases w with
    | tw k a =>
      simp only [Option.map_some, vwS]
      cases ts[k]? <;> simp
    | _ => simp [vwS]
theorem vw_Oo {b : Addr} (h : Oo (OcS Oc as) σ (vwE ts ρ) b) : Oo Oc σ ρ b := by
  rcases h with h | ⟨i, d, h1, h2⟩
  · exact .inl h.1
  · exact .inr ⟨i, d, vw_ow.mp h1, h2⟩
theorem StT.view (s : StT K aT Oc H σ ρ n as ts) : StE K aT (OcS Oc as) H σ (vwE ts ρ) n := by
  have k : Kp (Oo Oc σ ρ) H (Oo (OcS Oc as) σ (vwE ts ρ)) H := Kp.anti fun b h => vw_Oo h
  refine ⟨s.st.tw, ⟨s.st.oT, fun A hA e => s.nT A hA (.inl e)⟩, fun b hb => s.st.dom b hb.1, by simp [vwE, s.st.len], fun i d h => ?_, fun i d h => ?_, fun i j d e a h1 h2 => s.st.inj i j d e a (vw_ow.mp h1) (vw_ow.mp h2), fun i j a h => ?_⟩
  · unfold vwE at h
    rw [List.getElem?_map] at h
    obtain ⟨w, hw, e⟩ := Option.map_eq_some_iff.mp h
    cases w with
    | no => cases e
    | ow d => cases e
    | sh d =>
      cases e
      obtain ⟨v, h1, h2⟩ := s.st.sh i d hw
      exact ⟨v, h1, h2.mono k⟩
    | tw j a =>
      simp only [vwS] at e
      cases ht : ts[j]? with
      | none => rw [ht] at e; cases e
      | some t =>
        rw [ht] at e
        cases e
        obtain ⟨A, hA, rfl⟩ := s.ix i j a hw
        obtain ⟨A', hA', tw⟩ := pairedGet s.tw ht
        rw [hA] at hA'
        cases hA'
        have hm : A ∈ as := List.mem_of_getElem? hA
        obtain ⟨C, v1, v2, xs, ys, c, e1, e2, e3, r1, r2, r3, r4⟩ := tw.ex
        have nf : NoF (Oo (OcS Oc as) σ (vwE ts ρ)) H := fun b hb => s.st.nfO s.nf b (vw_Oo hb)
        refine ⟨.ref A.a, s.st.ad i j _ hw, .rcd ⟨C, A.dx, A.p, A.q, c, e1, ?_⟩ (r1.rp nf) (r2.rp nf)⟩
        rintro (z | ⟨l, d, z1, z2⟩)
        · exact z.2 A hm rfl
        · obtain ⟨b, g1, g2, _⟩ := s.st.ow l d (vw_ow.mp z1)
          rw [z2] at g1
          cases g1
          exact g2 (s.oc A hm _ (.inl rfl))
  · obtain ⟨a, h1, h2, h3⟩ := s.st.ow i d (vw_ow.mp h)
    exact ⟨a, h1, fun z => h2 z.1, h3.mono k fun u q => q⟩
  · unfold vwE at h
    rw [List.getElem?_map] at h
    obtain ⟨w, hw, e⟩ := Option.map_eq_some_iff.mp h
    cases w with
    | tw l b => simp only [vwS] at e; cases hq : ts[l]? <;> rw [hq] at e <;> cases e
    | _ => cases e
theorem Ex1.fz (e : Ex1 aT H H') (t : Tw aT H n) : Fz H H' := fun b o u h => e b _ (fun z => by rw [z, t.1] at h; cases h) h
theorem StT.step (s : StT K aT Oc H σ ρ n as ts) (e : Ex1 aT H H') (t : Tw aT H' n') : StT K aT Oc H' σ ρ n' as ts := by
  refine ⟨s.st.step e t, fun b hb o u q => ?_, ?_, s.oc, s.nT, s.dj, s.ix⟩
  · by_cases z : b = aT
    · rw [z, t.1] at q; cases q
    · cases hq : H b with
      | none => exact s.st.dom b hb hq
      | some w =>
        have := e b w z hq
        rw [q] at this
        cases this
        exact s.nf b hb o u hq
  · have hz := e.fz s.st.tw
    have hall : ∀ A ∈ as, ∀ b u, A.has b → H b = some u → H' b = some u := fun A hA b u hb q => e b u (fun z => s.nT A hA (by rw [← z]; exact hb)) q
    have := s.tw
    clear s
    induction this with
    | nil => exact .nil
    | cons r _ ih => exact .cons (r.mono hz (hall _ List.mem_cons_self)) (ih fun A hA => hall A (List.mem_cons_of_mem _ hA))
/-- any change of what is locked -/
theorem StE.locked (s : StE K aT Oc H σ ρ n) (e : ∀ b u, ¬ Oc b → H b = some u → H' b = some u) (dm : ∀ b, Oc b → H' b ≠ none) (t : Tw aT H' n') : StE K aT Oc H' σ ρ n' := by
  have k : Kp (Oo Oc σ ρ) H (Oo Oc σ ρ) H' := fun a u q na => ⟨e a u (fun z => na (.inl z)) q, na⟩
  refine ⟨t, s.oT, dm, s.len, fun i d h => ?_, fun i d h => ?_, s.inj, s.ad⟩
  · obtain ⟨v, h1, h2⟩ := s.sh i d h
    exact ⟨v, h1, h2.mono k⟩
  · obtain ⟨a, h1, h2, h3⟩ := s.ow i d h
    exact ⟨a, h1, h2, h3.mono k fun u q => e a u h2 q⟩
/-- one town is changed -/
theorem StT.turn (s : StT K aT Oc H σ ρ n as ts) {k : Nat} {A : TA} {t' : Tn} (hA : as[k]? = some A) (e : ExT aT [A] H H') (tt : Tw aT H' n') (h : TwnAt K H' A t') : StT K aT Oc H' σ ρ n' as (ts.set k t') := by
  have hm : A ∈ as := List.mem_of_getElem? hA
  have e1 : ∀ b u, b ≠ aT → ¬ A.has b → H b = some u → H' b = some u := fun b u n1 n2 q => e b u n1 (fun B hB => by
    simp only [List.mem_singleton] at hB
    subst hB
    exact n2) q
  have at' : ∀ b, A.has b → ∃ u, H' b = some u ∧ ∀ o w, u ≠ .frz o w := fun b hb => by
    obtain ⟨C, v1, v2, xs, ys, c, q1, q2, q3, _⟩ := h.ex
    rcases hb with rfl | rfl | rfl | rfl
    · exact ⟨_, q1, fun _ _ z => by cases z⟩
    · exact ⟨_, h.dx, fun _ _ z => by cases z⟩
    · exact ⟨_, q2, fun _ _ z => by cases z⟩
    · exact ⟨_, q3, fun _ _ z => by cases z⟩
  have old : ∀ b, A.has b → ∃ u, H b = some u ∧ ∀ o w, u ≠ .frz o w := fun b hb => by
    cases hq : H b with
    | none => exact absurd hq (s.st.dom b (s.oc A hm b hb))
    | some u => exact ⟨u, rfl, fun o w z => s.nf b (s.oc A hm b hb) o w (by rw [hq, z])⟩
  have dm : ∀ b, Oc b → H' b ≠ none := fun b hb => by
    by_cases z : b = aT
    · rw [z, tt.1]; intro q; cases q
    · by_cases y : A.has b
      · obtain ⟨u, q, _⟩ := at' b y
        rw [q]; intro q; cases q
      · cases hq : H b with
        | none => exact absurd hq (s.st.dom b hb)
        | some u => rw [e1 b u z y hq]; intro q; cases q
  have hz : Fz H H' := fun b o u q => e1 b _ (fun z => by rw [z, s.st.tw.1] at q; cases q) (fun y => by
    obtain ⟨w, g1, g2⟩ := old b y
    rw [q] at g1
    cases g1
    exact g2 o u rfl) q
  refine ⟨s.st.locked (fun b u nb q => e1 b u (fun z => nb (by rw [z]; exact s.st.oT)) (fun y => nb (s.oc A hm b y)) q) dm tt, fun b hb o u q => ?_, ?_, s.oc, s.nT, s.dj, s.ix⟩
  · by_cases z : b = aT
    · rw [z, tt.1] at q; cases q
    · by_cases y : A.has b
      · obtain ⟨w, g1, g2⟩ := at' b y
        rw [q] at g1
        cases g1
        exact g2 o u rfl
      · cases hq : H b with
        | none => exact s.st.dom b hb hq
        | some w =>
          have := e1 b w z y hq
          rw [q] at this
          cases this
          exact s.nf b hb o u hq
  · have key : ∀ (as : List TA) (ts : List Tn) (k : Nat), Paired (TwnAt K H) as ts → as[k]? = some A → (∀ B ∈ as, ¬ B.has aT) → as.Pairwise (fun A B => ∀ b, A.has b → ¬ B.has b) → Paired (TwnAt K H') as (ts.set k t') := by
      intro as
      induction as with
      | nil => intro ts k _ h; simp at h
      | cons B as ih =>
        intro ts k p hk nT dj
        cases p with
        | cons r p =>
          rename_i t0 ts0
          obtain ⟨d1, d2⟩ := List.pairwise_cons.mp dj
          cases k with
          | zero =>
            simp at hk
            subst hk
            refine .cons h ?_
            have : ∀ (bs : List TA) (us : List Tn), Paired (TwnAt K H) bs us → (∀ E ∈ bs, ∀ b, B.has b → ¬ E.has b) → (∀ E ∈ bs, ¬ E.has aT) → Paired (TwnAt K H') bs us := by
              intro bs us p
              induction p with
              | nil => intro _ _; exact .nil
              | cons r _ ih => intro g1 g2; exact .cons (r.mono hz fun b u hb q => e1 b u (fun z => g2 _ List.mem_cons_self (by rw [← z]; exact hb)) (fun y => g1 _ List.mem_cons_self b y hb) q) (ih (fun E hE => g1 E (List.mem_cons_of_mem _ hE)) fun E hE => g2 E (List.mem_cons_of_mem _ hE))
            exact this as ts0 p d1 fun E hE => nT E (List.mem_cons_of_mem _ hE)
          | succ k =>
            have hk : as[k]? = some A := by simpa using hk
            refine .cons (r.mono hz fun b u hb q => e1 b u (fun z => nT B List.mem_cons_self (by rw [← z]; exact hb)) (fun y => d1 A (List.mem_of_getElem? hk) b hb y) q) ?_
            exact ih ts0 k p hk (fun E hE => nT E (List.mem_cons_of_mem _ hE)) d2
    exact key as ts k s.tw hA s.nT s.dj
end
end DL

set_option Elab.async false
set_option linter.all false
set_option maxRecDepth 100000
set_option maxHeartbeats 4000000
namespace DL
open PySem PySem.Spec PyProof.Rows L2
/-! ### expressions over frames with towns -/
inductive Xr (α : Type) where
  | v (a : α)
  | x (c : Str)
abbrev TR (α : Type) := Rs (Xr α × List Tn)
abbrev TF (α : Type) := Ev → Nat → List Tn → TR α
def Rs.bnd {α β : Type} (r : TR α) (k : α → Nat → List Tn → TR β) : TR β := match r with
  | .ok (.v a, ts) n => k a n ts
  | .ok (.x c, ts) n => .ok (.x c, ts) n
  | .ex _ _ => .no
  | .no => .no
  | .amb f => .amb fun i => Rs.bnd (f i) k
def Rs.lft {α : Type} (ts : List Tn) (r : Rs α) : TR α := match r with
  | .ok a n => .ok (.v a, ts) n
  | .ex c n => .ok (.x c, ts) n
  | .no => .no
  | .amb f => .amb fun i => Rs.lft ts (f i)
def Rs.twn {α : Type} (ts : List Tn) (k : Nat) (r : Rs (Xr α × Tn)) : TR α := match r with
  | .ok (a, t) n => .ok (a, ts.set k t) n
  | .ex _ _ => .no
  | .no => .no
  | .amb f => .amb fun i => Rs.twn ts k (f i)
def GoTAt {α β : Type} (X : Cx) (W : WX) (R : Hp → Hp → β → α → Prop) (aT : Addr) (Oc : Addr → Prop) (σ : St) (ρ : Ev) (as : List TA) (H : Hp) (Q : β → Hp → Prop) : TR α → Prop
  | .ok (.v d, ts') n' => ∀ v H', ExT aT as H H' → StT X.K aT Oc H' σ ρ n' as ts' → R H H' v d → Q v H'
  | .ok (.x c, ts') n' => ∃ u, X.mg c = some u ∧ ∀ H', ExT aT as H H' → StT X.K aT Oc H' σ ρ n' as ts' → W u none σ H'
  | .ex _ _ => False
  | .no => False
  | .amb f => ∀ b, GoTAt X W R aT Oc σ ρ as H Q (f b)
def GoT {α β : Type} (X : Cx) (W : WX) (R : Rl β α) (f : TF α) (σ : St) (H : Hp) (Q : β → Hp → Prop) : Prop :=
  ∃ (aT : Addr) (Oc : Addr → Prop) (ρ : Ev) (n : Nat) (as : List TA) (ts : List Tn), StT X.K aT Oc H σ ρ n as ts ∧ GoTAt X W (R aT (Oo Oc σ ρ)) aT Oc σ ρ as H Q (f ρ n ts)
def TEx (X : Cx) (W : WX) (e : Expr) (f : TF D) : Prop := PE X e (GoT X W (RpX X) f)
def TTs (X : Cx) (W : WX) (e : Expr) (f : TF Bool) : Prop := PT X e (GoT X W RtX f)
/-- what is seen -/
def eV (f : SE) : TF D := fun ρ n ts => ((f (vwE ts ρ) n).lft ts).bnd fun d n1 ts => if d.nR = true then .ok (.v d, ts) n1 else .no
def tV (f : ST) : TF Bool := fun ρ n ts => (f (vwE ts ρ) n).lft ts
section
variable {X : Cx} {W : WX} {e o : Expr} {es : List Expr} {pos apos p : Pos}
theorem StT.insA {K : PySem.W.Frag} {aT : Addr} {Oc : Addr → Prop} {H : Hp} {σ : St} {ρ : Ev} {n : Nat} {as : List TA} {ts : List Tn} (s : StT K aT Oc H σ ρ n as ts) : InsA (fun b => ∃ A ∈ as, b = A.a) H := fun b hb => by
  obtain ⟨A, hA, rfl⟩ := hb
  obtain ⟨i, hi⟩ := List.mem_iff_getElem?.mp hA
  obtain ⟨t, _, tw⟩ := pairedGetL s.tw hi
  obtain ⟨C, v1, v2, xs, ys, c, q1, _⟩ := tw.ex
  exact ⟨_, _, _, q1⟩
theorem StT.back {K : PySem.W.Frag} {aT : Addr} {Oc : Addr → Prop} {H : Hp} {σ : St} {ρ : Ev} {n : Nat} {as : List TA} {ts : List Tn} (s : StT K aT Oc H σ ρ n as ts) {v : V} {d : D} (r : Rp K aT (Oo (OcS Oc as) σ (vwE ts ρ)) H v d) (h : d.nR = true) : Rp K aT (Oo Oc σ ρ) H v d := by
  refine (r.plus s.insA h).mono (Kp.anti fun b hb => ?_)
  rcases hb with hb | ⟨i, d, h1, h2⟩
  · by_cases z : ∃ A ∈ as, b = A.a
    · exact .inr z
    · exact .inl (.inl ⟨hb, fun A hA q => z ⟨A, hA, q⟩⟩)
  · exact .inl (.inr ⟨i, d, vw_ow.mpr h1, h2⟩)
theorem te_view {f : SE} (he : DE X W e f) : TEx X W e (eV f) := PE.imp he fun σ H Q h => by
  obtain ⟨aT, Oc, ρ, n, as, ts, s, h⟩ := h
  refine ⟨aT, OcS Oc as, vwE ts ρ, n, s.view, ?_⟩
  unfold eV at h
  generalize f (vwE ts ρ) n = r at h ⊢
  induction r with
  | ok d n1 =>
    intro v H' e t r
    have h : GoTAt X W (RpX X aT (Oo Oc σ ρ)) aT Oc σ ρ as H Q (if d.nR = true then .ok (.v d, ts) n1 else .no) := h
    by_cases hd : d.nR = true
    · rw [if_pos hd] at h
      have s' := s.step e t
      exact h v H' e.t s' (s'.back r hd)
    · rw [if_neg hd] at h
      exact h.elim
  | ex c n1 =>
    obtain ⟨u, q, h⟩ := h
    exact ⟨u, q, fun H' e t => h H' e.t (s.step e t)⟩
  | no => exact h
  | amb f ih => exact fun b => ih b (h b)
theorem tt_view {f : ST} (he : DT X W e f) : TTs X W e (tV f) := PT.imp he fun σ H Q h => by
  obtain ⟨aT, Oc, ρ, n, as, ts, s, h⟩ := h
  refine ⟨aT, OcS Oc as, vwE ts ρ, n, s.view, ?_⟩
  unfold tV at h
  generalize f (vwE ts ρ) n = r at h ⊢
  induction r with
  | ok d n1 => exact fun v H' e t r => h v H' e.t (s.step e t) r
  | ex c n1 =>
    obtain ⟨u, q, h⟩ := h
    exact ⟨u, q, fun H' e t => h H' e.t (s.step e t)⟩
  | no => exact h
  | amb f ih => exact fun b => ih b (h b)
/-! ### defs that change a town, handed as the first -/
def SpTO (K : PySem.W.Frag) (mg : Str → Option Value) (aT : Addr) (Oc : Addr → Prop) (A : TA) (H : Hp) (Q : VK) (E : XK) : Rs (Xr D × Tn) → Prop
  | .ok (.v d, t') n' => ∀ v H', ExT aT [A] H H' → Tw aT H' n' → TwnAt K H' A t' → Rp K aT Oc H' v d → Q v H'
  | .ok (.x c, t') n' => ∃ u, mg c = some u ∧ ∀ H', ExT aT [A] H H' → Tw aT H' n' → TwnAt K H' A t' → E u none H'
  | .ex _ _ => False
  | .no => False
  | .amb f => ∀ b, SpTO K mg aT Oc A H Q E (f b)
abbrev TG1 := Addr → Tn → List D → Nat → Rs (Xr D × Tn)
def spT (K : PySem.W.Frag) (mg : Str → Option Value) (ar : Nat) (g : TG1) : Sp := fun vs H Q E => ∃ (aT : Addr) (Oc : Addr → Prop) (us : List V) (ds : List D) (n : Nat) (A : TA) (t : Tn),
  vs = V.ref A.a :: us ∧ Tw aT H n ∧ Oc aT ∧ (∀ b, Oc b → H b ≠ none) ∧ NoF Oc H ∧ TwnAt K H A t ∧ (∀ b, A.has b → Oc b) ∧ ¬ A.has aT ∧ Rps K aT Oc H us ds ∧ ds.length = ar ∧ SpTO K mg aT Oc A H Q E (g A.a t ds n)
structure CalTM (P : Program) (w : World) (K : PySem.W.Frag) (mg : Str → Option Value) (base : Heap) (k : Nat) (m : Str) (ar : Nat) (g : TG1) : Prop where
  ex : ∃ (C f : Addr) (fd : FuncData) (ps : List Str), TwK K C ∧ Meth K C m f ∧ FnOk P w K mg base (L2N.CX P w) k f fd ps (spT K mg ar g) ∧ Binds K fd ps []
structure CalTD (P : Program) (w : World) (K : PySem.W.Frag) (mg : Str → Option Value) (base : Heap) (k : Nat) (x : Str) (ar : Nat) (g : TG1) : Prop where
  ex : ∃ (f : Addr) (fd : FuncData) (ps : List Str), FnOk P w K mg base (L2N.CX P w) k f fd ps (spT K mg ar g) ∧ mg x = some (.ref f) ∧ PySem.W.keepIn K (.ref f) = true ∧ Binds K fd ps []
/-- a town's slot, its number and its state -/
def twnOf (i : Nat) (ρ : Ev) (ts : List Tn) : Option (Nat × Addr × Tn) := match ρ[i]? with
  | some (.tw k a) => (ts[k]?).map fun t => (k, a, t)
  | _ => none
def eTM (i ar : Nat) (g : TG1) (fa : SA) : TF D := fun ρ n ts => match twnOf i ρ ts with
  | some (k, a, t) => ((fa (vwE ts ρ) n).lft ts).bnd fun ds n1 ts => if ds.length = ar ∧ nRs ds = true then (g a t ds n1).twn ts k else .no
  | none => .no
theorem twnOf_some {K : PySem.W.Frag} {aT : Addr} {Oc : Addr → Prop} {H : Hp} {σ : St} {ρ : Ev} {n : Nat} {as : List TA} {ts : List Tn} (s : StT K aT Oc H σ ρ n as ts) {i k : Nat} {a : Addr} {t : Tn} (h : twnOf i ρ ts = some (k, a, t)) : ∃ A, A.a = a ∧ as[k]? = some A ∧ ts[k]? = some t ∧ σ[i]? = some (some (.ref A.a)) ∧ TwnAt K H A t := by
  unfold twnOf at h
  split at h
  case h_2 => cases h
  rename_i k' a hi
  obtain ⟨t', ht, e⟩ := Option.map_eq_some_iff.mp h
  cases e
  obtain ⟨A, hA, rfl⟩ := s.ix i k _ hi
  obtain ⟨A', hA', tw⟩ := pairedGet s.tw ht
  rw [hA] at hA'
  cases hA'
  exact ⟨A, rfl, hA, ht, s.st.ad i k _ hi, tw⟩
theorem StT.backs {K : PySem.W.Frag} {aT : Addr} {Oc : Addr → Prop} {H : Hp} {σ : St} {ρ : Ev} {n : Nat} {as : List TA} {ts : List Tn} (s : StT K aT Oc H σ ρ n as ts) : ∀ {v : List V} {d : List D}, Rps K aT (Oo (OcS Oc as) σ (vwE ts ρ)) H v d → nRs d = true → Rps K aT (Oo Oc σ ρ) H v d
  | _, _, .nil, _ => .nil
  | _, _, .cons a b, z => by
    simp only [nRs, Bool.and_eq_true] at z
    exact .cons (s.back a z.1) (s.backs b z.2)
/-- the call itself -/
theorem spT_of {ar k : Nat} {g : TG1} {aT : Addr} {Oc : Addr → Prop} {σ : St} {ρ : Ev} {n n0 : Nat} {H H0 : Hp} {as : List TA} {ts : List Tn} {A : TA} {t : Tn} {vs : List V} {ds : List D} {Q : VK} (s0 : StT X.K aT Oc H0 σ ρ n0 as ts) (e0 : Ex1 aT H0 H) (tt : Tw aT H n) (hA : as[k]? = some A) (ht : ts[k]? = some t)
    (r : Rps X.K aT (Oo (OcS Oc as) σ (vwE ts ρ)) H vs ds) (h : GoTAt X W (RpX X aT (Oo Oc σ ρ)) aT Oc σ ρ as H0 Q (if ds.length = ar ∧ nRs ds = true then (g A.a t ds n).twn ts k else .no)) : spT X.K X.mg ar g (V.ref A.a :: vs) H Q (WE W σ) := by
  by_cases hl : ds.length = ar ∧ nRs ds = true
  case neg => rw [if_neg hl] at h; exact h.elim
  rw [if_pos hl] at h
  have s := s0.step e0 tt
  have hm : A ∈ as := List.mem_of_getElem? hA
  obtain ⟨t', ht', tw⟩ := pairedGetL s.tw hA
  rw [ht] at ht'
  cases ht'
  refine ⟨aT, Oo Oc σ ρ, vs, ds, n, A, t, rfl, tt, .inl s.st.oT, s.st.domO, s.st.nfO s.nf, tw, fun b hb => .inl (s.oc A hm b hb), s.nT A hm, s.backs r hl.2, hl.1, ?_⟩
  have one : ∀ {H'}, ExT aT [A] H H' → ExT aT as H0 H' := fun e b u n1 n2 q => e b u n1 (fun B hB => by
    simp only [List.mem_singleton] at hB
    subst hB
    exact n2 _ hm) (e0 b u n1 q)
  generalize g A.a t ds n = r0 at h ⊢
  induction r0 with
  | ok d n' =>
    obtain ⟨d, t'⟩ := d
    cases d with
    | v d => exact fun v H' e t1 tw' rr => h v H' (one e) (s.turn hA e t1 tw') rr
    | x c =>
      obtain ⟨u, q, h⟩ := h
      exact ⟨u, q, fun H' e t1 tw' => h H' (one e) (s.turn hA e t1 tw')⟩
  | ex c n' => exact h
  | no => exact h
  | amb f ih => exact fun b => ih b (h b)
theorem te_meth (i : Nat) {k j ar : Nat} {m x : Str} {g : TG1} {fa : SA} (c : CalTM X.prog X.w X.K X.mg X.base k m ar g) (hr : Room j X.A) (hk : k ≤ j) (tk : L2N.Takes X W) (ha : DA X W (e :: es) fa)
    (hN : X.N[i]? = some x := by rfl) (hv : Vis X.env.scope x := by first | exact Or.inl rfl | exact Or.inr (Or.inl rfl) | exact Or.inr (Or.inr rfl)) (hd : (x == ("__debug__" : Str)) = false := by decide) (hcd : (x == ("__classdict__" : Str)) = false := by decide)
    (hl : ∀ v1 v2 v3 v4 : V, List.lookup m [((Str.ofString "claim"), v1), ((Str.ofString "how"), v2), ((Str.ofString "past"), v3), ((Str.ofString "calls"), v4)] = none := by intros; rfl)
    {pl : Sem Bool} (hst : starEach (e :: es) X.env = (false, eval e X.env) :: starEach es X.env := by rfl) (hpl : (backTo pos (starEach es X.env)).any (·.1) = false := by rfl)
    (ht : eval (.Call (.Attribute (.Name x p) m apos) (e :: es) [] pos) X.env = (do
      let ov ← eval (.Name x p) X.env
      standAt apos.atName
      let (f, first) ← holding [ov] (getMethod ov m pl)
      callWith pos f first (backTo pos (starEach (e :: es) X.env)) (backToKw pos (keywordEach [] X.env))) := by rfl) :
    TEx X W (.Call (.Attribute (.Name x p) m apos) (e :: es) [] pos) (eTM i ar g fa) := by
  obtain ⟨C, f, fd, ps, hcl, hm, F, hb⟩ := c.ex
  refine PE.imp (pe_methE (E := WE W) (pl := pl) (pe_var hN hv hd hcd) hcl.cls hm F (hr.mono hk) hb (fun σ => L2N.passAt tk σ) ha hst hpl ht) fun σ H Q h => ?_
  obtain ⟨aT, Oc, ρ, n, as, ts, s, h⟩ := h
  unfold eTM at h
  cases hw : twnOf i ρ ts with
  | none => rw [hw] at h; exact h.elim
  | some kt =>
    obtain ⟨k, a0, t⟩ := kt
    rw [hw] at h
    obtain ⟨A, rfl, hA, hts, hσ, tw⟩ := twnOf_some s hw
    obtain ⟨C', v1, v2, xs, ys, c', q1, _⟩ := tw.ex
    have : C' = C := by
      have := c'.own.symm.trans hcl.own
      cases this
      rfl
    subst this
    refine ⟨.ref A.a, hσ, A.a, A.dx, _, rfl, q1, hl _ _ _ _, ?_⟩
    refine ⟨aT, OcS Oc as, vwE ts ρ, n, s.view, ?_⟩
    generalize fa (vwE ts ρ) n = r at h ⊢
    induction r with
    | ok ds n1 => exact fun vs H1 e t1 r1 => spT_of s e t1 hA hts r1 h
    | ex c n1 =>
      obtain ⟨u, q, h⟩ := h
      exact ⟨u, q, fun H' e t => h H' e.t (s.step e t)⟩
    | no => exact h
    | amb f ih => exact fun b => ih b (h b)
theorem te_meth0 (i : Nat) {k j : Nat} {m x : Str} {g : TG1} (c : CalTM X.prog X.w X.K X.mg X.base k m 0 g) (hr : Room j X.A) (hk : k ≤ j) (tk : L2N.Takes X W)
    (hN : X.N[i]? = some x := by rfl) (hv : Vis X.env.scope x := by first | exact Or.inl rfl | exact Or.inr (Or.inl rfl) | exact Or.inr (Or.inr rfl)) (hd : (x == ("__debug__" : Str)) = false := by decide) (hcd : (x == ("__classdict__" : Str)) = false := by decide)
    (hl : ∀ v1 v2 v3 v4 : V, List.lookup m [((Str.ofString "claim"), v1), ((Str.ofString "how"), v2), ((Str.ofString "past"), v3), ((Str.ofString "calls"), v4)] = none := by intros; rfl)
    {pl : Sem Bool} (ht : eval (.Call (.Attribute (.Name x p) m apos) [] [] pos) X.env = (do
      let ov ← eval (.Name x p) X.env
      standAt apos.atName
      let (f, first) ← holding [ov] (getMethod ov m pl)
      callWith pos f first (backTo pos (starEach [] X.env)) (backToKw pos (keywordEach [] X.env))) := by rfl) :
    TEx X W (.Call (.Attribute (.Name x p) m apos) [] [] pos) (eTM i 0 g eNil) := by
  obtain ⟨C, f, fd, ps, hcl, hm, F, hb⟩ := c.ex
  refine PE.imp (pe_methE0 (E := WE W) (pl := pl) (pe_var hN hv hd hcd) hcl.cls hm F (hr.mono hk) hb (fun σ => L2N.passAt tk σ) ht) fun σ H Q h => ?_
  obtain ⟨aT, Oc, ρ, n, as, ts, s, h⟩ := h
  unfold eTM at h
  cases hw : twnOf i ρ ts with
  | none => rw [hw] at h; exact h.elim
  | some kt =>
    obtain ⟨k, a0, t⟩ := kt
    rw [hw] at h
    obtain ⟨A, rfl, hA, hts, hσ, tw⟩ := twnOf_some s hw
    obtain ⟨C', v1, v2, xs, ys, c', q1, _⟩ := tw.ex
    have : C' = C := by
      have := c'.own.symm.trans hcl.own
      cases this
      rfl
    subst this
    refine ⟨.ref A.a, hσ, A.a, A.dx, _, rfl, q1, hl _ _ _ _, ?_⟩
    exact spT_of s .refl s.st.tw hA hts .nil h
/-- f(place, ..) -/
theorem te_call (i : Nat) {k j ar : Nat} {x y : Str} {g : TG1} {fa : SA} {p2 : Pos} (c : CalTD X.prog X.w X.K X.mg X.base k y ar g) (hr : Room j X.A) (hk : k ≤ j) (tk : L2N.Takes X W) (ha : DA X W es fa)
    (hN : X.N[i]? = some x := by rfl) (hv : Vis X.env.scope x := by first | exact Or.inl rfl | exact Or.inr (Or.inl rfl) | exact Or.inr (Or.inr rfl)) (hd : (x == ("__debug__" : Str)) = false := by decide) (hcd : (x == ("__classdict__" : Str)) = false := by decide)
    (hg : Gl X y := by rfl) (hdb : (y == ("__debug__" : Str)) = false := by decide)
    (he : starEach (.Name x p :: es) X.env = (false, eval (.Name x p) X.env) :: starEach es X.env := by rfl) (hpl : (backTo pos (starEach es X.env)).any (·.1) = false := by rfl) :
    TEx X W (.Call (.Name y p2) (.Name x p :: es) [] pos) (eTM i ar g fa) := by
  obtain ⟨f, fd, ps, F, hm, hkp, hb⟩ := c.ex
  refine PE.imp (pe_callS F (hr.mono hk) hg hm hkp hb (fun σ => L2N.passAt tk σ) (pa_cons (pe_var hN hv hd hcd) ha he) hdb he hpl) fun σ H Q h => ?_
  obtain ⟨aT, Oc, ρ, n, as, ts, s, h⟩ := h
  unfold eTM at h
  cases hw : twnOf i ρ ts with
  | none => rw [hw] at h; exact h.elim
  | some kt =>
    obtain ⟨k, a0, t⟩ := kt
    rw [hw] at h
    obtain ⟨A, rfl, hA, hts, hσ, tw⟩ := twnOf_some s hw
    refine ⟨.ref A.a, hσ, ?_⟩
    refine ⟨aT, OcS Oc as, vwE ts ρ, n, s.view, ?_⟩
    generalize fa (vwE ts ρ) n = r at h ⊢
    induction r with
    | ok ds n1 => exact fun vs H1 e t1 r1 => spT_of s e t1 hA hts r1 h
    | ex c n1 =>
      obtain ⟨u, q, h⟩ := h
      exact ⟨u, q, fun H' e t => h H' e.t (s.step e t)⟩
    | no => exact h
    | amb f ih => exact fun b => ih b (h b)
end
end DL

set_option Elab.async false
set_option linter.all false
set_option maxRecDepth 100000
set_option maxHeartbeats 4000000
namespace DL
open PySem PySem.Spec PyProof.Rows L2
/-! ### statements over frames with towns -/
structure StU (K : PySem.W.Frag) (aT : Addr) (Oc0 Oc : Addr → Prop) (H0 H : Hp) (σ : St) (ρ : Ev) (n : Nat) (as0 as : List TA) (ts : List Tn) : Prop where
  t : StT K aT Oc H σ ρ n as ts
  ex : ExT aT as0 H0 H
  nw : ∀ (i : Nat) (d : D) (a : Addr), ρ[i]? = some (.ow d) → σ[i]? = some (some (.ref a)) → H0 a = none
  sub : ∀ b, Oc0 b → Oc b
  d0 : ∀ b, Oc0 b → H0 b ≠ none
  pre : ∃ more, as = as0 ++ more
  nt : ∀ A ∈ as, A ∈ as0 ∨ ∀ b, A.has b → H0 b = none
/-- the towns handed in, behind -/
def TwsAt (K : PySem.W.Frag) (H : Hp) (as0 : List TA) (ts : List Tn) : Prop := Paired (TwnAt K H) as0 (ts.take as0.length)
def GoU1 (K : PySem.W.Frag) (mg : Str → Option Value) (W : WX) (aT : Addr) (Oc0 : Addr → Prop) (H0 : Hp) (as0 : List TA) (H : Hp) (O : Addr → Prop) (r : TR Fl) (E : Ends) : Prop := match r with
  | .ok (.v (.nx ρ'), ts') n' => ∀ σ' H' Oc' as', Kp O H (Oo Oc' σ' ρ') H' → StU K aT Oc0 Oc' H0 H' σ' ρ' n' as0 as' ts' → E.nx σ' H'
  | .ok (.v (.rt d), ts') n' => ∀ v H', ExT aT as0 H0 H' → Tw aT H' n' → TwsAt K H' as0 ts' → Rp K aT Oc0 H' v d → E.rt v H'
  | .ok (.x c, ts') n' => ∃ u, mg c = some u ∧ ∀ σ' H', ExT aT as0 H0 H' → Tw aT H' n' → TwsAt K H' as0 ts' → W u none σ' H'
  | .ex _ _ => False
  | .no => False
  | .amb f => ∀ b, GoU1 K mg W aT Oc0 H0 as0 H O (f b) E
def GoU (X : Cx) (W : WX) (F : TF Fl) : TS := fun E σ H => ∃ (aT : Addr) (Oc0 Oc : Addr → Prop) (H0 : Hp) (ρ : Ev) (n : Nat) (as0 as : List TA) (ts : List Tn), StU X.K aT Oc0 Oc H0 H σ ρ n as0 as ts ∧ GoU1 X.K X.mg W aT Oc0 H0 as0 H (Oo Oc σ ρ) (F ρ n ts) E
def US (X : Cx) (W : WX) (st : Stmt) (F : TF Fl) : Prop := PS X st (GoU X W F)
def USs (X : Cx) (W : WX) (st : List Stmt) (F : TF Fl) : Prop := PSs X st (GoU X W F)
theorem GoU1.kp {K : PySem.W.Frag} {mg : Str → Option Value} {W : WX} {aT : Addr} {Oc0 : Addr → Prop} {H0 H H1 : Hp} {as0 : List TA} {O O1 : Addr → Prop} {r : TR Fl} {E : Ends} (k : Kp O H O1 H1) (h : GoU1 K mg W aT Oc0 H0 as0 H O r E) : GoU1 K mg W aT Oc0 H0 as0 H1 O1 r E := by
  induction r with
  | no => exact h
  | ex c n => exact h
  | ok f n =>
    obtain ⟨f, ts⟩ := f
    cases f with
    | x c => exact h
    | v f =>
      cases f with
      | rt d => exact h
      | nx ρ' => exact fun σ' H' Oc' as' k' s' => h σ' H' Oc' as' (k.trans k') s'
  | amb f ih => exact fun b => ih b (h b)
theorem twns_mono {K : PySem.W.Frag} {H H' : Hp} (hz : Fz H H') : ∀ {as : List TA} {ts : List Tn}, Paired (TwnAt K H) as ts → (∀ A ∈ as, ∀ b u, A.has b → H b = some u → H' b = some u) → Paired (TwnAt K H') as ts
  | _, _, .nil, _ => .nil
  | _, _, .cons r p, h => .cons (r.mono hz (h _ List.mem_cons_self)) (twns_mono hz p fun A hA => h A (List.mem_cons_of_mem _ hA))
section
variable {K : PySem.W.Frag} {aT : Addr} {Oc0 Oc : Addr → Prop} {H0 H H1 : Hp} {σ σ' : St} {ρ ρ' : Ev} {n n1 : Nat} {as0 as : List TA} {ts ts1 : List Tn}
theorem paired_take {α β : Type} {R : α → β → Prop} : ∀ {xs xs' : List α} {ys : List β}, Paired R (xs ++ xs') ys → Paired R xs (ys.take xs.length)
  | [], _, _, _ => .nil
  | _ :: _, _, _, .cons r p => .cons r (paired_take p)
theorem StU.tws (s : StU K aT Oc0 Oc H0 H σ ρ n as0 as ts) : TwsAt K H as0 ts := by
  obtain ⟨more, e⟩ := s.pre
  have := s.t.tw
  rw [e] at this
  exact paired_take this
theorem StU.exs (s : StU K aT Oc0 Oc H0 H σ ρ n as0 as ts) (e : ExT aT as H H1) : ExT aT as0 H0 H1 := fun b u n1 n2 q => e b u n1 (fun A hA hb => by
  rcases s.nt A hA with z | z
  · exact n2 A z hb
  · rw [z b hb] at q; cases q) (s.ex b u n1 n2 q)
theorem StU.go (s : StU K aT Oc0 Oc H0 H σ ρ n as0 as ts) (e : ExT aT as H H1) (t : StT K aT Oc H1 σ ρ n1 as ts1) : StU K aT Oc0 Oc H0 H1 σ ρ n1 as0 as ts1 := ⟨t, s.exs e, s.nw, s.sub, s.d0, s.pre, s.nt⟩
theorem StT.kp (s : StT K aT Oc H σ ρ n as ts) (e : ExT aT as H H1) : Kp (Oo Oc σ ρ) H (Oo Oc σ ρ) H1 := fun b u q nb => ⟨e b u (fun z => nb (.inl (by rw [z]; exact s.st.oT))) (fun A hA hb => nb (.inl (s.oc A hA b hb))) q, nb⟩
/-- town slots stay where they are -/
def KT (ρ ρ' : Ev) : Prop := ∀ (i k : Nat) (a : Addr), ρ'[i]? = some (.tw k a) → ρ[i]? = some (.tw k a)
theorem KT.refl : KT ρ ρ := fun _ _ _ h => h
theorem KT.trans {ρ1 : Ev} (a : KT ρ ρ1) (b : KT ρ1 ρ') : KT ρ ρ' := fun i k x h => a i k x (b i k x h)
theorem KT.set {i : Nat} {z : Sl} (h : ∀ k a, z ≠ .tw k a) : KT ρ (ρ.set i z) := fun j k a q => by
  rcases set_get_sl q with ⟨_, e, _⟩ | ⟨_, q⟩
  · exact absurd e.symm (fun z' => h k a (by first | exact z' | exact z'.symm))
  · exact q
theorem StT.alter (s : StT K aT Oc H σ ρ n as ts) (st : StE K aT Oc H1 σ' ρ' n1) (kt : KT ρ ρ') (e : ∀ b u, b ≠ aT → (Oc b ∨ ∃ o w, u = .frz o w) → H b = some u → H1 b = some u) : StT K aT Oc H1 σ' ρ' n1 as ts := by
  have hz : Fz H H1 := fun b o u h => e b _ (fun z => by rw [z, s.st.tw.1] at h; cases h) (.inr ⟨o, u, rfl⟩) h
  refine ⟨st, fun b hb o u q => ?_, ?_, s.oc, s.nT, s.dj, fun i k a h => s.ix i k a (kt i k a h)⟩
  · by_cases z : b = aT
    · rw [z, st.tw.1] at q; cases q
    · cases hq : H b with
      | none => exact s.st.dom b hb hq
      | some w =>
        have := e b w z (.inl hb) hq
        rw [q] at this
        cases this
        exact s.nf b hb o u hq
  · have hall : ∀ A ∈ as, ∀ b u, A.has b → H b = some u → H1 b = some u := fun A hA b u hb q => e b u (fun z => s.nT A hA (by rw [← z]; exact hb)) (.inl (s.oc A hA b hb)) q
    have := s.tw
    clear s
    induction this with
    | nil => exact .nil
    | cons r _ ih => exact .cons (r.mono hz (hall _ List.mem_cons_self)) (ih fun A hA => hall A (List.mem_cons_of_mem _ hA))
end
section
variable {X : Cx} {W : WX} {a b c e : Expr} {es : List Expr} {pos : Pos} {st : Stmt} {rest : List Stmt}
/-- an expression ahead of what follows -/
theorem GoU.bind {α β : Type} {R : Rl β α} {aT : Addr} {Oc0 Oc : Addr → Prop} {H0 H : Hp} {σ : St} {ρ : Ev} {n : Nat} {as0 as : List TA} {ts : List Tn} {f : TF α} {k : α → Nat → List Tn → TR Fl} {E : Ends} {Q : β → Hp → Prop}
    (s : StU X.K aT Oc0 Oc H0 H σ ρ n as0 as ts) (h : GoU1 X.K X.mg W aT Oc0 H0 as0 H (Oo Oc σ ρ) ((f ρ n ts).bnd k) E)
    (step : ∀ H1 v a n1 ts1, StU X.K aT Oc0 Oc H0 H1 σ ρ n1 as0 as ts1 → R aT (Oo Oc σ ρ) H H1 v a → GoU1 X.K X.mg W aT Oc0 H0 as0 H1 (Oo Oc σ ρ) (k a n1 ts1) E → Q v H1) : GoT X W R f σ H Q := by
  refine ⟨aT, Oc, ρ, n, as, ts, s.t, ?_⟩
  generalize f ρ n ts = r at h
  induction r with
  | amb f ih => exact fun b => ih b (h b)
  | no => exact h
  | ex c n1 => exact h
  | ok a n1 =>
    obtain ⟨a, ts1⟩ := a
    cases a with
    | v a =>
      intro v H1 e t r
      exact step H1 v a n1 ts1 (s.go e t) r (GoU1.kp (s.t.kp e) (show GoU1 X.K X.mg W aT Oc0 H0 as0 H (Oo Oc σ ρ) (k a n1 ts1) E from h))
    | x c =>
      obtain ⟨u, h1, h2⟩ := h
      refine ⟨u, h1, fun H' e t => h2 σ H' (s.exs e) t.st.tw ?_⟩
      exact (s.go e t).tws
def uNext : TF Fl := fun ρ n ts => .ok (.v (.nx ρ), ts) n
theorem uss_nil : USs X W [] uNext := PSs.imp pss_nil fun E σ H h => by
  obtain ⟨aT, Oc0, Oc, H0, ρ, n, as0, as, ts, s, h⟩ := h
  exact h σ H Oc as Kp.refl s
def uSeq (F G : TF Fl) : TF Fl := fun ρ n ts => (F ρ n ts).bnd fun fl n1 ts1 => match fl with
  | .nx ρ1 => G ρ1 n1 ts1
  | .rt d => .ok (.v (.rt d), ts1) n1
theorem GoU1.seq {K : PySem.W.Frag} {mg : Str → Option Value} {W : WX} {aT : Addr} {Oc0 : Addr → Prop} {H0 H H1 : Hp} {as0 : List TA} {O O1 : Addr → Prop} {r : TR Fl} {G : TF Fl} {E E1 : Ends} (h : GoU1 K mg W aT Oc0 H0 as0 H O (r.bnd fun fl n1 ts1 => match fl with
  | .nx ρ1 => G ρ1 n1 ts1
  | .rt d => .ok (.v (.rt d), ts1) n1) E) (hrt : E1.rt = E.rt)
    (step : ∀ ρ' n' ts' σ' H' Oc' as', GoU1 K mg W aT Oc0 H0 as0 H O (G ρ' n' ts') E → Kp O1 H1 (Oo Oc' σ' ρ') H' → StU K aT Oc0 Oc' H0 H' σ' ρ' n' as0 as' ts' → E1.nx σ' H') : GoU1 K mg W aT Oc0 H0 as0 H1 O1 r E1 := by
  induction r with
  | no => exact h
  | ex c n => exact h
  | ok f n =>
    obtain ⟨f, ts⟩ := f
    cases f with
    | x c => exact h
    | v f =>
      cases f with
      | rt d => rw [GoU1, hrt]; exact h
      | nx ρ' => exact fun σ' H' Oc' as' k s => step ρ' n ts σ' H' Oc' as' h k s
  | amb f ih => exact fun b => ih b (h b)
theorem uss_cons {F G : TF Fl} (h1 : US X W st F) (h2 : USs X W rest G) : USs X W (st :: rest) (uSeq F G) := PSs.imp (pss_cons h1 h2) fun E σ H h => by
  obtain ⟨aT, Oc0, Oc, H0, ρ, n, as0, as, ts, s, h⟩ := h
  refine ⟨aT, Oc0, Oc, H0, ρ, n, as0, as, ts, s, ?_⟩
  unfold uSeq at h
  exact GoU1.seq h rfl fun ρ' n' ts' σ' H' Oc' as' g k' s' => ⟨aT, Oc0, Oc', H0, ρ', n', as0, as', ts', s', GoU1.kp k' g⟩
theorem uss_one {F : TF Fl} (h1 : US X W st F) : USs X W [st] F := pss_one h1
def uNo : TF Fl := fun _ _ _ => .no
theorem us_no : US X W st uNo := PS.imp ps_never fun E σ H h => by
  obtain ⟨aT, Oc0, Oc, H0, ρ, n, as0, as, ts, s, h⟩ := h
  exact h.elim
theorem uss_no : USs X W rest uNo := PSs.imp pss_never fun E σ H h => by
  obtain ⟨aT, Oc0, Oc, H0, ρ, n, as0, as, ts, s, h⟩ := h
  exact h.elim
def uRet (f : TF D) : TF Fl := fun ρ n ts => (f ρ n ts).bnd fun d n1 ts1 => .ok (.v (.rt d), ts1) n1
theorem us_ret {f : TF D} (h : TEx X W e f) : US X W (.Return (some e) pos) (uRet f) := PS.imp (ps_ret h) fun E σ H h => by
  obtain ⟨aT, Oc0, Oc, H0, ρ, n, as0, as, ts, s, h⟩ := h
  refine GoU.bind s h fun H1 v d n1 ts1 s1 r g => ?_
  exact g v H1 s1.ex s1.t.st.tw s1.tws (r.mono (Kp.anti fun b h => .inl (s1.sub b h)))
def uDrop (f : TF D) : TF Fl := fun ρ n ts => (f ρ n ts).bnd fun _ n1 ts1 => .ok (.v (.nx ρ), ts1) n1
theorem us_expr {f : TF D} (h : TEx X W e f) (hs : swapsWith e none pos.line X.env = pure false := by rfl) : US X W (.Expr e pos) (uDrop f) := PS.imp (ps_expr h hs) fun E σ H h => by
  obtain ⟨aT, Oc0, Oc, H0, ρ, n, as0, as, ts, s, h⟩ := h
  refine GoU.bind s h fun H1 v d n1 ts1 s1 r g => ?_
  exact g σ H1 Oc as Kp.refl s1
def uIf (t : TF Bool) (F G : TF Fl) : TF Fl := fun ρ n ts => (t ρ n ts).bnd fun b n1 ts1 => if b = true then F ρ n1 ts1 else G ρ n1 ts1
theorem us_if {t : TF Bool} {F G : TF Fl} {x y : List Stmt} (hc : TTs X W c t) (ha : USs X W x F) (hb : USs X W y G) : US X W (.If c x y pos) (uIf t F G) := PS.imp (ps_if hc ha hb) fun E σ H h => by
  obtain ⟨aT, Oc0, Oc, H0, ρ, n, as0, as, ts, s, h⟩ := h
  refine GoU.bind s h fun H1 v d n1 ts1 s1 r g => ?_
  have r : v = d := r
  subst r
  cases v with
  | true => exact ⟨aT, Oc0, Oc, H0, ρ, n1, as0, as, ts1, s1, g⟩
  | false => exact ⟨aT, Oc0, Oc, H0, ρ, n1, as0, as, ts1, s1, g⟩
def KTg (τ : D → Ev → Option Ev) : Prop := ∀ d ρ ρ', τ d ρ = some ρ' → KT ρ ρ'
def KTgs (τ : List D → Ev → Option Ev) : Prop := ∀ d ρ ρ', τ d ρ = some ρ' → KT ρ ρ'
theorem ktg_name (i : Nat) : KTg (gN i) := fun d ρ ρ' h => by
  cases h
  exact KT.set fun _ _ z => by cases z
def uAsg (f : TF D) (τ : D → Ev → Option Ev) : TF Fl := fun ρ n ts => (f ρ n ts).bnd fun d n1 ts1 => match τ d ρ with
  | some ρ1 => .ok (.v (.nx ρ1), ts1) n1
  | none => .no
theorem us_asg {f : TF D} {tg : Expr} {ix : List Nat} {τ : D → Ev → Option Ev} (he : TEx X W e f) (hg : DG X tg ix τ) (kt : KTg τ) (hs : swapsWithSole [tg] e pos.line X.env = pure false := by rfl) (hw : swappedStores [tg] e X.env = pure none := by rfl)
    (h1 : (assignEach [tg] X.env).map (·.2) = [assign tg X.env] := by rfl) : US X W (.Assign [tg] e pos) (uAsg f τ) := PS.imp (ps_asg he hg hs hw h1) fun E σ H h => by
  obtain ⟨aT, Oc0, Oc, H0, ρ, n, as0, as, ts, s, h⟩ := h
  refine GoU.bind s h fun H1 v d n1 ts1 s1 r g => ?_
  cases ht : τ d ρ with
  | none => rw [ht] at g; exact g.elim
  | some ρ1 =>
    rw [ht] at g
    refine ⟨aT, Oc, ρ, n1, d, ρ1, s1.t.st, r, ht, fun σ' s' o w => ?_⟩
    have k : KT ρ ρ1 := kt d ρ ρ1 ht
    refine g σ' H1 Oc as (Kp.anti o) ⟨s1.t.alter s' k fun b u _ _ q => q, s1.ex, fun j e' b h1 h2 => ?_, s1.sub, s1.d0, s1.pre, s1.nt⟩
    have ho : Oo Oc σ ρ b := o b (.inr ⟨j, e', h1, h2⟩)
    rcases ho with ho | ⟨l, e'', z1, z2⟩
    · obtain ⟨b', h3, h4, _⟩ := s'.ow j e' h1
      rw [h2] at h3
      cases h3
      exact absurd ho h4
    · exact s1.nw l e'' b z1 z2
/-! ### statements that see no town -/
def KR (ρ : Ev) : Rs Fl → Prop
  | .ok (.nx ρ') _ => KT ρ ρ'
  | .ok (.rt _) _ => True
  | .ex _ _ => True
  | .no => True
  | .amb f => ∀ b, KR ρ (f b)
def KTF (F : SS) : Prop := ∀ ρ n, KR ρ (F ρ n)
def uL (F : SS) : TF Fl := fun ρ n ts => (F ρ n).lft ts
open Classical in
theorem us_lift {F : SS} (h : DS X W st F) (kt : KTF F) : US X W st (uL F) := PS.imp h fun E σ H h => by
  obtain ⟨aT, Oc0, Oc, H0, ρ, n, as0, as, ts, s, h⟩ := h
  let ow : Addr → Prop := fun b => ∃ (i : Nat) (d : D), ρ[i]? = some (.ow d) ∧ σ[i]? = some (some (.ref b))
  let H2 : Hp := fun b => if ow b then none else H b
  have nT : ¬ ow aT := fun ⟨i, d, h1, h2⟩ => by
    obtain ⟨a, g1, g2, _⟩ := s.t.st.ow i d h1
    rw [h2] at g1; cases g1
    exact g2 s.t.st.oT
  have nO : ∀ b, Oc b → ¬ ow b := fun b hb ⟨i, d, h1, h2⟩ => by
    obtain ⟨a, g1, g2, _⟩ := s.t.st.ow i d h1
    rw [h2] at g1; cases g1
    exact g2 hb
  have e2 : ∀ b, ¬ ow b → H2 b = H b := fun b hb => if_neg hb
  have sr : StR X.K aT Oc H2 H σ ρ n := by
    refine ⟨s.t.st, fun b u _ q => ?_, fun i d a h1 h2 => if_pos ⟨i, d, h1, h2⟩, fun b hb => by rw [e2 b (nO b hb)]; exact s.t.st.dom b hb⟩
    by_cases z : ow b
    · rw [show H2 b = none from if_pos z] at q; cases q
    · rw [e2 b z] at q; exact q
  have nf : ∀ b o u, H b = some (.frz o u) → ¬ ow b := fun b o u q ⟨i, d, h1, h2⟩ => s.t.st.nfO s.t.nf b (.inr ⟨i, d, h1, h2⟩) o u q
  have keep : ∀ {H'}, Ex1 aT H2 H' → ∀ b u, b ≠ aT → (Oc b ∨ ∃ o w, u = .frz o w) → H b = some u → H' b = some u := fun {H'} e b u nb hb q => by
    refine e b u nb ?_
    rcases hb with hb | ⟨o, w, rfl⟩
    · rw [e2 b (nO b hb)]; exact q
    · rw [e2 b (nf b o w q)]; exact q
  have ex : ∀ {H'}, Ex1 aT H2 H' → ExT aT as0 H0 H' := fun {H'} e b u n1 n2 q => by
    refine e b u n1 ?_
    have no : ¬ ow b := fun ⟨i, d, h1, h2⟩ => by rw [s.nw i d b h1 h2] at q; cases q
    rw [e2 b no]
    exact s.ex b u n1 n2 q
  have tws : ∀ {H' n'}, Ex1 aT H2 H' → Tw aT H' n' → TwsAt X.K H' as0 ts := fun {H' n'} e t => by
    have hall : ∀ A ∈ as, ∀ b u, A.has b → H b = some u → H' b = some u := fun A hA b u hb q => keep e b u (fun z => s.t.nT A hA (by rw [← z]; exact hb)) (.inl (s.t.oc A hA b hb)) q
    have hz : Fz H H' := fun b o u h => keep e b _ (fun z => by rw [z, s.t.st.tw.1] at h; cases h) (.inr ⟨o, u, rfl⟩) h
    have : Paired (TwnAt X.K H') as ts := twns_mono hz s.t.tw hall
    obtain ⟨more, em⟩ := s.pre
    rw [em] at this
    exact paired_take this
  refine ⟨aT, Oc, H2, ρ, n, sr, ?_⟩
  have kk := kt ρ n
  unfold uL at h
  generalize F ρ n = r at h kk ⊢
  induction r with
  | amb f ih => exact fun b => ih b (h b) (kk b)
  | no => exact h
  | ex c n1 =>
    obtain ⟨u, h1, h2⟩ := h
    exact ⟨u, h1, fun σ' H' e t => h2 σ' H' (ex e) t (tws e t)⟩
  | ok f n1 =>
    cases f with
    | rt d => exact fun v H' e t r => h v H' (ex e) t (tws e t) (r.mono (Kp.anti fun b hb => s.sub b hb))
    | nx ρ' =>
      refine fun σ' H' k s' => h σ' H' Oc as k ⟨s.t.alter s'.st kk (keep s'.ex), ex s'.ex, fun i d a h1 h2 => ?_, s.sub, s.d0, s.pre, s.nt⟩
      have := s'.nw i d a h1 h2
      by_cases z : ow a
      · obtain ⟨i, d, z1, z2⟩ := z
        exact s.nw i d a z1 z2
      · rw [e2 a z] at this
        cases hq : H0 a with
        | none => rfl
        | some u =>
          have na : a ≠ aT := fun z => by rw [z, s.t.st.tw.1] at this; cases this
          by_cases y : ∃ A ∈ as0, A.has a
          · obtain ⟨A, hA, ha⟩ := y
            obtain ⟨more, em⟩ := s.pre
            exact absurd this (s.t.st.dom a (s.t.oc A (by rw [em]; exact List.mem_append_left _ hA) a ha))
          · rw [s.ex a u na (fun A hA ha => y ⟨A, hA, ha⟩) hq] at this; cases this
end
end DL

set_option Elab.async false
set_option linter.all false
set_option maxRecDepth 100000
set_option maxHeartbeats 4000000
namespace DL
open PySem PySem.Spec PyProof.Rows L2
section
variable {X : Cx} {W : WX} {a b c e : Expr} {es : List Expr} {pos : Pos} {st : Stmt} {rest : List Stmt} {rst : List Expr}
theorem GoTAt.ext {α β : Type} {S : Hp → β → α → Prop} {aT : Addr} {Oc : Addr → Prop} {σ : St} {ρ : Ev} {as : List TA} {H H1 : Hp} {Q : β → Hp → Prop} {r : TR α} (e : ExT aT as H H1) (h : GoTAt X W (fun _ => S) aT Oc σ ρ as H Q r) : GoTAt X W (fun _ => S) aT Oc σ ρ as H1 Q r := by
  induction r with
  | amb f ih => exact fun b => ih b (h b)
  | no => exact h
  | ex c n => exact h
  | ok f n =>
    obtain ⟨f, ts⟩ := f
    cases f with
    | v d => exact fun v H' e' t r => h v H' (e.trans e') t r
    | x c =>
      obtain ⟨u, h1, h2⟩ := h
      exact ⟨u, h1, fun H' e' t => h2 H' (e.trans e') t⟩
theorem GoTAt.bind {α β γ δ : Type} {R : Rl β α} {S : Hp → δ → γ → Prop} {aT : Addr} {Oc : Addr → Prop} {σ : St} {ρ : Ev} {n : Nat} {as : List TA} {ts : List Tn} {H : Hp} {Q : δ → Hp → Prop} {Q1 : β → Hp → Prop} {f : TF α} {k : α → Nat → List Tn → TR γ}
    (s : StT X.K aT Oc H σ ρ n as ts) (h : GoTAt X W (fun _ => S) aT Oc σ ρ as H Q ((f ρ n ts).bnd k))
    (step : ∀ H1 v a n1 ts1, StT X.K aT Oc H1 σ ρ n1 as ts1 → ExT aT as H H1 → R aT (Oo Oc σ ρ) H H1 v a → GoTAt X W (fun _ => S) aT Oc σ ρ as H1 Q (k a n1 ts1) → Q1 v H1) : GoT X W R f σ H Q1 := by
  refine ⟨aT, Oc, ρ, n, as, ts, s, ?_⟩
  generalize f ρ n ts = r at h ⊢
  induction r with
  | amb f ih => exact fun b => ih b (h b)
  | no => exact h
  | ex c n => exact h
  | ok f n =>
    obtain ⟨f, ts1⟩ := f
    cases f with
    | v d => exact fun v H' e' t r => step H' v d n ts1 t e' r (GoTAt.ext e' (show GoTAt X W (fun _ => S) aT Oc σ ρ as H Q (k d n ts1) from h))
    | x c => exact h
/-! ### comparisons, tests -/
def xCmp (g : D → D → Option Bool) (fa fb : TF D) : TF D := fun ρ n ts => (fa ρ n ts).bnd fun d n1 ts1 => (fb ρ n1 ts1).bnd fun e n2 ts2 => match g d e with
  | some z => .ok (.v (.bl z), ts2) n2
  | none => .no
def xCm (g : D → D → Option Bool) (fa fb : TF D) : TF Bool := fun ρ n ts => (fa ρ n ts).bnd fun d n1 ts1 => (fb ρ n1 ts1).bnd fun e n2 ts2 => match g d e with
  | some z => .ok (.v z, ts2) n2
  | none => .no
theorem te_cmp {op : CmpOp} {g : D → D → Option Bool} {fa fb : TF D} (ho : CmD X op g) (ha : TEx X W a fa) (hb : TEx X W b fb) (hm : behindInMarks op b = false := by rfl) : TEx X W (.Compare a [op] [b] pos) (xCmp g fa fb) := by
  obtain ⟨r, h1, h2⟩ := ho
  refine PE.imp (pe_cmpR h1 ha hb hm) fun σ H Q h => ?_
  obtain ⟨aT, Oc, ρ, n, as, ts, s, h⟩ := h
  refine GoTAt.bind s h fun H1 v d n1 ts1 s1 e1 r1 g1 => ?_
  refine GoTAt.bind s1 g1 fun H2 u e n2 ts2 s2 e2 r2 g2 => ?_
  cases hz : g d e with
  | none => rw [hz] at g2; exact g2.elim
  | some z =>
    rw [hz] at g2
    exact h2 aT _ H2 v u d e z _ (.inl (Rp.mono (s1.kp e2) r1)) (.inl r2) hz (g2 _ _ .refl s2 (.bl z))
theorem tt_cmp {op : CmpOp} {g : D → D → Option Bool} {fa fb : TF D} (ho : CmD X op g) (ha : TEx X W a fa) (hb : TEx X W b fb) (hm : behindInMarks op b = false := by rfl) : TTs X W (.Compare a [op] [b] pos) (xCm g fa fb) := by
  obtain ⟨r, h1, h2⟩ := ho
  refine PT.imp (pt_cmpR h1 ha hb hm) fun σ H Q h => ?_
  obtain ⟨aT, Oc, ρ, n, as, ts, s, h⟩ := h
  refine GoTAt.bind s h fun H1 v d n1 ts1 s1 e1 r1 g1 => ?_
  refine GoTAt.bind s1 g1 fun H2 u e n2 ts2 s2 e2 r2 g2 => ?_
  cases hz : g d e with
  | none => rw [hz] at g2; exact g2.elim
  | some z =>
    rw [hz] at g2
    exact h2 aT _ H2 v u d e z _ (.inl (Rp.mono (s1.kp e2) r1)) (.inl r2) hz ⟨z, rfl, g2 _ _ .refl s2 rfl⟩
def xNo (t : TF Bool) : TF Bool := fun ρ n ts => (t ρ n ts).bnd fun b n1 ts1 => .ok (.v (!b), ts1) n1
theorem tt_not {t : TF Bool} (ha : TTs X W a t) : TTs X W (.UnaryOp .Not a pos) (xNo t) := PT.imp (pt_not ha) fun σ H Q h => by
  obtain ⟨aT, Oc, ρ, n, as, ts, s, h⟩ := h
  refine GoTAt.bind s h fun H1 v d n1 ts1 s1 e1 r1 g1 => ?_
  have r1 : v = d := r1
  subst r1
  exact g1 _ _ .refl s1 rfl
def TWs (X : Cx) (W : WX) (e : Expr) (f : TF Bool) : Prop := PW X e (GoT X W RtX f)
theorem tt_w {t : TF Bool} (h : TWs X W e t) : TTs X W e t := L2.PW.pt h
theorem tw_and1 {t : TF Bool} (h : TTs X W a t) : TWs X W (.BoolOp .And [a] pos) t := pw_and1 h
theorem tw_or1 {t : TF Bool} (h : TTs X W a t) : TWs X W (.BoolOp .Or [a] pos) t := pw_or1 h
def xAn (ta tb : TF Bool) : TF Bool := fun ρ n ts => (ta ρ n ts).bnd fun b n1 ts1 => if b = true then tb ρ n1 ts1 else .ok (.v false, ts1) n1
def xOrr (ta tb : TF Bool) : TF Bool := fun ρ n ts => (ta ρ n ts).bnd fun b n1 ts1 => if b = true then .ok (.v true, ts1) n1 else tb ρ n1 ts1
theorem tw_and {ta tb : TF Bool} (ha : TTs X W a ta) (hb : TWs X W (.BoolOp .And (b :: rst) pos) tb) : TWs X W (.BoolOp .And (a :: b :: rst) pos) (xAn ta tb) := PW.imp (pw_and ha hb) fun σ H Q h => by
  obtain ⟨aT, Oc, ρ, n, as, ts, s, h⟩ := h
  refine GoTAt.bind s h fun H1 v d n1 ts1 s1 e1 r1 g1 => ?_
  have r1 : v = d := r1
  subst r1
  cases v with
  | true => exact ⟨aT, Oc, ρ, n1, as, ts1, s1, g1⟩
  | false => exact g1 false H1 .refl s1 rfl
theorem tw_or {ta tb : TF Bool} (ha : TTs X W a ta) (hb : TWs X W (.BoolOp .Or (b :: rst) pos) tb) : TWs X W (.BoolOp .Or (a :: b :: rst) pos) (xOrr ta tb) := PW.imp (pw_or ha hb) fun σ H Q h => by
  obtain ⟨aT, Oc, ρ, n, as, ts, s, h⟩ := h
  refine GoTAt.bind s h fun H1 v d n1 ts1 s1 e1 r1 g1 => ?_
  have r1 : v = d := r1
  subst r1
  cases v with
  | false => exact ⟨aT, Oc, ρ, n1, as, ts1, s1, g1⟩
  | true => exact g1 true H1 .refl s1 rfl
def xIf (t : TF Bool) (fa fb : TF D) : TF D := fun ρ n ts => (t ρ n ts).bnd fun b n1 ts1 => if b = true then fa ρ n1 ts1 else fb ρ n1 ts1
theorem te_if {t : TF Bool} {fa fb : TF D} (hc : TTs X W c t) (ha : TEx X W a fa) (hb : TEx X W b fb) : TEx X W (.IfExp c a b pos) (xIf t fa fb) := PE.imp (pe_ifExp hc ha hb) fun σ H Q h => by
  obtain ⟨aT, Oc, ρ, n, as, ts, s, h⟩ := h
  refine GoTAt.bind s h fun H1 v d n1 ts1 s1 e1 r1 g1 => ?_
  have r1 : v = d := r1
  subst r1
  cases v with
  | true => exact ⟨aT, Oc, ρ, n1, as, ts1, s1, g1⟩
  | false => exact ⟨aT, Oc, ρ, n1, as, ts1, s1, g1⟩
def xNone : TF D := fun _ _ _ => .no
theorem te_no : TEx X W e xNone := ⟨fun pins s σ H Q I h => by
  obtain ⟨aT, Oc, ρ, n, as, ts, s, h⟩ := h
  exact h.elim⟩
/-! ### loops -/
def forU (τ : D → Ev → Option Ev) (F : TF Fl) : List D → TF Fl
  | [], ρ, n, ts => .ok (.v (.nx ρ), ts) n
  | d :: ds, ρ, n, ts => match τ d ρ with
    | none => .no
    | some ρ1 => (F ρ1 n ts).bnd fun fl n1 ts1 => match fl with
      | .nx ρ2 => forU τ F ds ρ2 n1 ts1
      | .rt d => .ok (.v (.rt d), ts1) n1
def uFor (fi : SI) (τ : D → Ev → Option Ev) (F : TF Fl) : TF Fl := fun ρ n ts => ((fi ρ n).lft ts).bnd fun ds n1 ts1 => forU τ F ds ρ n1 ts1
theorem us_for {tg iter : Expr} {body : List Stmt} {fi : SI} {τ : D → Ev → Option Ev} {ix : List Nat} {F : TF Fl} (hp : PassesOwn (model X.prog X.w) X.A X.env X.xe) (hc : X.calm = true) (hi : DI X W tg iter fi) (hg : DG X tg ix τ) (kt : KTg τ) (hb : USs X W body F) (hs : ∀ x, foldedSetIterable iter X.env x = pure x := by intro _; rfl) :
    US X W (.For tg iter body [] pos) (uFor fi τ F) := PS.imp (ps_for hp hc hi hg hb hs) fun E σ H h => by
  obtain ⟨aT, Oc0, Oc, H0, ρ, n, as0, as, ts, s, h⟩ := h
  refine ⟨aT, Oc, ρ, n, s.t.st, ?_⟩
  unfold uFor at h
  generalize fi ρ n = r at h ⊢
  induction r with
  | amb f ih => exact fun b => ih b (h b)
  | no => exact h
  | ex c n1 =>
    obtain ⟨u, h1, h2⟩ := h
    exact ⟨u, h1, fun H' e t => h2 σ H' (s.exs e.t) t (s.go e.t (s.t.step e t)).tws⟩
  | ok ds n1 =>
  intro J H1 e1 t1 wk
  have s1 := s.go e1.t (s.t.step e1 t1)
  have g : GoU1 X.K X.mg W aT Oc0 H0 as0 H1 (Oo Oc σ ρ) (forU τ F ds ρ n1 ts) E := GoU1.kp (e1.kp (.inl s.t.st.oT)) (show GoU1 X.K X.mg W aT Oc0 H0 as0 H (Oo Oc σ ρ) (forU τ F ds ρ n1 ts) E from h)
  have wk : Wk X.K aT (LK (Oo Oc σ ρ) H1) J ds := wk
  refine ⟨fun i m σ' H' => ∃ ρ' n' Oc' as' ts', m = ds.length - i ∧ i ≤ ds.length ∧ StU X.K aT Oc0 Oc' H0 H' σ' ρ' n' as0 as' ts' ∧ Kp (Oo Oc σ ρ) H1 (Oo Oc' σ' ρ') H' ∧ GoU1 X.K X.mg W aT Oc0 H0 as0 H1 (Oo Oc σ ρ) (forU τ F (ds.drop i) ρ' n' ts') E,
    ⟨ds.length, ρ, n1, Oc, as, ts, by simp, Nat.zero_le _, s1, Kp.refl, by simpa using g⟩, ?_⟩
  rintro i m σ' H' ⟨ρ', n', Oc', as', ts', rfl, hi, s', k', g'⟩
  obtain ⟨w1, w2⟩ := wk (Oo Oc' σ' ρ') H' k' s'.t.st.domO
  by_cases hlt : i < ds.length
  case neg =>
    have e : ds.drop i = [] := List.drop_eq_nil_of_le (by omega)
    rw [e] at g'
    exact .inl ⟨w2 i (by omega), g' _ _ _ _ k' s'⟩
  have hd : ds[i]? = some ds[i] := List.getElem?_eq_getElem hlt
  rw [List.drop_eq_getElem_cons hlt] at g'
  generalize ds[i] = d at hd g'
  obtain ⟨hgo, hy⟩ := w1 i d hd
  refine .inr ⟨hgo, fun σ2 H2 => ∃ ρ2 n2 Oc2 as2 ts2, StU X.K aT Oc0 Oc2 H0 H2 σ2 ρ2 n2 as0 as2 ts2 ∧ Kp (Oo Oc σ ρ) H1 (Oo Oc2 σ2 ρ2) H2 ∧ GoU1 X.K X.mg W aT Oc0 H0 as0 H1 (Oo Oc σ ρ) (forU τ F (ds.drop (i + 1)) ρ2 n2 ts2) E, ?_, ?_⟩
  · rintro σ2 H2 ⟨ρ2, n2, Oc2, as2, ts2, a1, a2, a3⟩
    exact ⟨ds.length - (i + 1), by omega, ρ2, n2, Oc2, as2, ts2, rfl, hlt, a1, a2, a3⟩
  · intro x H2 y
    obtain ⟨hk, rx⟩ := hy x H2 y
    have e2 : Ex1 aT H' H2 := fun b u _ e => hk b u e
    have s2 : StU X.K aT Oc0 Oc' H0 H2 σ' ρ' n' as0 as' ts' := s'.go e2.t (s'.t.step e2 ⟨hk _ _ s'.t.st.tw.1, s'.t.st.tw.2⟩)
    have k2 : Kp (Oo Oc σ ρ) H1 (Oo Oc' σ' ρ') H2 := k'.trans (e2.kp (.inl s'.t.st.oT))
    unfold forU at g'
    cases ht : τ d ρ' with
    | none => rw [ht] at g'; exact g'.elim
    | some ρ1 =>
      rw [ht] at g'
      refine ⟨aT, Oc', ρ', n', d, ρ1, s2.t.st, rx, ht, fun σ3 s3 o3 w3 => ?_⟩
      have r3 : StU X.K aT Oc0 Oc' H0 H2 σ3 ρ1 n' as0 as' ts' := ⟨s2.t.alter s3 (kt d ρ' ρ1 ht) fun b u _ _ q => q, s2.ex, fun j e' b h1 h2 => ?_, s2.sub, s2.d0, s2.pre, s2.nt⟩
      · refine ⟨aT, Oc0, Oc', H0, ρ1, n', as0, as', ts', r3, ?_⟩
        have k3 : Kp (Oo Oc σ ρ) H1 (Oo Oc' σ3 ρ1) H2 := k2.trans (Kp.anti o3)
        exact GoU1.seq (G := forU τ F (ds.drop (i + 1))) g' rfl fun ρ2 m ts2 σ4 H4 Oc4 as4 g4 k4 s4 => ⟨ρ2, m, Oc4, as4, ts2, s4, k3.trans k4, g4⟩
      · have ho : Oo Oc' σ' ρ' b := o3 b (.inr ⟨j, e', h1, h2⟩)
        rcases ho with ho | ⟨l, e'', z1, z2⟩
        · obtain ⟨b', h3, h4, _⟩ := s3.ow j e' h1
          rw [h2] at h3
          cases h3
          exact absurd ho h4
        · exact s2.nw l e'' b z1 z2
def whileU (ft : TF Bool) (F : TF Fl) : Nat → TF Fl
  | 0, _, _, _ => .no
  | k + 1, ρ, n, ts => (ft ρ n ts).bnd fun b n1 ts1 => if b = true then (F ρ n1 ts1).bnd fun fl n2 ts2 => match fl with
      | .nx ρ2 => whileU ft F k ρ2 n2 ts2
      | .rt d => .ok (.v (.rt d), ts2) n2
    else .ok (.v (.nx ρ), ts1) n1
theorem us_while (fuel : Nat) {body : List Stmt} {ft : TF Bool} {F : TF Fl} (hp : PassesOwn (model X.prog X.w) X.A X.env X.xe) (hc : TTs X W c ft) (hb : USs X W body F) : US X W (.While c body [] pos) (whileU ft F fuel) := PS.imp (ps_while hp hc hb) fun E σ H h => by
  obtain ⟨aT, Oc0, Oc, H0, ρ, n, as0, as, ts, s, h⟩ := h
  refine ⟨fun m σ' H' => ∃ Oc' ρ' n' as' ts', StU X.K aT Oc0 Oc' H0 H' σ' ρ' n' as0 as' ts' ∧ GoU1 X.K X.mg W aT Oc0 H0 as0 H' (Oo Oc' σ' ρ') (whileU ft F m ρ' n' ts') E, ⟨fuel, Oc, ρ, n, as, ts, s, h⟩, ?_⟩
  rintro m σ' H' ⟨Oc', ρ', n', as', ts', s', g'⟩
  cases m with
  | zero => exact g'.elim
  | succ k =>
    unfold whileU at g'
    refine GoU.bind s' g' fun H1 v b n1 ts1 s1 r g => ?_
    have r : v = b := r
    subst r
    cases v with
    | false =>
      rw [if_neg (by decide)]
      exact g σ' H1 Oc' as' Kp.refl s1
    | true =>
      rw [if_pos rfl]
      refine ⟨fun σ2 H2 => ∃ Oc2 ρ2 n2 as2 ts2, StU X.K aT Oc0 Oc2 H0 H2 σ2 ρ2 n2 as0 as2 ts2 ∧ GoU1 X.K X.mg W aT Oc0 H0 as0 H2 (Oo Oc2 σ2 ρ2) (whileU ft F k ρ2 n2 ts2) E, fun σ2 H2 q => ⟨k, Nat.lt_succ_self k, q⟩, aT, Oc0, Oc', H0, ρ', n1, as0, as', ts1, s1, ?_⟩
      exact GoU1.seq (G := whileU ft F k) g rfl fun ρ2 m ts2 σ4 H4 Oc4 as4 g4 k4 s4 => ⟨Oc4, ρ2, m, as4, ts2, s4, GoU1.kp k4 g4⟩
end
/-! ### what keeps town slots -/
section
variable {F G : SS}
theorem KR.bind {α : Type} {ρ : Ev} {k : α → Nat → Rs Fl} (h : ∀ a n, KR ρ (k a n)) : ∀ r : Rs α, KR ρ (r.bind k)
  | .ok a n => h a n
  | .ex _ _ => trivial
  | .no => trivial
  | .amb f => fun b => KR.bind h (f b)
theorem KR.trans {ρ ρ1 : Ev} (k : KT ρ ρ1) : ∀ {r : Rs Fl}, KR ρ1 r → KR ρ r
  | .ok (.nx _) _, h => k.trans h
  | .ok (.rt _) _, _ => trivial
  | .ex _ _, _ => trivial
  | .no, _ => trivial
  | .amb f, h => fun b => KR.trans k (h b)
theorem KR.seq {ρ : Ev} {G : Ev → Nat → Rs Fl} (h : ∀ ρ n, KR ρ (G ρ n)) : ∀ {r : Rs Fl}, KR ρ r → KR ρ (r.seqF G)
  | .ok (.nx _) _, q => KR.trans q (h _ _)
  | .ok (.rt _) _, _ => trivial
  | .ex _ _, _ => trivial
  | .no, _ => trivial
  | .amb f, q => fun b => KR.seq h (q b)
theorem kt_next : KTF sNext := fun ρ n => KT.refl
theorem kt_seq (a : KTF F) (b : KTF G) : KTF (sSeq F G) := fun ρ n => KR.seq b (a ρ n)
theorem kt_no : KTF sNo := fun ρ n => trivial
theorem kt_ret {f : SE} : KTF (sRet f) := fun ρ n => KR.bind (k := fun d n1 => .ok (.rt d) n1) (fun _ _ => trivial) (f ρ n)
theorem kt_drop {f : SE} : KTF (sDrop f) := fun ρ n => KR.bind (k := fun _ n1 => .ok (.nx ρ) n1) (fun _ _ => KT.refl) (f ρ n)
theorem kt_if {t : ST} (a : KTF F) (b : KTF G) : KTF (sIf t F G) := fun ρ n => KR.bind (fun z m => by
  cases z
  · exact b ρ m
  · exact a ρ m) _
theorem kt_app {i : Nat} {f : SE} : KTF (sApp i f) := fun ρ n => by
  unfold sApp
  split
  · refine KR.bind (fun d m => ?_) _
    split
    · exact KT.set fun _ _ z => by cases z
    · trivial
  · refine KR.bind (fun d m => ?_) _
    split
    · split
      · exact KT.refl
      · trivial
    · trivial
  · trivial
def KTa (τ : D → Ev → Nat → Rs Ev) : Prop := ∀ d ρ n ρ' n', τ d ρ n = .ok ρ' n' → KT ρ ρ'
def KTas (τ : List D → Ev → Nat → Rs Ev) : Prop := ∀ d ρ n ρ' n', τ d ρ n = .ok ρ' n' → KT ρ ρ'
theorem kta_name (i : Nat) : KTa (aN i) := fun d ρ n ρ' n' h => by
  cases h
  exact KT.set fun _ _ z => by cases z
theorem ktas_nil : KTas asNil := fun d ρ n ρ' n' h => by
  cases d with
  | nil => cases h; exact KT.refl
  | cons _ _ => exact nomatch h
theorem ktas_cons {τ : D → Ev → Nat → Rs Ev} {τs : List D → Ev → Nat → Rs Ev} (a : KTa τ) (b : KTas τs) : KTas (asCons τ τs) := fun d ρ n ρ' n' h => by
  cases d with
  | nil => exact nomatch h
  | cons d r =>
    obtain ⟨ρ1, n1, e1, e2⟩ := bind_ok (show (τ d ρ n).bind _ = _ from h)
    exact (a _ _ _ _ _ e1).trans (b _ _ _ _ _ e2)
theorem kta_tup {τs : List D → Ev → Nat → Rs Ev} (b : KTas τs) : KTa (aT' τs) := fun d ρ n ρ' n' h => by
  cases d <;> first | exact b _ _ _ _ _ h | exact (no_ok h).elim
theorem kt_asg {f : SE} {τ : D → Ev → Nat → Rs Ev} (b : KTa τ) : KTF (sAsg f τ) := fun ρ n => KR.bind (fun d m => by
  cases h : τ d ρ m with
  | ok ρ' m' => exact b _ _ _ _ _ h
  | _ => trivial) _
theorem ktgs_nil : KTgs gsNil := fun d ρ ρ' h => by
  cases d with
  | nil => cases h; exact KT.refl
  | cons _ _ => exact nomatch h
theorem ktgs_cons {τ : D → Ev → Option Ev} {τs : List D → Ev → Option Ev} (a : KTg τ) (b : KTgs τs) : KTgs (gsCons τ τs) := fun d ρ ρ' h => by
  cases d with
  | nil => exact nomatch h
  | cons d r =>
    obtain ⟨ρ1, e1, e2⟩ := Option.bind_eq_some_iff.mp (show (τ d ρ).bind _ = _ from h)
    exact (a _ _ _ e1).trans (b _ _ _ e2)
theorem ktg_tup {τs : List D → Ev → Option Ev} (b : KTgs τs) : KTg (gT τs) := fun d ρ ρ' h => by
  cases d <;> first | exact b _ _ _ h | exact nomatch h
end
end DL

set_option Elab.async false
set_option linter.all false
set_option maxRecDepth 100000
set_option maxHeartbeats 4000000
namespace DL
open PySem PySem.Spec PyProof.Rows L2
/-! ### a def that is handed a town -/
def Rs.outT : TR Fl → Rs (Xr D × Tn)
  | .ok (f, [t]) n => match f with
    | .v (.nx _) => .ok (.v .non, t) n
    | .v (.rt d) => .ok (.v d, t) n
    | .x c => .ok (.x c, t) n
  | .ok (_, []) _ => .no
  | .ok (_, _ :: _ :: _) _ => .no
  | .ex _ _ => .no
  | .no => .no
  | .amb f => .amb fun b => (f b).outT
def callT (m : Nat) (F : TF Fl) : TG1 := fun a t ds n => (F (Sl.tw 0 a :: (ds.map Sl.sh ++ List.replicate (m - (ds.length + 1)) .no)) n [t]).outT
section
variable {P : Program} {w : World} {K : PySem.W.Frag} {mg : Str → Option Value} {base : Heap}
theorem start_okT {aT : Addr} {Oc : Addr → Prop} {H : Hp} {n : Nat} {N : List Str} {a : Addr} {vs : List V} {ds : List D} (t : Tw aT H n) (o : Oc aT) (dm : ∀ b, Oc b → H b ≠ none) (r : Rps K aT Oc H vs ds) : StE K aT Oc H (L2.start N (.ref a :: vs)) (Sl.tw 0 a :: (ds.map Sl.sh ++ List.replicate (N.length - (ds.length + 1)) .no)) n := by
  have s := start_ok (N := N) (vs := .non :: vs) (ds := .non :: ds) t o dm (.cons .non r)
  have s1 := s.set0 0 (some (.ref a)) (.tw 0 a) (fun d z => by cases z) (fun d z => by cases z) fun k b z => by cases z; rfl
  have e1 : (L2.start N (V.non :: vs)).set 0 (some (.ref a)) = L2.start N (.ref a :: vs) := by unfold L2.start; rfl
  have e2 : ((D.non :: ds).map Sl.sh ++ List.replicate (N.length - (D.non :: ds).length) Sl.no).set 0 (.tw 0 a) = Sl.tw 0 a :: (ds.map Sl.sh ++ List.replicate (N.length - (ds.length + 1)) .no) := rfl
  rw [e1, e2] at s1
  exact s1
theorem go_startT {X : Cx} {W : WX} {F : TF Fl} {N : List Str} {aT : Addr} {Oc : Addr → Prop} {H : Hp} {n : Nat} {A : TA} {t : Tn} {vs : List V} {ds : List D} {Q : VK} {E : XK} (tt : Tw aT H n) (o : Oc aT) (dm : ∀ b, Oc b → H b ≠ none) (nf : NoF Oc H) (tw : TwnAt X.K H A t) (ho : ∀ b, A.has b → Oc b) (nT : ¬ A.has aT) (r : Rps X.K aT Oc H vs ds) (hW : W = fun c d _ H' => E c d H')
    (h : SpTO X.K X.mg aT Oc A H Q E (callT N.length F A.a t ds n)) : GoU X W F { nx := fun _ H' => Q .non H', rt := Q } (L2.start N (.ref A.a :: vs)) H := by
  subst hW
  have s := start_okT (N := N) (a := A.a) tt o dm r
  have noow : ∀ (i : Nat) d, (Sl.tw 0 A.a :: (ds.map Sl.sh ++ List.replicate (N.length - (ds.length + 1)) Sl.no))[i]? ≠ some (.ow d) := fun i d h => by
    have := List.mem_of_getElem? h
    simp at this
  have st : StT X.K aT Oc H (L2.start N (.ref A.a :: vs)) (Sl.tw 0 A.a :: (ds.map Sl.sh ++ List.replicate (N.length - (ds.length + 1)) .no)) n [A] [t] := by
    refine ⟨s, nf, .cons tw .nil, fun B hB => ?_, fun B hB => ?_, by simp, fun i k a h => ?_⟩
    · simp only [List.mem_singleton] at hB; subst hB; exact ho
    · simp only [List.mem_singleton] at hB; subst hB; exact nT
    · have := List.mem_of_getElem? h
      simp at this
      obtain ⟨rfl, rfl⟩ := this
      exact ⟨A, rfl, rfl⟩
  refine ⟨aT, Oc, Oc, H, _, n, [A], [A], [t], ⟨st, .refl, fun i d a z => absurd z (noow i d), fun b h => h, dm, ⟨[], rfl⟩, fun B hB => .inl hB⟩, ?_⟩
  have one : ∀ {H' ts t'}, TwsAt X.K H' [A] ts → ts = [t'] → TwnAt X.K H' A t' := fun {H' ts t'} h e => by
    subst e
    cases h with
    | cons h _ => exact h
  unfold callT at h
  generalize F (Sl.tw 0 A.a :: (ds.map Sl.sh ++ List.replicate (N.length - (ds.length + 1)) .no)) n [t] = r0 at h ⊢
  induction r0 with
  | amb f ih => exact fun b => ih b (h b)
  | no => exact h
  | ex c m => exact h
  | ok f m =>
    obtain ⟨f, ts⟩ := f
    match ts, h with
    | [], h => exact h.elim
    | _ :: _ :: _, h => exact h.elim
    | [t'], h =>
      cases f with
      | x c =>
        obtain ⟨u, h1, h2⟩ := h
        exact ⟨u, h1, fun σ' H' e tt tw => h2 H' e tt (one tw rfl)⟩
      | v f =>
        cases f with
        | rt d => exact fun v H' e tt tw r => h v H' e tt (one tw rfl) r
        | nx ρ' => exact fun σ' H' Oc' as' k s' => h .non H' s'.ex s'.t.st.tw (one s'.tws rfl) .non
theorem defT_ok {x qual : Str} {st : Stmt} {f : Addr} {fd : FuncData} {N ps : List Str} {k ar : Nat} {F : TF Fl} (Fn : Fun K x qual st f fd) (S : FnScope N ps (defScope st)) (hp : ps.length = ar + 1)
    (body : ∀ (cdv : Value) (A : Around) (outer : List Env) (s : Shared) (H : Hp) (E : XK), Room k (bX P w K mg base N qual st f cdv A outer s H E).A → USs (bX P w K mg base N qual st f cdv A outer s H E) (bW E) (defBody st) F) :
    FnOk P w K mg base (L2N.CX P w) (k + 1) f fd ps (spT K mg ar (callT N.length F)) := by
  refine fun_okN Fn S (fun vs H Q E h => ?_) (fun cdv A outer s H vs Q E hr h => ?_)
  · obtain ⟨_, _, us, ds, _, _, _, rfl, _, _, _, _, _, _, _, r, hl, _⟩ := h
    rw [List.length_cons, r.length, hl, hp]
  · obtain ⟨aT, Oc, us, ds, n, B, t, rfl, tt, o, dm, nf, tw, ho, nT, r, hl, q⟩ := h
    exact ⟨_, body cdv A outer s H E hr, go_startT (X := bX P w K mg base N qual st f cdv A outer s H E) tt o dm nf tw ho nT r rfl q⟩
structure lawRunT (m : Nat) (F : TF Fl) (ns : List Int) : Prop where
  sat : (F (Sl.sh (.scr ns) :: Sl.sh .cnt :: List.replicate (m - 2) .no) 0 []).Sat0 fun r _ => r.1 = .v (.rt (.bl true))
theorem lawT_ok {st : Stmt} {f : Addr} {fd : FuncData} {N : List Str} {k : Nat} {F : TF Fl} {p1 p2 p3 : Pos} {rest : List Stmt} (Fn : Fun K "law" "law" st f fd) (S : FnScope N ["script"] (defScope st)) (h2 : 2 ≤ N.length) (ht : N[1]? = some (Str.ofString "town")) (hx : Loc (defScope st) "town")
    (hb : defBody st = .Assign [.Name "town" p1] (.List [] p2) p3 :: rest)
    (body : ∀ (cdv : Value) (A : Around) (outer : List Env) (s : Shared) (H : Hp) (E : XK), Room k (bX P w K mg base N "law" st f cdv A outer s H E).A → USs (bX P w K mg base N "law" st f cdv A outer s H E) (bW E) rest F)
    {m : Nat} (hm : N.length = m) (run : ∀ ns : List Int, ns.length ≤ 63 → lawRunT m F ns) :
    FnOk P w K mg base (L2N.CX P w) (k + 1) f fd ["script"] (spLaw K) := by
  subst hm
  refine fun_okN Fn S (fun vs H Q E h => ?_) (fun cdv A outer s H vs Q E hr h => ?_)
  · obtain ⟨a, ns, rfl, _⟩ := h
    rfl
  · obtain ⟨a, ns, rfl, hS, hl, q⟩ := h
    rw [hb]
    refine ⟨_, pss_cons (ps_set (X := bX P w K mg base N "law" st f cdv A outer s H E) (i := 1) S.nd ht hx (pe_lst pa_nil)) (body cdv A outer s H E hr), ?_⟩
    refine ⟨Nat.zero_le _, fun p hp => ?_⟩
    have hn := run ns hl
    have e0 : (L2.start N [V.ref a]).set 1 (some (.ref p)) = some (.ref a) :: some (.ref p) :: List.replicate (N.length - 2) none := by
      unfold L2.start
      obtain ⟨j, hj⟩ : ∃ j, N.length = j + 2 := ⟨N.length - 2, by omega⟩
      rw [hj]
      rfl
    show GoU (bX P w K mg base N "law" st f cdv A outer s H E) (bW E) F _ ((L2.start N [V.ref a]).set 1 (some (.ref p))) (upd H p (.lst []))
    rw [e0]
    have noow : ∀ (i : Nat) d, (Sl.sh (.scr ns) :: Sl.sh .cnt :: List.replicate (N.length - 2) Sl.no)[i]? ≠ some (.ow d) := fun i d h => by
      have := List.mem_of_getElem? h
      simp at this
    have eO : ∀ b, Oo (fun b => b = p) (some (V.ref a) :: some (V.ref p) :: List.replicate (N.length - 2) none) (Sl.sh (.scr ns) :: Sl.sh .cnt :: List.replicate (N.length - 2) Sl.no) b → b = p := fun b h => by
      rcases h with h | ⟨i, d, h, _⟩
      · exact h
      · exact absurd h (noow i d)
    have ra : Rp K p (fun b => b = p) (upd H p (.lst [])) (.ref a) (.scr ns) := by
      refine .scr ?_
      rcases hS with h | h
      · have ne : a ≠ p := by
          rintro rfl
          rcases h with h | ⟨_, h⟩ <;> rw [hp] at h <;> cases h
        refine .inl ⟨?_, ne⟩
        rcases h with h | ⟨o, h⟩
        · exact .inl (by rw [upd_ne ne]; exact h)
        · exact .inr ⟨o, by rw [upd_ne ne]; exact h⟩
      · exact .inr h
    have s0 : StE K p (fun b => b = p) (upd H p (.lst [])) (some (V.ref a) :: some (V.ref p) :: List.replicate (N.length - 2) none) (Sl.sh (.scr ns) :: Sl.sh .cnt :: List.replicate (N.length - 2) Sl.no) 0 := by
      refine ⟨⟨upd_same, Nat.zero_le _⟩, rfl, fun b hb => by rw [hb, upd_same]; exact fun z => (nomatch z), by simp, fun i d h => ?_, fun i d h => absurd h (noow i d), fun i j d e a h => absurd h (noow i d), fun i k a h => by
    have := List.mem_of_getElem? h
    simp at this⟩
      match i, h with
      | 0, h => cases h; exact ⟨_, rfl, ra.mono (Kp.anti eO)⟩
      | 1, h => cases h; exact ⟨_, rfl, .cnt⟩
      | i + 2, h =>
        have := List.mem_of_getElem? (show (List.replicate (N.length - 2) Sl.no)[i]? = some (.sh d) from h)
        simp at this
    have nt : ∀ (i k : Nat) (a' : Addr), (Sl.sh (.scr ns) :: Sl.sh .cnt :: List.replicate (N.length - 2) Sl.no)[i]? ≠ some (.tw k a') := fun i k a' h => by
      have := List.mem_of_getElem? h
      simp at this
    have t0 : StT K p (fun b => b = p) (upd H p (.lst [])) (some (V.ref a) :: some (V.ref p) :: List.replicate (N.length - 2) none) (Sl.sh (.scr ns) :: Sl.sh .cnt :: List.replicate (N.length - 2) Sl.no) 0 [] [] :=
      ⟨s0, fun b hb o u z => (by rw [hb, upd_same] at z; cases z), .nil, fun A hA => (nomatch hA), fun A hA => (nomatch hA), .nil, fun i k a' h => absurd h (nt i k a')⟩
    refine ⟨p, fun b => b = p, fun b => b = p, upd H p (.lst []), _, 0, [], [], [], ⟨t0, .refl, fun i d a z => absurd z (noow i d), fun b h => h, s0.dom, ⟨[], rfl⟩, fun A hA => (nomatch hA)⟩, ?_⟩
    replace hn := hn.sat
    generalize F (Sl.sh (.scr ns) :: Sl.sh .cnt :: List.replicate (N.length - 2) .no) 0 [] = r0 at hn ⊢
    induction r0 with
    | amb f ih => exact fun b => ih b (hn b)
    | no => exact hn.elim
    | ex c m => exact hn.elim
    | ok f m =>
      obtain ⟨f, ts⟩ := f
      have hn : f = .v (.rt (.bl true)) := hn
      subst hn
      intro v H' _ _ _ r
      cases r
      exact q H'
end
/-! ### try -/
def Rs.caughtT : TR Fl → TR Fl
  | .ok (.v f, ts) n => .ok (.v f, ts) n
  | .ok (.x c, ts) n => match exCode c with
    | some k => .ok (.v (.rt (.tup [.str "refused", .int k])), ts) n
    | none => .no
  | .ex _ _ => .no
  | .no => .no
  | .amb f => .amb fun b => (f b).caughtT
def uTry (F : TF Fl) : TF Fl := fun ρ n ts => (F ρ n ts).caughtT
section
variable {X : Cx} {W : WX} {F : TF Fl} {pos pos' np p1 p2 p3 p4 : Pos} {body : List Stmt} {n x : Str}
theorem TwsAt.has {K : PySem.W.Frag} {H : Hp} : ∀ {as : List TA} {ts : List Tn}, Paired (TwnAt K H) as ts → ∀ A ∈ as, ∀ b, A.has b → H b ≠ none
  | _, _, .nil, A, hA, _, _ => nomatch hA
  | _, _, .cons r p, A, hA, b, hb => by
    rcases List.mem_cons.mp hA with rfl | hA
    · obtain ⟨C, v1, v2, xs, ys, c, q1, q2, q3, _⟩ := r.ex
      rcases hb with rfl | rfl | rfl | rfl
      · rw [q1]; exact fun z => (nomatch z)
      · rw [r.dx]; exact fun z => (nomatch z)
      · rw [q2]; exact fun z => (nomatch z)
      · rw [q3]; exact fun z => (nomatch z)
    · exact TwsAt.has p A hA b hb
theorem ExT.some {K : PySem.W.Frag} {aT : Addr} {as0 : List TA} {ts : List Tn} {H0 H' : Hp} {m : Nat} {t : Addr} (e : ExT aT as0 H0 H') (tw : Tw aT H' m) (tws : TwsAt K H' as0 ts) (h : H0 t ≠ none) (h' : H' t = none) : False := by
  by_cases z : t = aT
  · rw [z, tw.1] at h'; cases h'
  by_cases y : ∃ A ∈ as0, A.has t
  · obtain ⟨A, hA, ha⟩ := y
    exact TwsAt.has tws A hA t ha h'
  · cases q : H0 t with
    | none => exact h q
    | some u => rw [e t u z (fun A hA ha => y ⟨A, hA, ha⟩) q] at h'; cases h'
theorem us_try (i : Nat) {j : Nat} {E : Addr} {cs : List Addr} (wk : WhK X.K X.mg E cs) (wd : WhD X.prog X.w X.K X.mg X.base cs x) (hr : Room (j + 1) X.A) (hN : X.N.Nodup) (hs : X.stack = X.env :: X.outer) (hf : X.env.frame = some X.env.locals) (tk : L2N.Takes X W)
    (hb : ∀ (W : WX) (pn : List (Addr × Obj)) (xe : Value → Shared → Prop), L2N.Takes (X.tr pn xe) W → PassesOwn (model X.prog X.w) X.A X.env xe → USs (X.tr pn xe) W body F)
    (hi : X.N[i]? = some n := by rfl) (hln : X.env.kindOf n = some .local := by rfl) (hge : Gl X "DoorError" := by rfl) (hg : Gl X x := by rfl) (hdb : (x == ("__debug__" : Str)) = false := by decide) (hd : (n == ("__debug__" : Str)) = false := by decide) (hcd : (n == ("__classdict__" : Str)) = false := by decide)
    (he : starEach [.Name n p2] X.env = (false, eval (.Name n p2) X.env) :: starEach [] X.env := by rfl) (hpl : (backTo p3 (starEach [] X.env)).any (·.1) = false := by rfl) :
    US X W (.Try body [.ExceptHandler (some (.Name "DoorError" np)) (some n) [.Return (some (.Call (.Name x p1) [.Name n p2] [] p3)) p4] pos'] [] [] pos) (uTry F) := by
  let ts : Addr → Value → Option Addr → TS := fun a cls d D σ H => ∃ (k : Nat) (C : Addr), cls = .ref C ∧ d = none ∧ cs[k]? = some C ∧ (∃ σ0 : L2.St, σ = σ0.set i (some (V.ref a))) ∧ ∀ H' t, (∀ b u, H b = some u → H' b = some u) → H t = none → SlT H' t [.str "refused", .int k] → D.rt (.ref t) H'
  have hvis : Vis X.env.scope n := .inl hln
  refine PS.imp (L2N.ps_try_as (c := .ref E) (ts := ts) (tb := fun W => GoU X W F) hs hf hN hi hln ⟨hge, by decide, .inl wk.e⟩ tk hb fun a oe cls d pn hz hfl => ?_) fun D σ H h => ?_
  · refine pss_one ⟨fun pins s σ H D I h => ?_⟩
    obtain ⟨k, C, rfl, rfl, hk, hσ, q⟩ := h
    exact (ps_ret (pe_which (j := j) wd hk hr hz.zc hfl hg hdb hi hvis hd hcd he hpl)).run pins s σ H D I ⟨hσ, q⟩
  · obtain ⟨aT, Oc0, Oc, H0, ρ, m, as0, as, tl, s, h⟩ := h
    refine ⟨aT, Oc0, Oc, H0, ρ, m, as0, as, tl, s, ?_⟩
    unfold uTry at h
    generalize F ρ m tl = r at h ⊢
    induction r with
    | no => exact h
    | ex c m' => exact h
    | amb f ih => exact fun b => ih b (h b)
    | ok f m' =>
      obtain ⟨f, tl'⟩ := f
      cases f with
      | v f => cases f <;> exact h
      | x c =>
        unfold Rs.caughtT at h
        cases hc : exCode c with
        | none => simp only [hc] at h; exact h.elim
        | some k =>
          simp only [hc] at h
          have h : GoU1 X.K X.mg W aT Oc0 H0 as0 H (Oo Oc σ ρ) (.ok (.v (.rt (.tup [.str "refused", .int k])), tl') m') D := h
          have e1 := exCode_some hc
          have hk : k < 13 := (List.getElem?_eq_some_iff.mp e1).1
          have hC : cs[k]? = some (cs[k]'(by rw [wk.len]; exact hk)) := List.getElem?_eq_getElem (by rw [wk.len]; exact hk)
          generalize cs[k]'(by rw [wk.len]; exact hk) = C at hC
          refine ⟨.ref C, wk.g k c C e1 hC, fun σ' H' ex tw tws => ⟨true, (wk.at hC).2.1, fun _ a ha => ⟨k, C, rfl, rfl, hC, ⟨σ', rfl⟩, fun H2 t e2 e3 e4 => ?_⟩, fun z => nomatch z⟩⟩
          have ex2 : ExT aT as0 H0 H2 := ex.trans fun b u _ _ e => e2 b u e
          have nO : ¬ Oc0 t := fun z => ex.some tw tws (s.d0 t z) e3
          exact h _ H2 ex2 ⟨e2 _ _ tw.1, tw.2⟩ (twns_mono (fun b o u q => e2 b _ q) tws fun A hA b u _ q => e2 b u q) (.tup (.inl ⟨e4, nO⟩) (.cons (.str _) (.cons (.int _) .nil)))
end
end DL

set_option Elab.async false
set_option linter.all false
set_option maxRecDepth 100000
set_option maxHeartbeats 4000000
namespace DL
open PySem PySem.Spec PyProof.Rows L2
/-! ### what a town's own methods do with its fields -/
def TwF (K : PySem.W.Frag) : Prop := ∀ C, TwK K C → NoAttr K C "past" ∧ NoAttr K C "calls"
section
variable {K : PySem.W.Frag} {aT : Addr} {Oc0 Oc : Addr → Prop} {H0 H H' : Hp} {σ : St} {ρ : Ev} {n n' : Nat} {as0 as : List TA} {ts : List Tn} {A : TA} {t t' : Tn}
theorem StU.turn (s : StU K aT Oc0 Oc H0 H σ ρ n as0 as ts) {k : Nat} (hA : as[k]? = some A) (e : ExT aT [A] H H') (tt : Tw aT H' n') (h : TwnAt K H' A t') : StU K aT Oc0 Oc H0 H' σ ρ n' as0 as (ts.set k t') :=
  s.go (fun b u n1 n2 q => e b u n1 (fun B hB => by
    simp only [List.mem_singleton] at hB
    subst hB
    exact n2 _ (List.mem_of_getElem? hA)) q) (s.t.turn hA e tt h)
theorem exT_upd {b : Addr} {o : HO} (h : A.has b) : ExT aT [A] H (upd H b o) := fun x u _ n2 q => by
  rw [upd_ne (fun z => n2 A (List.mem_singleton.mpr rfl) (by rw [z]; exact h))]; exact q
theorem RFs.append : ∀ {xs ys : List V} {ds es : List D}, RFs K H xs ds → RFs K H ys es → RFs K H (xs ++ ys) (ds ++ es)
  | _, _, _, _, .nil, q => q
  | _, _, _, _, .cons r p, q => .cons r (RFs.append p q)
theorem RFs.length : ∀ {xs : List V} {ds : List D}, RFs K H xs ds → xs.length = ds.length
  | _, _, .nil => rfl
  | _, _, .cons _ p => by rw [List.length_cons, List.length_cons, RFs.length p]
theorem RFs.get : ∀ {xs : List V} {ds : List D} {i : Nat} {d : D}, RFs K H xs ds → ds[i]? = some d → ∃ v, xs[i]? = some v ∧ RF K H v d
  | _, _, i, d, .nil, h => by simp at h
  | _, _, 0, d, .cons r _, h => by simp at h; subst h; exact ⟨_, rfl, r⟩
  | _, _, i + 1, d, .cons _ p, h => by
    obtain ⟨v, h1, h2⟩ := RFs.get p (i := i) (d := d) (by simpa using h)
    exact ⟨v, by simpa using h1, h2⟩
theorem RFs.dropLast : ∀ {xs : List V} {ds : List D}, RFs K H xs ds → RFs K H xs.dropLast ds.dropLast
  | _, _, .nil => .nil
  | _, _, .cons r .nil => .nil
  | _, _, .cons r (.cons q p) => .cons r (RFs.dropLast (.cons q p))
theorem fz_upd {b : Addr} {o : HO} (h : ∀ x y, H b ≠ some (.frz x y)) : Fz H (upd H b o) := fun c x y q => by
  rw [upd_ne (fun z => h x y (by rw [← z]; exact q))]; exact q
theorem TwnAt.putP (h : TwnAt K H A t) {zs : List V} {ps : List D} (r : RFs K H zs ps) : TwnAt K (upd H A.p (.lst zs)) A { t with ps := ps } := by
  obtain ⟨C, v1, v2, xs, ys, c, e1, e2, e3, r1, r2, r3, r4⟩ := h.ex
  have z : Fz H (upd H A.p (.lst zs)) := fz_upd fun x y q => by rw [e2] at q; cases q
  have nd : A.dx ≠ A.p := fun q => by have := h.dx; rw [q, e2] at this; cases this
  exact ⟨⟨C, v1, v2, zs, ys, c, by rw [upd_ne h.ap]; exact e1, upd_same, by rw [upd_ne (Ne.symm h.pq)]; exact e3, r1.mono z, r2.mono z, r.mono z, r4.mono z⟩, by rw [upd_ne nd]; exact h.dx, h.ap, h.aq, h.pq⟩
theorem TwnAt.putQ (h : TwnAt K H A t) {zs : List V} {cs : List D} (r : RFs K H zs cs) : TwnAt K (upd H A.q (.lst zs)) A { t with cs := cs } := by
  obtain ⟨C, v1, v2, xs, ys, c, e1, e2, e3, r1, r2, r3, r4⟩ := h.ex
  have z : Fz H (upd H A.q (.lst zs)) := fz_upd fun x y q => by rw [e3] at q; cases q
  have nd : A.dx ≠ A.q := fun q => by have := h.dx; rw [q, e3] at this; cases this
  exact ⟨⟨C, v1, v2, xs, zs, c, by rw [upd_ne h.aq]; exact e1, by rw [upd_ne h.pq]; exact e2, upd_same, r1.mono z, r2.mono z, r3.mono z, r.mono z⟩, by rw [upd_ne nd]; exact h.dx, h.ap, h.aq, h.pq⟩
theorem StT.at (s : StT K aT Oc H σ ρ n as ts) {k : Nat} (hA : as[k]? = some A) : ∃ t, ts[k]? = some t ∧ TwnAt K H A t := pairedGetL s.tw hA
theorem StT.nT' (s : StT K aT Oc H σ ρ n as ts) {k : Nat} (hA : as[k]? = some A) {b : Addr} (h : A.has b) : aT ≠ b := fun z => s.nT A (List.mem_of_getElem? hA) (by rw [z]; exact h)
theorem Tw.upd' {b : Addr} {o : HO} (t : Tw aT H n) (h : aT ≠ b) : Tw aT (upd H b o) n := ⟨by rw [upd_ne h]; exact t.1, t.2⟩
end
def pushP (t : Tn) (d : D) : Tn := { t with ps := t.ps ++ [d] }
def pushC (t : Tn) (d : D) : Tn := { t with cs := t.cs ++ [d] }
def setH (t : Tn) (d : D) : Tn := { t with h := d }
/-- at one town, behind an expression -/
def uAt (i : Nat) (f : TF D) (g : Tn → D → Option Tn) : TF Fl := fun ρ n ts => match twnOf i ρ ts with
  | some (k, _, _) => (f ρ n ts).bnd fun d n1 ts1 => match ts1[k]? with
    | some t => match g t d with
      | some t' => .ok (.v (.nx ρ), ts1.set k t') n1
      | none => .no
    | none => .no
  | none => .no
def gPushP (t : Tn) (d : D) : Option Tn := if d.fz = true ∧ t.ps.length < szMax then some (pushP t d) else none
def gPushC (t : Tn) (d : D) : Option Tn := if d.fz = true ∧ t.cs.length < szMax then some (pushC t d) else none
def gSetH (t : Tn) (d : D) : Option Tn := if d.fz = true then some (setH t d) else none
section
variable {X : Cx} {W : WX} {e : Expr} {pos : Pos}
theorem us_pushP (i : Nat) {f : TF D} {x : Str} {p ap apos cpos : Pos} (tf : TwF X.K) (he : TEx X W e f) (hN : X.N[i]? = some x := by rfl) (hv : Vis X.env.scope x := by first | exact Or.inl rfl | exact Or.inr (Or.inl rfl) | exact Or.inr (Or.inr rfl)) (hd : (x == ("__debug__" : Str)) = false := by decide) (hcd : (x == ("__classdict__" : Str)) = false := by decide)
    (hb1 : attributeBase (.Name x p) "past" X.env (eval (.Name x p) X.env) = eval (.Name x p) X.env := by rfl)
    (hbase : attributeBase (.Attribute (.Name x p) "past" ap) "append" X.env (eval (.Attribute (.Name x p) "past" ap) X.env) = eval (.Attribute (.Name x p) "past" ap) X.env := by rfl)
    (hfew : ((backTo cpos (starEach [e] X.env)).all (fun x => !x.1) && (backToKw cpos (keywordEach [] X.env)).all (fun x => x.1.isSome)
      && decide (([e] : List Expr).length + ([] : List Keyword).length + (if ([] : List Keyword).isEmpty then 0 else 1) < 30)) = true := by rfl)
    (hline : (apos.endLine == cpos.line) = true := by rfl) (hs : starEach [e] X.env = (false, eval e X.env) :: starEach [] X.env := by rfl) (hplain : (backTo cpos (starEach [] X.env)).any (·.1) = false := by rfl)
    (hsw : swapsWith (.Call (.Attribute (.Attribute (.Name x p) "past" ap) "append" apos) [e] [] cpos) none pos.line X.env = pure false := by rfl) :
    US X W (.Expr (.Call (.Attribute (.Attribute (.Name x p) "past" ap) "append" apos) [e] [] cpos) pos) (uAt i f gPushP) := by
  refine PS.imp (ps_expr (pe_bm PySem.F.plainAttrs_list PySem.F.slot_list_append PySem.F.type_list_append mt_append (pe_fld (pe_var hN hv hd hcd) hb1) (pa_cons he pa_nil hs) hbase hfew hline hs hplain) hsw) fun E σ H h => ?_
  obtain ⟨aT, Oc0, Oc, H0, ρ, n, as0, as, ts, s, h⟩ := h
  unfold uAt at h
  cases hw : twnOf i ρ ts with
  | none => rw [hw] at h; exact h.elim
  | some kt =>
    obtain ⟨k, a0, t⟩ := kt
    rw [hw] at h
    obtain ⟨A, rfl, hA, hts, hσ, tw⟩ := twnOf_some s.t hw
    obtain ⟨C, v1, v2, xs, ys, c, e1, e2, e3, r1, r2, r3, r4⟩ := tw.ex
    refine ⟨_, hσ, A.a, C, A.dx, _, .ref A.p, rfl, e1, c.cls, (tf C c).1, rfl, .inl ⟨rfl, xs, SqL.of e2⟩, ?_⟩
    refine GoU.bind s h fun H1 v d n1 ts1 s1 r g => ?_
    obtain ⟨t1, ht1, tw1⟩ := s1.t.at hA
    rw [ht1] at g
    by_cases hc : d.fz = true ∧ t1.ps.length < szMax
    case neg => simp only [gPushP, if_neg hc] at g; exact g.elim
    simp only [gPushP, if_pos hc] at g
    obtain ⟨C1, w1, w2, xs1, ys1, c1, q1, q2, q3, z1, z2, z3, z4⟩ := tw1.ex
    refine ⟨A.p, xs1, v, rfl, rfl, q2, sz1 (by rw [z3.length]; exact hc.2), ?_⟩
    have s2 := s1.turn hA (exT_upd (.inr (.inr (.inl rfl)))) (s1.t.st.tw.upd' (s1.t.nT' hA (.inr (.inr (.inl rfl))))) (tw1.putP (z3.append (.cons (Rp.rf r hc.1) .nil)))
    exact g σ _ Oc as (s1.t.kp (fun b u n1 n2 q => by rw [upd_ne (fun z => n2 A (List.mem_of_getElem? hA) (by rw [z]; exact .inr (.inr (.inl rfl))))]; exact q)) s2
theorem us_pushC (i : Nat) {f : TF D} {x : Str} {p ap apos cpos : Pos} (tf : TwF X.K) (he : TEx X W e f) (hN : X.N[i]? = some x := by rfl) (hv : Vis X.env.scope x := by first | exact Or.inl rfl | exact Or.inr (Or.inl rfl) | exact Or.inr (Or.inr rfl)) (hd : (x == ("__debug__" : Str)) = false := by decide) (hcd : (x == ("__classdict__" : Str)) = false := by decide)
    (hb1 : attributeBase (.Name x p) "calls" X.env (eval (.Name x p) X.env) = eval (.Name x p) X.env := by rfl)
    (hbase : attributeBase (.Attribute (.Name x p) "calls" ap) "append" X.env (eval (.Attribute (.Name x p) "calls" ap) X.env) = eval (.Attribute (.Name x p) "calls" ap) X.env := by rfl)
    (hfew : ((backTo cpos (starEach [e] X.env)).all (fun x => !x.1) && (backToKw cpos (keywordEach [] X.env)).all (fun x => x.1.isSome)
      && decide (([e] : List Expr).length + ([] : List Keyword).length + (if ([] : List Keyword).isEmpty then 0 else 1) < 30)) = true := by rfl)
    (hline : (apos.endLine == cpos.line) = true := by rfl) (hs : starEach [e] X.env = (false, eval e X.env) :: starEach [] X.env := by rfl) (hplain : (backTo cpos (starEach [] X.env)).any (·.1) = false := by rfl)
    (hsw : swapsWith (.Call (.Attribute (.Attribute (.Name x p) "calls" ap) "append" apos) [e] [] cpos) none pos.line X.env = pure false := by rfl) :
    US X W (.Expr (.Call (.Attribute (.Attribute (.Name x p) "calls" ap) "append" apos) [e] [] cpos) pos) (uAt i f gPushC) := by
  refine PS.imp (ps_expr (pe_bm PySem.F.plainAttrs_list PySem.F.slot_list_append PySem.F.type_list_append mt_append (pe_fld (pe_var hN hv hd hcd) hb1) (pa_cons he pa_nil hs) hbase hfew hline hs hplain) hsw) fun E σ H h => ?_
  obtain ⟨aT, Oc0, Oc, H0, ρ, n, as0, as, ts, s, h⟩ := h
  unfold uAt at h
  cases hw : twnOf i ρ ts with
  | none => rw [hw] at h; exact h.elim
  | some kt =>
    obtain ⟨k, a0, t⟩ := kt
    rw [hw] at h
    obtain ⟨A, rfl, hA, hts, hσ, tw⟩ := twnOf_some s.t hw
    obtain ⟨C, v1, v2, xs, ys, c, e1, e2, e3, r1, r2, r3, r4⟩ := tw.ex
    refine ⟨_, hσ, A.a, C, A.dx, _, .ref A.q, rfl, e1, c.cls, (tf C c).2, rfl, .inl ⟨rfl, ys, SqL.of e3⟩, ?_⟩
    refine GoU.bind s h fun H1 v d n1 ts1 s1 r g => ?_
    obtain ⟨t1, ht1, tw1⟩ := s1.t.at hA
    rw [ht1] at g
    by_cases hc : d.fz = true ∧ t1.cs.length < szMax
    case neg => simp only [gPushC, if_neg hc] at g; exact g.elim
    simp only [gPushC, if_pos hc] at g
    obtain ⟨C1, w1, w2, xs1, ys1, c1, q1, q2, q3, z1, z2, z3, z4⟩ := tw1.ex
    refine ⟨A.q, ys1, v, rfl, rfl, q3, sz1 (by rw [z4.length]; exact hc.2), ?_⟩
    have s2 := s1.turn hA (exT_upd (.inr (.inr (.inr rfl)))) (s1.t.st.tw.upd' (s1.t.nT' hA (.inr (.inr (.inr rfl))))) (tw1.putQ (z4.append (.cons (Rp.rf r hc.1) .nil)))
    exact g σ _ Oc as (s1.t.kp (fun b u n1 n2 q => by rw [upd_ne (fun z => n2 A (List.mem_of_getElem? hA) (by rw [z]; exact .inr (.inr (.inr rfl))))]; exact q)) s2
theorem TwnAt.putH {K : PySem.W.Frag} {H : Hp} {A : TA} {t : Tn} {C v1 v2 v d} (h : TwnAt K H A t) (c : TwK K C) (e1 : H A.a = some (.ins C A.dx [("claim", v1), ("how", v2), ("past", .ref A.p), ("calls", .ref A.q)])) (r : RF K H v d) :
    TwnAt K (upd H A.a (.ins C A.dx [("claim", v1), ("how", v), ("past", .ref A.p), ("calls", .ref A.q)])) A (setH t d) := by
  obtain ⟨C', w1, w2, xs, ys, c', q1, e2, e3, r1, r2, r3, r4⟩ := h.ex
  rw [e1] at q1
  cases q1
  have z : Fz H (upd H A.a (.ins C A.dx [("claim", v1), ("how", v), ("past", .ref A.p), ("calls", .ref A.q)])) := fz_upd fun x y q => by rw [e1] at q; cases q
  have nd : A.dx ≠ A.a := fun q => by have := h.dx; rw [q, e1] at this; cases this
  exact ⟨⟨C, v1, v, xs, ys, c, upd_same, by rw [upd_ne (Ne.symm h.ap)]; exact e2, by rw [upd_ne (Ne.symm h.aq)]; exact e3, r1.mono z, r.mono z, r3.mono z, r4.mono z⟩, by rw [upd_ne nd]; exact h.dx, h.ap, h.aq, h.pq⟩
theorem us_setH (i : Nat) {f : TF D} {x : Str} {p pos' : Pos} (he : TEx X W e f) (hN : X.N[i]? = some x := by rfl) (hv : Vis X.env.scope x := by first | exact Or.inl rfl | exact Or.inr (Or.inl rfl) | exact Or.inr (Or.inr rfl)) (hd : (x == ("__debug__" : Str)) = false := by decide) (hcd : (x == ("__classdict__" : Str)) = false := by decide)
    (hs : swapsWith e (some (.Attribute (.Name x p) "how" pos')) pos.line X.env = pure false := by rfl) :
    US X W (.Assign [.Attribute (.Name x p) "how" pos'] e pos) (uAt i f gSetH) := by
  refine PS.imp (ps_fld (pe_var hN hv hd hcd) he hs) fun E σ H h => ?_
  obtain ⟨aT, Oc0, Oc, H0, ρ, n, as0, as, ts, s, h⟩ := h
  unfold uAt at h
  cases hw : twnOf i ρ ts with
  | none => rw [hw] at h; exact h.elim
  | some kt =>
    obtain ⟨k, a0, t⟩ := kt
    rw [hw] at h
    obtain ⟨A, rfl, hA, hts, hσ, tw⟩ := twnOf_some s.t hw
    refine GoU.bind s h fun H1 v d n1 ts1 s1 r g => ?_
    obtain ⟨t1, ht1, tw1⟩ := s1.t.at hA
    rw [ht1] at g
    by_cases hc : d.fz = true
    case neg => simp only [gSetH, if_neg hc] at g; exact g.elim
    simp only [gSetH, if_pos hc] at g
    obtain ⟨C1, w1, w2, xs1, ys1, c1, q1, q2, q3, z1, z2, z3, z4⟩ := tw1.ex
    refine ⟨_, hσ, A.a, C1, A.dx, _, rfl, q1, c1.cls, c1.nh, by show 4 < 1000; omega, ?_⟩
    have ep : putF (Str.ofString "how") v [(Str.ofString "claim", w1), (Str.ofString "how", w2), (Str.ofString "past", V.ref A.p), (Str.ofString "calls", V.ref A.q)] = [(Str.ofString "claim", w1), (Str.ofString "how", v), (Str.ofString "past", .ref A.p), (Str.ofString "calls", .ref A.q)] := rfl
    rw [ep]
    have s2 := s1.turn hA (exT_upd (.inl rfl)) (s1.t.st.tw.upd' (s1.t.nT' hA (.inl rfl))) (tw1.putH c1 q1 (Rp.rf r hc))
    exact g σ _ Oc as (s1.t.kp (fun b u n1 n2 q => by rw [upd_ne (fun z => n2 A (List.mem_of_getElem? hA) (by rw [z]; exact .inl rfl))]; exact q)) s2
/-! pop -/
def xPopP (i : Nat) : TF D := fun ρ n ts => match twnOf i ρ ts with
  | some (k, _, t) => match t.ps[t.ps.length - 1]? with
    | some d => .ok (.v d, ts.set k { t with ps := t.ps.dropLast }) n
    | none => .no
  | none => .no
def xPopC (i : Nat) : TF D := fun ρ n ts => match twnOf i ρ ts with
  | some (k, _, t) => match t.cs[t.cs.length - 1]? with
    | some d => .ok (.v d, ts.set k { t with cs := t.cs.dropLast }) n
    | none => .no
  | none => .no
theorem te_popP (i : Nat) {x : Str} {p ap apos cpos : Pos} (tf : TwF X.K) (hN : X.N[i]? = some x := by rfl) (hv : Vis X.env.scope x := by first | exact Or.inl rfl | exact Or.inr (Or.inl rfl) | exact Or.inr (Or.inr rfl)) (hd : (x == ("__debug__" : Str)) = false := by decide) (hcd : (x == ("__classdict__" : Str)) = false := by decide)
    (hb1 : attributeBase (.Name x p) "past" X.env (eval (.Name x p) X.env) = eval (.Name x p) X.env := by rfl)
    (hbase : attributeBase (.Attribute (.Name x p) "past" ap) "pop" X.env (eval (.Attribute (.Name x p) "past" ap) X.env) = eval (.Attribute (.Name x p) "past" ap) X.env := by rfl) (hline : (apos.endLine == cpos.line) = true := by rfl) :
    TEx X W (.Call (.Attribute (.Attribute (.Name x p) "past" ap) "pop" apos) [] [] cpos) (xPopP i) := by
  refine PE.imp (pe_bm0 PySem.F.plainAttrs_list PySem.F.slot_list_pop PySem.F.type_list_pop mt_pop (pe_fld (pe_var hN hv hd hcd) hb1) hbase hline) fun σ H Q h => ?_
  obtain ⟨aT, Oc, ρ, n, as, ts, s, h⟩ := h
  unfold xPopP at h
  cases hw : twnOf i ρ ts with
  | none => rw [hw] at h; exact h.elim
  | some kt =>
    obtain ⟨k, a0, t⟩ := kt
    rw [hw] at h
    obtain ⟨A, rfl, hA, hts, hσ, tw⟩ := twnOf_some s hw
    obtain ⟨C, v1, v2, xs, ys, c, e1, e2, e3, r1, r2, r3, r4⟩ := tw.ex
    refine ⟨_, hσ, A.a, C, A.dx, _, .ref A.p, rfl, e1, c.cls, (tf C c).1, rfl, .inl ⟨rfl, xs, SqL.of e2⟩, ?_⟩
    cases hq : t.ps[t.ps.length - 1]? with
    | none => simp only [hq] at h; exact h.elim
    | some d =>
      simp only [hq] at h
      obtain ⟨v, h1, h2⟩ := r3.get hq
      refine ⟨A.p, xs, v, rfl, rfl, e2, by rw [r3.length]; exact h1, ?_⟩
      have s2 := s.turn hA (exT_upd (aT := aT) (o := .lst xs.dropLast) (.inr (.inr (.inl rfl)))) (s.st.tw.upd' (s.nT' hA (.inr (.inr (.inl rfl))))) (tw.putP r3.dropLast)
      refine h v _ (fun b u n1 n2 q => by rw [upd_ne (fun z => n2 A (List.mem_of_getElem? hA) (by rw [z]; exact .inr (.inr (.inl rfl))))]; exact q) s2 ?_
      refine (h2.mono (fz_upd fun x y q => by rw [e2] at q; cases q)).rp ?_
      exact s2.st.nfO s2.nf
theorem te_popC (i : Nat) {x : Str} {p ap apos cpos : Pos} (tf : TwF X.K) (hN : X.N[i]? = some x := by rfl) (hv : Vis X.env.scope x := by first | exact Or.inl rfl | exact Or.inr (Or.inl rfl) | exact Or.inr (Or.inr rfl)) (hd : (x == ("__debug__" : Str)) = false := by decide) (hcd : (x == ("__classdict__" : Str)) = false := by decide)
    (hb1 : attributeBase (.Name x p) "calls" X.env (eval (.Name x p) X.env) = eval (.Name x p) X.env := by rfl)
    (hbase : attributeBase (.Attribute (.Name x p) "calls" ap) "pop" X.env (eval (.Attribute (.Name x p) "calls" ap) X.env) = eval (.Attribute (.Name x p) "calls" ap) X.env := by rfl) (hline : (apos.endLine == cpos.line) = true := by rfl) :
    TEx X W (.Call (.Attribute (.Attribute (.Name x p) "calls" ap) "pop" apos) [] [] cpos) (xPopC i) := by
  refine PE.imp (pe_bm0 PySem.F.plainAttrs_list PySem.F.slot_list_pop PySem.F.type_list_pop mt_pop (pe_fld (pe_var hN hv hd hcd) hb1) hbase hline) fun σ H Q h => ?_
  obtain ⟨aT, Oc, ρ, n, as, ts, s, h⟩ := h
  unfold xPopC at h
  cases hw : twnOf i ρ ts with
  | none => rw [hw] at h; exact h.elim
  | some kt =>
    obtain ⟨k, a0, t⟩ := kt
    rw [hw] at h
    obtain ⟨A, rfl, hA, hts, hσ, tw⟩ := twnOf_some s hw
    obtain ⟨C, v1, v2, xs, ys, c, e1, e2, e3, r1, r2, r3, r4⟩ := tw.ex
    refine ⟨_, hσ, A.a, C, A.dx, _, .ref A.q, rfl, e1, c.cls, (tf C c).2, rfl, .inl ⟨rfl, ys, SqL.of e3⟩, ?_⟩
    cases hq : t.cs[t.cs.length - 1]? with
    | none => simp only [hq] at h; exact h.elim
    | some d =>
      simp only [hq] at h
      obtain ⟨v, h1, h2⟩ := r4.get hq
      refine ⟨A.q, ys, v, rfl, rfl, e3, by rw [r4.length]; exact h1, ?_⟩
      have s2 := s.turn hA (exT_upd (aT := aT) (o := .lst ys.dropLast) (.inr (.inr (.inr rfl)))) (s.st.tw.upd' (s.nT' hA (.inr (.inr (.inr rfl))))) (tw.putQ r4.dropLast)
      refine h v _ (fun b u n1 n2 q => by rw [upd_ne (fun z => n2 A (List.mem_of_getElem? hA) (by rw [z]; exact .inr (.inr (.inr rfl))))]; exact q) s2 ?_
      refine (h2.mono (fz_upd fun x y q => by rw [e3] at q; cases q)).rp ?_
      exact s2.st.nfO s2.nf
/-! self.past == [] -/
def xPastNil (i : Nat) : TF Bool := fun ρ n ts => match twnOf i ρ ts with
  | some (_, _, t) => match eqD (.lst t.ps) (.lst []) with
    | some z => .ok (.v z, ts) n
    | none => .no
  | none => .no
theorem tt_pastNil (i : Nat) {x : Str} {p ap lp : Pos} (tf : TwF X.K) (hu : X.A.units + 64 < cLine) (hN : X.N[i]? = some x := by rfl) (hv : Vis X.env.scope x := by first | exact Or.inl rfl | exact Or.inr (Or.inl rfl) | exact Or.inr (Or.inr rfl)) (hd : (x == ("__debug__" : Str)) = false := by decide) (hcd : (x == ("__classdict__" : Str)) = false := by decide)
    (hb1 : attributeBase (.Name x p) "past" X.env (eval (.Name x p) X.env) = eval (.Name x p) X.env := by rfl) (hm : behindInMarks .Eq (.List [] lp) = false := by rfl) :
    TTs X W (.Compare (.Attribute (.Name x p) "past" ap) [.Eq] [.List [] lp] pos) (xPastNil i) := by
  obtain ⟨r, g1, g2⟩ := cm_eq (X := X) hu
  refine PT.imp (pt_cmpR g1 (pe_fld (pe_var hN hv hd hcd) hb1) (pe_lst pa_nil) hm) fun σ H Q h => ?_
  obtain ⟨aT, Oc, ρ, n, as, ts, s, h⟩ := h
  unfold xPastNil at h
  cases hw : twnOf i ρ ts with
  | none => rw [hw] at h; exact h.elim
  | some kt =>
    obtain ⟨k, a0, t⟩ := kt
    rw [hw] at h
    obtain ⟨A, rfl, hA, hts, hσ, tw⟩ := twnOf_some s hw
    obtain ⟨C, v1, v2, xs, ys, c, e1, e2, e3, r1, r2, r3, r4⟩ := tw.ex
    refine ⟨_, hσ, A.a, C, A.dx, _, .ref A.p, rfl, e1, c.cls, (tf C c).1, rfl, ?_⟩
    refine ⟨Nat.zero_le _, fun q hq => ?_⟩
    cases hz : eqD (.lst t.ps) (.lst []) with
    | none => simp only [hz] at h; exact h.elim
    | some z =>
      simp only [hz] at h
      have ne : A.p ≠ q := fun y => by rw [← y, e2] at hq; cases hq
      have ex : Ex1 aT H (upd H q (.lst [])) := .new hq
      have s2 := s.step ex (s.st.tw.new hq)
      have fz : Fz H (upd H q (.lst [])) := fz_upd fun x y w => by rw [hq] at w; cases w
      refine g2 aT (fun _ => False) _ _ _ (.lst t.ps) (.lst []) z _ (.inl (.lst (xs := xs) (by rw [upd_ne ne]; exact e2) (fun z => z) ((r3.mono fz).rp fun _ z => z.elim))) (.inl (.lst (xs := []) upd_same (fun z => z) .nil)) hz ⟨z, rfl, ?_⟩
      exact h z _ ex.t s2 rfl
end
end DL

set_option Elab.async false
set_option linter.all false
set_option maxRecDepth 100000
set_option maxHeartbeats 4000000
namespace DL
open PySem PySem.Spec PyProof.Rows L2
/-! ### a town is made -/
/-- what an object's making leaves -/
structure Made (K : PySem.W.Frag) (aT : Addr) (Oc : Addr → Prop) (H0 H : Hp) (C : Addr) (A : TA) (c h : D) (n : Nat) : Prop where
  ex : ∃ v1 v2, H A.a = some (.ins C A.dx [("claim", v1), ("how", v2), ("past", .ref A.p), ("calls", .ref A.q)]) ∧ Rp K aT Oc H v1 c ∧ Rp K aT Oc H v2 h
  p : H A.p = some (.lst [])
  q : H A.q = some (.lst [])
  dx : H A.dx = some (.own A.a)
  pq : A.p ≠ A.q
  p0 : H0 A.p = none
  q0 : H0 A.q = none
  kp : ∀ b u, b ≠ aT → b ≠ A.a → H0 b = some u → H b = some u
  tw : Tw aT H n
def GoI1 (K : PySem.W.Frag) (mg : Str → Option Value) (W : WX) (aT : Addr) (Oc : Addr → Prop) (H0 : Hp) (x dx C : Addr) (E : Ends) : Rs (D × D) → Prop
  | .ok (c, h) n' => ∀ σ' H' p q, Made K aT Oc H0 H' C ⟨x, dx, p, q⟩ c h n' → E.nx σ' H'
  | .ex c n' => ∃ u, mg c = some u ∧ ∀ σ' H', (∀ b u, b ≠ aT → b ≠ x → H0 b = some u → H' b = some u) → Tw aT H' n' → W u none σ' H'
  | .no => False
  | .amb f => ∀ b, GoI1 K mg W aT Oc H0 x dx C E (f b)
structure StI (K : PySem.W.Frag) (aT : Addr) (Oc : Addr → Prop) (H0 H : Hp) (σ : St) (ρ : Ev) (n : Nat) (x dx C : Addr) (fs : List (Str × V)) : Prop where
  st : StE K aT Oc H σ ρ n
  self : ρ[0]? = some (.tw 0 x)
  now : ∀ (i : Nat) (d : D), ρ[i]? ≠ some (.ow d)
  ex : ∀ b u, b ≠ aT → b ≠ x → H0 b = some u → H b = some u
  ox : Oc x
  od : Oc dx
  nx : x ≠ aT
  nd : dx ≠ aT
  ne : dx ≠ x
  dx0 : H0 dx = some (.own x)
  at_ : H x = some (.ins C dx fs)
def initR (f1 f2 fc fh : SE) : Ev → Nat → Rs (D × D) := fun ρ n => (f1 ρ n).bind fun _ n1 => (f2 ρ n1).bind fun _ n2 => (fc ρ n2).bind fun c n3 => (fh ρ n3).bind fun h n4 => .ok (c, h) n4
section
variable {X : Cx} {W : WX} {e1 e2 ec eh : Expr} {f1 f2 fc fh : SE}
theorem GoI.bind {α β : Type} {R : Rl β α} {aT : Addr} {Oc : Addr → Prop} {H0 H : Hp} {σ : St} {ρ : Ev} {n : Nat} {x dx C : Addr} {fs : List (Str × V)} {f : Ev → Nat → Rs α} {k : α → Nat → Rs (D × D)} {E : Ends} {Q : β → Hp → Prop}
    (s : StI X.K aT Oc H0 H σ ρ n x dx C fs) (h : GoI1 X.K X.mg W aT Oc H0 x dx C E ((f ρ n).bind k))
    (step : ∀ H1 v a n1, StI X.K aT Oc H0 H1 σ ρ n1 x dx C fs → Ex1 aT H H1 → R aT (Oo Oc σ ρ) H H1 v a → GoI1 X.K X.mg W aT Oc H0 x dx C E (k a n1) → Q v H1) : Go X W R f σ H Q := by
  refine ⟨aT, Oc, ρ, n, s.st, ?_⟩
  generalize f ρ n = r at h
  induction r with
  | amb f ih => exact fun b => ih b (h b)
  | ok a n1 =>
    intro v H1 e t r
    exact step H1 v a n1 ⟨s.st.step e t, s.self, s.now, fun b u n1 n2 q => e b u n1 (s.ex b u n1 n2 q), s.ox, s.od, s.nx, s.nd, s.ne, s.dx0, e _ _ s.nx s.at_⟩ e r h
  | ex c n1 =>
    obtain ⟨u, h1, h2⟩ := h
    exact ⟨u, h1, fun H' e t => h2 σ H' (fun b u n1 n2 q => e b u n1 (s.ex b u n1 n2 q)) t⟩
  | no => exact h
theorem StI.write {K : PySem.W.Frag} {aT : Addr} {Oc : Addr → Prop} {H0 H : Hp} {σ : St} {ρ : Ev} {n : Nat} {x dx C : Addr} {fs gs : List (Str × V)} (s : StI K aT Oc H0 H σ ρ n x dx C fs) : StI K aT Oc H0 (upd H x (.ins C dx gs)) σ ρ n x dx C gs :=
  ⟨s.st.wr s.ox s.nx, s.self, s.now, fun b u n1 n2 q => by rw [upd_ne n2]; exact s.ex b u n1 n2 q, s.ox, s.od, s.nx, s.nd, s.ne, s.dx0, upd_same⟩
theorem StI.kpw {K : PySem.W.Frag} {aT : Addr} {Oc : Addr → Prop} {H0 H : Hp} {σ : St} {ρ : Ev} {n : Nat} {x dx C : Addr} {fs gs : List (Str × V)} (s : StI K aT Oc H0 H σ ρ n x dx C fs) {o : HO} : Kp (Oo Oc σ ρ) H (Oo Oc σ ρ) (upd H x o) := fun b u q nb => ⟨by rw [upd_ne (fun z => nb (.inl (by rw [z]; exact s.ox)))]; exact q, nb⟩
theorem pss_init {n0 : Str} {p1 p2 p3 p4 p5 p6 p7 p8 q1 q2 q3 q4 q5 q6 l1 l2 : Pos} (tf : TwF X.K) (h1 : DE X W e1 f1) (h2 : DE X W e2 f2) (hc : DE X W ec fc) (hh : DE X W eh fh)
    (hN : X.N[0]? = some n0 := by rfl) (hv : Vis X.env.scope n0 := by first | exact Or.inl rfl | exact Or.inr (Or.inl rfl) | exact Or.inr (Or.inr rfl)) (hd : (n0 == ("__debug__" : Str)) = false := by decide) (hcd : (n0 == ("__classdict__" : Str)) = false := by decide)
    (w1 : swapsWith e1 none q1.line X.env = pure false := by rfl) (w2 : swapsWith e2 none q2.line X.env = pure false := by rfl)
    (w3 : swapsWith ec (some (.Attribute (.Name n0 p1) "claim" p2)) q3.line X.env = pure false := by rfl) (w4 : swapsWith eh (some (.Attribute (.Name n0 p3) "how" p4)) q4.line X.env = pure false := by rfl)
    (w5 : swapsWith (.List [] l1) (some (.Attribute (.Name n0 p5) "past" p6)) q5.line X.env = pure false := by rfl) (w6 : swapsWith (.List [] l2) (some (.Attribute (.Name n0 p7) "calls" p8)) q6.line X.env = pure false := by rfl) :
    PSs X [.Expr e1 q1, .Expr e2 q2, .Assign [.Attribute (.Name n0 p1) "claim" p2] ec q3, .Assign [.Attribute (.Name n0 p3) "how" p4] eh q4, .Assign [.Attribute (.Name n0 p5) "past" p6] (.List [] l1) q5, .Assign [.Attribute (.Name n0 p7) "calls" p8] (.List [] l2) q6]
      (fun E σ H => ∃ (aT : Addr) (Oc : Addr → Prop) (H0 : Hp) (ρ : Ev) (n : Nat) (x dx C : Addr), TwK X.K C ∧ StI X.K aT Oc H0 H σ ρ n x dx C [] ∧ GoI1 X.K X.mg W aT Oc H0 x dx C E (initR f1 f2 fc fh ρ n)) := by
  refine PSs.imp (pss_cons (ps_expr h1 w1) (pss_cons (ps_expr h2 w2) (pss_cons (ps_fld (pe_var hN hv hd hcd) hc w3) (pss_cons (ps_fld (pe_var hN hv hd hcd) hh w4) (pss_cons (ps_fld (pe_var hN hv hd hcd) (pe_lst pa_nil) w5) (pss_one (ps_fld (pe_var hN hv hd hcd) (pe_lst pa_nil) w6))))))) fun E σ H h => ?_
  obtain ⟨aT, Oc, H0, ρ, n, x, dx, C, ck, s, h⟩ := h
  refine GoI.bind s h fun H1 _ _ n1 s1 _ _ g => ?_
  refine GoI.bind s1 g fun H2 _ _ n2 s2 _ _ g => ?_
  refine GoI.bind s2 g fun H3 v1 c n3 s3 _ r1 g => ?_
  have hσ : σ[0]? = some (some (.ref x)) := s.st.ad 0 0 x s.self
  refine ⟨_, hσ, x, C, dx, [], rfl, s3.at_, ck.cls, ck.nc, by show 0 < 1000; omega, ?_⟩
  have s4 := s3.write (gs := [(Str.ofString "claim", v1)])
  have r1 := Rp.mono (s3.kpw (gs := []) (o := .ins C dx [(Str.ofString "claim", v1)])) r1
  refine GoI.bind (R := RpX X) s4 g fun H5 v2 d n5 s5 x5 r2 g => ?_
  have r1 := Rp.mono (x5.kp (O := Oo Oc σ ρ) (.inl s.st.oT)) r1
  refine ⟨_, hσ, x, C, dx, _, rfl, s5.at_, ck.cls, ck.nh, by show 1 < 1000; omega, ?_⟩
  have s6 := s5.write (gs := [(Str.ofString "claim", v1), (Str.ofString "how", v2)])
  have r1 := Rp.mono (s5.kpw (gs := []) (o := .ins C dx [(Str.ofString "claim", v1), (Str.ofString "how", v2)])) r1
  have r2 := Rp.mono (s5.kpw (gs := []) (o := .ins C dx [(Str.ofString "claim", v1), (Str.ofString "how", v2)])) r2
  refine ⟨Nat.zero_le _, fun p hp => ?_⟩
  have e7 : Ex1 aT _ (upd (upd H5 x (.ins C dx [(Str.ofString "claim", v1), (Str.ofString "how", v2)])) p (.lst [])) := .new hp
  have np : p ≠ x := fun z => by rw [z, upd_same] at hp; cases hp
  have s7 : StI X.K aT Oc H0 (upd (upd H5 x (.ins C dx [(Str.ofString "claim", v1), (Str.ofString "how", v2)])) p (.lst [])) σ ρ n5 x dx C [(Str.ofString "claim", v1), (Str.ofString "how", v2)] :=
    ⟨s6.st.step e7 (s6.st.tw.new hp), s6.self, s6.now, fun b u n1 n2 q => e7 b u n1 (s6.ex b u n1 n2 q), s6.ox, s6.od, s6.nx, s6.nd, s6.ne, s6.dx0, e7 _ _ s6.nx s6.at_⟩
  have r1 := Rp.mono (e7.kp (O := Oo Oc σ ρ) (.inl s.st.oT)) r1
  have r2 := Rp.mono (e7.kp (O := Oo Oc σ ρ) (.inl s.st.oT)) r2
  refine ⟨_, hσ, x, C, dx, _, rfl, s7.at_, ck.cls, (tf C ck).1, by show 2 < 1000; omega, ?_⟩
  have s8 := s7.write (gs := [(Str.ofString "claim", v1), (Str.ofString "how", v2), (Str.ofString "past", .ref p)])
  have r1 := Rp.mono (s7.kpw (gs := []) (o := .ins C dx [(Str.ofString "claim", v1), (Str.ofString "how", v2), (Str.ofString "past", .ref p)])) r1
  have r2 := Rp.mono (s7.kpw (gs := []) (o := .ins C dx [(Str.ofString "claim", v1), (Str.ofString "how", v2), (Str.ofString "past", .ref p)])) r2
  refine ⟨Nat.zero_le _, fun q hq => ?_⟩
  have hq : upd (upd (upd H5 x (.ins C dx [(Str.ofString "claim", v1), (Str.ofString "how", v2)])) p (.lst [])) x (.ins C dx [(Str.ofString "claim", v1), (Str.ofString "how", v2), (Str.ofString "past", .ref p)]) q = none := hq
  have nq : q ≠ x := fun z => by rw [z, upd_same] at hq; cases hq
  have npq : p ≠ q := fun z => by rw [← z, upd_ne np, upd_same] at hq; cases hq
  have e9 : Ex1 aT _ (upd (upd (upd (upd H5 x (.ins C dx [(Str.ofString "claim", v1), (Str.ofString "how", v2)])) p (.lst [])) x (.ins C dx [(Str.ofString "claim", v1), (Str.ofString "how", v2), (Str.ofString "past", .ref p)])) q (.lst [])) := .new hq
  have s9 : StI X.K aT Oc H0 _ σ ρ n5 x dx C [(Str.ofString "claim", v1), (Str.ofString "how", v2), (Str.ofString "past", .ref p)] :=
    ⟨s8.st.step e9 (s8.st.tw.new hq), s8.self, s8.now, fun b u n1 n2 q => e9 b u n1 (s8.ex b u n1 n2 q), s8.ox, s8.od, s8.nx, s8.nd, s8.ne, s8.dx0, e9 _ _ s8.nx s8.at_⟩
  have r1 := Rp.mono (e9.kp (O := Oo Oc σ ρ) (.inl s.st.oT)) r1
  have r2 := Rp.mono (e9.kp (O := Oo Oc σ ρ) (.inl s.st.oT)) r2
  refine ⟨_, hσ, x, C, dx, _, rfl, s9.at_, ck.cls, (tf C ck).2, by show 3 < 1000; omega, ?_⟩
  have s10 := s9.write (gs := [(Str.ofString "claim", v1), (Str.ofString "how", v2), (Str.ofString "past", .ref p), (Str.ofString "calls", .ref q)])
  have r1 := Rp.mono (s9.kpw (gs := []) (o := .ins C dx [(Str.ofString "claim", v1), (Str.ofString "how", v2), (Str.ofString "past", .ref p), (Str.ofString "calls", .ref q)])) r1
  have r2 := Rp.mono (s9.kpw (gs := []) (o := .ins C dx [(Str.ofString "claim", v1), (Str.ofString "how", v2), (Str.ofString "past", .ref p), (Str.ofString "calls", .ref q)])) r2
  have sub : ∀ Hz : Hp, Kp (Oo Oc σ ρ) Hz Oc Hz := fun Hz => Kp.anti fun b hb => .inl hb
  have h0 : ∀ b, b ≠ x → H5 b = none → H0 b = none := fun b nb hb => by
    cases z : H0 b with
    | none => rfl
    | some u =>
      have na : b ≠ aT := fun y => by rw [y, s5.st.tw.1] at hb; cases hb
      rw [s5.ex b u na nb z] at hb; cases hb
  refine g σ _ p q ⟨⟨v1, v2, s10.at_, Rp.mono (sub _) r1, Rp.mono (sub _) r2⟩, ?_, ?_, s10.ex _ _ s10.nd s10.ne s10.dx0, npq, ?_, ?_, s10.ex, s10.st.tw⟩
  · show upd _ x _ p = _
    rw [upd_ne np, upd_ne npq, upd_ne np, upd_same]
  · show upd _ x _ q = _
    rw [upd_ne nq, upd_same]
  · refine h0 p np ?_
    rw [upd_ne np] at hp
    exact hp
  · refine h0 q nq ?_
    rw [upd_ne nq, upd_ne (Ne.symm npq), upd_ne nq] at hq
    exact hq
end
end DL

set_option Elab.async false
set_option linter.all false
set_option maxRecDepth 100000
set_option maxHeartbeats 4000000
namespace DL
open PySem PySem.Spec PyProof.Rows L2
/-! ### a town's making: the def, the calls -/
abbrev NG := Addr → List D → Nat → Rs (D × D)
def envN (m : Nat) (a : Addr) (ds : List D) : Ev := Sl.tw 0 a :: (ds.map Sl.sh ++ List.replicate (m - (ds.length + 1)) .no)
def callN (m : Nat) (R : Ev → Nat → Rs (D × D)) : NG := fun a ds n => R (envN m a ds) n
def SpNO (K : PySem.W.Frag) (mg : Str → Option Value) (aT : Addr) (Oc : Addr → Prop) (H0 : Hp) (x dx C : Addr) (Q : VK) (E : XK) : Rs (D × D) → Prop
  | .ok (c, h) n' => ∀ H' p q, Made K aT Oc H0 H' C ⟨x, dx, p, q⟩ c h n' → Q .non H'
  | .ex c n' => ∃ u, mg c = some u ∧ ∀ H', (∀ b u, b ≠ aT → b ≠ x → H0 b = some u → H' b = some u) → Tw aT H' n' → E u none H'
  | .no => False
  | .amb f => ∀ b, SpNO K mg aT Oc H0 x dx C Q E (f b)
def spN (K : PySem.W.Frag) (mg : Str → Option Value) (C : Addr) (ar : Nat) (g : NG) : Sp := fun vs H Q E => ∃ (x dx : Addr) (us : List V) (aT : Addr) (Oc : Addr → Prop) (ds : List D) (n : Nat),
  vs = .ref x :: us ∧ H x = some (.ins C dx []) ∧ H dx = some (.own x) ∧ dx ≠ x ∧ Oc x ∧ Oc dx ∧ x ≠ aT ∧ dx ≠ aT ∧ Tw aT H n ∧ Oc aT ∧ (∀ b, Oc b → H b ≠ none) ∧ Rps K aT Oc H us ds ∧ ds.length = ar ∧ SpNO K mg aT Oc H x dx C Q E (g x ds n)
structure MkT (P : Program) (w : World) (K : PySem.W.Frag) (mg : Str → Option Value) (base : Heap) (k : Nat) (x : Str) (ar : Nat) (g : NG) : Prop where
  ex : ∃ (C f : Addr) (fd : FuncData) (ps : List Str), TwK K C ∧ Mk K C f ∧ FnOk P w K mg base (L2N.CX P w) k f fd ps (spN K mg C ar g) ∧ mg x = some (.ref C) ∧ Binds K fd ps []
section
variable {P : Program} {w : World} {K : PySem.W.Frag} {mg : Str → Option Value} {base : Heap}
theorem initT_ok {x qual : Str} {st : Stmt} {f C : Addr} {fd : FuncData} {N ps : List Str} {k ar : Nat} {R : Ev → Nat → Rs (D × D)} (ck : TwK K C) (Fn : Fun K x qual st f fd) (S : FnScope N ps (defScope st)) (hp : ps.length = ar + 1)
    (body : ∀ (cdv : Value) (A : Around) (outer : List Env) (s : Shared) (H : Hp) (E : XK), Room k (bX P w K mg base N qual st f cdv A outer s H E).A → PSs (bX P w K mg base N qual st f cdv A outer s H E) (defBody st)
      (fun E' σ H => ∃ (aT : Addr) (Oc : Addr → Prop) (H0 : Hp) (ρ : Ev) (n : Nat) (x dx C : Addr), TwK K C ∧ StI K aT Oc H0 H σ ρ n x dx C [] ∧ GoI1 K mg (bW E) aT Oc H0 x dx C E' (R ρ n))) :
    FnOk P w K mg base (L2N.CX P w) (k + 1) f fd ps (spN K mg C ar (callN N.length R)) := by
  refine fun_okN Fn S (fun vs H Q E h => ?_) (fun cdv A outer s H vs Q E hr h => ?_)
  · obtain ⟨_, _, us, _, _, ds, _, rfl, _, _, _, _, _, _, _, _, _, _, r, hl, _⟩ := h
    rw [List.length_cons, r.length, hl, hp]
  · obtain ⟨y, dx, us, aT, Oc, ds, n, rfl, hx, hdx, ne, ox, od, nx, nd, t, o, dm, r, hl, q⟩ := h
    refine ⟨_, body cdv A outer s H E hr, aT, Oc, H, _, n, y, dx, C, ck, ⟨start_okT (N := N) (a := y) t o dm r, rfl, fun i d h => ?_, fun b u _ _ q => q, ox, od, nx, nd, ne, hdx, hx⟩, ?_⟩
    · have := List.mem_of_getElem? h
      simp at this
    · unfold callN envN at q
      generalize R (Sl.tw 0 y :: (ds.map Sl.sh ++ List.replicate (N.length - (ds.length + 1)) .no)) n = r0 at q ⊢
      induction r0 with
      | amb f ih => exact fun b => ih b (q b)
      | no => exact q
      | ex c m =>
        obtain ⟨u, h1, h2⟩ := q
        exact ⟨u, h1, fun σ' H' e t => h2 H' e t⟩
      | ok f m => exact fun σ' H' p q' m' => q H' p q' m'
end
/-! as a value that nobody keeps -/
def eNew (ar : Nat) (g : NG) (f : SA) : SE := fun ρ n => (f ρ n).bind fun ds n1 => if ds.length = ar then .amb fun a => (g a ds n1).bind fun ch n2 => .ok (.rcd ch.1 ch.2) n2 else .no
section
variable {X : Cx} {W : WX} {e : Expr} {es : List Expr} {pos : Pos}
theorem de_new {k j ar : Nat} {x : Str} {g : NG} {f : SA} {p : Pos} (c : MkT X.prog X.w X.K X.mg X.base k x ar g) (hr : Room j X.A) (hk : k + 1 ≤ j) (tk : L2N.Takes X W) (ha : DA X W (e :: es) f) (hg : Gl X x := by rfl) (hdb : (x == ("__debug__" : Str)) = false := by decide)
    (he : starEach (e :: es) X.env = (false, eval e X.env) :: starEach es X.env := by rfl) (hpl : (backTo pos (starEach es X.env)).any (·.1) = false := by rfl) : DE X W (.Call (.Name x p) (e :: es) [] pos) (eNew ar g f) := by
  obtain ⟨C, fa, fd, ps, ck, M, F, hm, hb⟩ := c.ex
  refine PE.imp (pe_makeS (E := WE W) M F (hr.mono hk) hg hm hb (fun σ => L2N.passAt tk σ) ha hdb he hpl) fun σ H Q h => ?_
  refine Go.bind mo_c h fun aT Oc ρ H1 vs ds n1 s1 rs g' x dx hx hdx hne => ?_
  by_cases hl : ds.length = ar
  case neg => rw [if_neg hl] at g'; exact g'.elim
  rw [if_pos hl] at g'
  have e1 : Ex1 aT H1 (upd H1 dx (.own x)) := .new hdx
  have hx1 : upd H1 dx (.own x) x = none := by rw [upd_ne (Ne.symm hne)]; exact hx
  have e2 : Ex1 aT (upd H1 dx (.own x)) (upd (upd H1 dx (.own x)) x (.ins C dx [])) := .new hx1
  have t1 := s1.tw.new (o := .own x) hdx
  have t2 := t1.new (o := .ins C dx []) hx1
  have s2 := (s1.step e1 t1).step e2 t2
  have nx : x ≠ aT := fun z => by rw [z, s1.tw.1] at hx; cases hx
  have nd : dx ≠ aT := fun z => by rw [z, s1.tw.1] at hdx; cases hdx
  have nO : ¬ Oo Oc σ ρ x := s1.fresh hx
  have kp : Kp (Oo Oc σ ρ) H1 (fun b => Oo Oc σ ρ b ∨ b = x ∨ b = dx) (upd (upd H1 dx (.own x)) x (.ins C dx [])) := fun b u q nb => by
    have n1 : b ≠ x := fun z => by rw [z, hx] at q; cases q
    have n2 : b ≠ dx := fun z => by rw [z, hdx] at q; cases q
    refine ⟨by rw [upd_ne n1, upd_ne n2]; exact q, ?_⟩
    rintro (z | z | z)
    · exact nb z
    · exact n1 z
    · exact n2 z
  refine ⟨x, dx, vs, aT, fun b => Oo Oc σ ρ b ∨ b = x ∨ b = dx, ds, n1, rfl, upd_same, by rw [upd_ne hne, upd_same], hne, .inr (.inl rfl), .inr (.inr rfl), nx, nd, t2, .inl (.inl s1.oT), ?_, Rps.mono kp rs, hl, ?_⟩
  · rintro b (z | z | z)
    · exact s2.domO b z
    · rw [z, upd_same]; exact fun q => nomatch q
    · rw [z, upd_ne hne, upd_same]; exact fun q => nomatch q
  · have g2 : GoAt X.mg W (RpX X aT (Oo Oc σ ρ)) aT σ H1 ((g x ds n1).bind fun ch n2 => .ok (.rcd ch.1 ch.2) n2) Q := g' x
    clear g'
    generalize g x ds n1 = r at g2 ⊢
    induction r with
    | ok ch n' =>
      obtain ⟨c, h⟩ := ch
      intro H' p q m
      obtain ⟨v1, v2, a1, a2, a3⟩ := m.ex
      have ex : Ex1 aT H1 H' := fun b u nb q => m.kp b u nb (fun z => by rw [show b = x from z, hx] at q; cases q) (by
        rw [upd_ne (fun z => by rw [show b = x from z, hx] at q; cases q), upd_ne (fun z => by rw [show b = dx from z, hdx] at q; cases q)]; exact q)
      have sub : Kp (fun b => Oo Oc σ ρ b ∨ b = x ∨ b = dx) H' (Oo Oc σ ρ) H' := Kp.anti fun b hb => .inl hb
      exact ⟨rfl, g2 _ _ ex m.tw (.rcd ⟨C, dx, p, q, ck, a1, nO⟩ (Rp.mono sub a2) (Rp.mono sub a3))⟩
    | ex c n' =>
      obtain ⟨u, h1, h2⟩ := g2
      refine ⟨u, h1, fun H' e t => h2 H' (fun b u nb q => e b u nb (fun z => by rw [show b = x from z, hx] at q; cases q) ?_) t⟩
      rw [upd_ne (fun z => by rw [show b = x from z, hx] at q; cases q), upd_ne (fun z => by rw [show b = dx from z, hdx] at q; cases q)]; exact q
    | no => exact g2
    | amb f ih => exact fun b => ih b (g2 b)
/-! as a statement -/
def uNew (i ar : Nat) (g : NG) (fa : SA) : TF Fl := fun ρ n ts => ((fa (vwE ts ρ) n).lft ts).bnd fun ds n1 ts1 => if ds.length = ar ∧ nRs ds = true ∧ i < ρ.length then .amb fun a => ((g a ds n1).lft ts1).bnd fun ch n2 ts2 =>
  if ch.1.fz = true ∧ ch.2.fz = true then .ok (.v (.nx (ρ.set i (.tw ts2.length a))), ts2 ++ [⟨ch.1, ch.2, [], []⟩]) n2 else .no else .no
theorem paired_snoc {α β : Type} {R : α → β → Prop} : ∀ {xs : List α} {ys : List β} {x : α} {y : β}, Paired R xs ys → R x y → Paired R (xs ++ [x]) (ys ++ [y])
  | _, _, _, _, .nil, r => .cons r .nil
  | _, _, _, _, .cons q p, r => .cons q (paired_snoc p r)
theorem paired_len {α β : Type} {R : α → β → Prop} : ∀ {xs : List α} {ys : List β}, Paired R xs ys → xs.length = ys.length
  | _, _, .nil => rfl
  | _, _, .cons _ p => by rw [List.length_cons, List.length_cons, paired_len p]
/-- a town that was not there -/
theorem StU.made {K : PySem.W.Frag} {aT : Addr} {Oc0 Oc : Addr → Prop} {H0 H H' : Hp} {σ : St} {ρ : Ev} {n n' : Nat} {as0 as : List TA} {ts : List Tn} {A : TA} {c h : D} {C : Addr} (s : StU K aT Oc0 Oc H0 H σ ρ n as0 as ts) {i : Nat} (hi : i < ρ.length) (ck : TwK K C)
    (ha : H A.a = none) (hd : H A.dx = none) (hn : A.dx ≠ A.a) (m : Made K aT (fun b => Oo Oc σ ρ b ∨ b = A.a ∨ b = A.dx) (upd (upd H A.dx (.own A.a)) A.a (.ins C A.dx [])) H' C A c h n') (fc : c.fz = true) (fh : h.fz = true) :
    StU K aT Oc0 (fun b => Oc b ∨ A.has b) H0 H' (σ.set i (some (.ref A.a))) (ρ.set i (.tw ts.length A.a)) n' as0 (as ++ [A]) (ts ++ [⟨c, h, [], []⟩]) ∧ Kp (Oo Oc σ ρ) H (Oo (fun b => Oc b ∨ A.has b) (σ.set i (some (.ref A.a))) (ρ.set i (.tw ts.length A.a))) H' := by
  have nT : aT ≠ A.a := fun z => by have := s.t.st.tw.1; rw [z, ha] at this; cases this
  have old : ∀ b u, H b = some u → b ≠ A.a ∧ b ≠ A.dx := fun b u q => ⟨fun z => (by rw [z, ha] at q; cases q), fun z => (by rw [z, hd] at q; cases q)⟩
  have ex : ∀ b u, b ≠ aT → H b = some u → H' b = some u := fun b u nb q => by
    obtain ⟨n1, n2⟩ := old b u q
    exact m.kp b u nb n1 (by rw [upd_ne n1, upd_ne n2]; exact q)
  have hp : H A.p = none := by
    have := m.p0
    cases q : H A.p with
    | none => rfl
    | some u =>
      obtain ⟨n1, n2⟩ := old _ u q
      rw [upd_ne n1, upd_ne n2, q] at this; cases this
  have hq : H A.q = none := by
    have := m.q0
    cases q : H A.q with
    | none => rfl
    | some u =>
      obtain ⟨n1, n2⟩ := old _ u q
      rw [upd_ne n1, upd_ne n2, q] at this; cases this
  have np : A.a ≠ A.p := fun z => by have := m.p0; rw [← z, upd_same] at this; cases this
  have nq : A.a ≠ A.q := fun z => by have := m.q0; rw [← z, upd_same] at this; cases this
  have none' : ∀ b, A.has b → H b = none := fun b hb => by
    rcases hb with rfl | rfl | rfl | rfl
    · exact ha
    · exact hd
    · exact hp
    · exact hq
  obtain ⟨v1, v2, a1, a2, a3⟩ := m.ex
  have ta : TwnAt K H' A ⟨c, h, [], []⟩ := ⟨⟨C, v1, v2, [], [], ck, a1, m.p, m.q, Rp.rf a2 fc, Rp.rf a3 fh, .nil, .nil⟩, m.dx, np, nq, m.pq⟩
  have some' : ∀ b, A.has b → H' b ≠ none := fun b hb => by
    rcases hb with rfl | rfl | rfl | rfl
    · rw [a1]; exact fun z => nomatch z
    · rw [m.dx]; exact fun z => nomatch z
    · rw [m.p]; exact fun z => nomatch z
    · rw [m.q]; exact fun z => nomatch z
  have e1 : Ex1 aT H H' := ex
  have nA : ¬ A.has aT := fun z => by have := none' aT z; rw [s.t.st.tw.1] at this; cases this
  have nOo : ∀ b, Oo Oc σ ρ b → ¬ A.has b := fun b hb z => s.t.st.domO b hb (none' b z)
  have s1 := s.t.step e1 m.tw
  have kl : Kp (Oo Oc σ ρ) H (Oo (fun b => Oc b ∨ A.has b) σ ρ) H' := fun b u q nb => by
    refine ⟨ex b u (fun z => nb (.inl (by rw [z]; exact s.t.st.oT))) q, ?_⟩
    rintro ((z | z) | z)
    · exact nb (.inl z)
    · rw [none' b z] at q; cases q
    · exact nb (.inr z)
  have s2 : StE K aT (fun b => Oc b ∨ A.has b) H' σ ρ n' := by
    refine ⟨m.tw, .inl s.t.st.oT, fun b hb => ?_, s.t.st.len, fun j d hj => ?_, fun j d hj => ?_, s.t.st.inj, s.t.st.ad⟩
    · rcases hb with hb | hb
      · exact s1.st.dom b hb
      · exact some' b hb
    · obtain ⟨v, h1, h2⟩ := s.t.st.sh j d hj
      exact ⟨v, h1, h2.mono kl⟩
    · obtain ⟨b, h1, h2, h3⟩ := s.t.st.ow j d hj
      have hb : ¬ A.has b := nOo b (.inr ⟨j, d, hj, h1⟩)
      refine ⟨b, h1, fun z => z.elim h2 hb, h3.mono kl fun u q => ex b u (fun z => h2 (by rw [z]; exact s.t.st.oT)) q⟩
  have s3 := s2.set0 i (some (.ref A.a)) (.tw ts.length A.a) (fun d z => by cases z) (fun d z => by cases z) fun k b z => by cases z; rfl
  have hlen : as.length = ts.length := paired_len s.t.tw
  have sub : ∀ b, Oo (fun b => Oc b ∨ A.has b) (σ.set i (some (.ref A.a))) (ρ.set i (.tw ts.length A.a)) b → Oo (fun b => Oc b ∨ A.has b) σ ρ b := fun b hb => Oo.set_sub (fun d z => by cases z) hb
  have st : StT K aT (fun b => Oc b ∨ A.has b) H' (σ.set i (some (.ref A.a))) (ρ.set i (.tw ts.length A.a)) n' (as ++ [A]) (ts ++ [⟨c, h, [], []⟩]) := by
    refine ⟨s3, ?_, paired_snoc s1.tw ta, ?_, ?_, ?_, ?_⟩
    · rintro b (hb | hb) o u q
      · exact s1.nf b hb o u q
      · rcases hb with rfl | rfl | rfl | rfl
        · rw [a1] at q; cases q
        · rw [m.dx] at q; cases q
        · rw [m.p] at q; cases q
        · rw [m.q] at q; cases q
    · intro B hB b hb
      rcases List.mem_append.mp hB with hB | hB
      · exact .inl (s.t.oc B hB b hb)
      · simp only [List.mem_singleton] at hB; subst hB; exact .inr hb
    · intro B hB
      rcases List.mem_append.mp hB with hB | hB
      · exact s.t.nT B hB
      · simp only [List.mem_singleton] at hB; subst hB; exact nA
    · refine List.pairwise_append.mpr ⟨s.t.dj, by simp, fun B hB D' hD b hb hd' => ?_⟩
      rw [List.mem_singleton.mp hD] at hd'
      exact nOo b (.inl (s.t.oc B hB b hb)) hd'
    · intro j k b hj
      rcases set_get_sl hj with ⟨_, z, _⟩ | ⟨_, hj⟩
      · cases z
        exact ⟨A, by rw [← hlen]; simp, rfl⟩
      · obtain ⟨B, h1, h2⟩ := s.t.ix j k b hj
        exact ⟨B, by rw [List.getElem?_append_left (List.getElem?_eq_some_iff.mp h1).1]; exact h1, h2⟩
  refine ⟨⟨st, s.exs e1.t, fun j d b h1 h2 => ?_, fun b hb => .inl (s.sub b hb), s.d0, ?_, fun B hB => ?_⟩, kl.trans (Kp.anti sub)⟩
  · rcases set_get_sl h1 with ⟨_, z, _⟩ | ⟨ne, h1⟩
    · cases z
    · rw [List.getElem?_set_ne ne] at h2
      exact s.nw j d b h1 h2
  · obtain ⟨more, em⟩ := s.pre
    exact ⟨more ++ [A], by rw [em, List.append_assoc]⟩
  · rcases List.mem_append.mp hB with hB | hB
    · exact s.nt B hB
    · simp only [List.mem_singleton] at hB
      subst hB
      refine .inr fun b hb => ?_
      have hb' := none' b hb
      cases q : H0 b with
      | none => rfl
      | some u =>
        have nb : b ≠ aT := fun z => nA (by rw [← z]; exact hb)
        rw [s.ex b u nb (fun D hD hd => ?_) q] at hb'
        · cases hb'
        · obtain ⟨more, em⟩ := s.pre
          exact nOo b (.inl (s.t.oc D (by rw [em]; exact List.mem_append_left _ hD) b hd)) hb
theorem us_new (i : Nat) {k j ar : Nat} {x y : Str} {g : NG} {fa : SA} {p p2 : Pos} (c : MkT X.prog X.w X.K X.mg X.base k x ar g) (hr : Room j X.A) (hk : k + 1 ≤ j) (tk : L2N.Takes X W) (hN : X.N.Nodup) (ha : DA X W (e :: es) fa) (hg : Gl X x := by rfl) (hdb : (x == ("__debug__" : Str)) = false := by decide)
    (he : starEach (e :: es) X.env = (false, eval e X.env) :: starEach es X.env := by rfl) (hpl : (backTo pos (starEach es X.env)).any (·.1) = false := by rfl)
    {spos : Pos} (hi : X.N[i]? = some y := by rfl) (hx : Loc X.env.scope y := by first | exact Or.inl rfl | exact Or.inr rfl) (hf : X.fn y = true ∨ X.env.scope.names.lookup y = some .local := by first | exact .inl rfl | exact .inr rfl | assumption) : US X W (.Assign [.Name y p2] (.Call (.Name x p) (e :: es) [] pos) spos) (uNew i ar g fa) := by
  obtain ⟨C, f, fd, ps, ck, M, F, hm, hb⟩ := c.ex
  refine PS.imp (ps_set (i := i) hN hi hx (pe_makeS (E := WE W) M F (hr.mono hk) hg hm hb (fun σ => L2N.passAt tk σ) ha hdb he hpl) (hf := hf)) fun E σ H h => ?_
  obtain ⟨aT, Oc0, Oc, H0, ρ, n, as0, as, ts, s, h⟩ := h
  refine ⟨aT, OcS Oc as, vwE ts ρ, n, s.t.view, ?_⟩
  unfold uNew at h
  generalize fa (vwE ts ρ) n = r at h ⊢
  induction r with
  | amb f ih => exact fun b => ih b (h b)
  | no => exact h
  | ex c n1 =>
    obtain ⟨u, h1, h2⟩ := h
    exact ⟨u, h1, fun H' e t => h2 σ H' (s.exs e.t) t (s.go e.t (s.t.step e t)).tws⟩
  | ok ds n1 =>
    intro vs H1 e1 t1 rs x dx hx hdx hne
    have s1 := s.go e1.t (s.t.step e1 t1)
    have h : GoU1 X.K X.mg W aT Oc0 H0 as0 H (Oo Oc σ ρ) (if ds.length = ar ∧ nRs ds = true ∧ i < ρ.length then .amb fun a => ((g a ds n1).lft ts).bnd fun ch n2 ts2 => if ch.1.fz = true ∧ ch.2.fz = true then .ok (.v (.nx (ρ.set i (.tw ts2.length a))), ts2 ++ [⟨ch.1, ch.2, [], []⟩]) n2 else .no else .no) E := h
    by_cases hl : ds.length = ar ∧ nRs ds = true ∧ i < ρ.length
    case neg => rw [if_neg hl] at h; exact h.elim
    rw [if_pos hl] at h
    have g2 : GoU1 X.K X.mg W aT Oc0 H0 as0 H1 (Oo Oc σ ρ) (((g x ds n1).lft ts).bnd fun ch n2 ts2 => if ch.1.fz = true ∧ ch.2.fz = true then .ok (.v (.nx (ρ.set i (.tw ts2.length x))), ts2 ++ [⟨ch.1, ch.2, [], []⟩]) n2 else .no) E := GoU1.kp (e1.kp (O := Oo Oc σ ρ) (.inl s.t.st.oT)) (h x)
    clear h
    have rs := s1.t.backs rs hl.2.1
    have ea : Ex1 aT H1 (upd H1 dx (.own x)) := .new hdx
    have hx1 : upd H1 dx (.own x) x = none := by rw [upd_ne (Ne.symm hne)]; exact hx
    have eb : Ex1 aT (upd H1 dx (.own x)) (upd (upd H1 dx (.own x)) x (.ins C dx [])) := .new hx1
    have t2 := (s1.t.st.tw.new (o := .own x) hdx).new (o := .ins C dx []) hx1
    have s2 := (s1.t.st.step ea (s1.t.st.tw.new (o := .own x) hdx)).step eb t2
    have nx : x ≠ aT := fun z => by have := s1.t.st.tw.1; rw [← z, hx] at this; cases this
    have nd : dx ≠ aT := fun z => by have := s1.t.st.tw.1; rw [← z, hdx] at this; cases this
    have kp : Kp (Oo Oc σ ρ) H1 (fun b => Oo Oc σ ρ b ∨ b = x ∨ b = dx) (upd (upd H1 dx (.own x)) x (.ins C dx [])) := fun b u q nb => by
      have n1 : b ≠ x := fun z => by rw [z, hx] at q; cases q
      have n2 : b ≠ dx := fun z => by rw [z, hdx] at q; cases q
      refine ⟨by rw [upd_ne n1, upd_ne n2]; exact q, ?_⟩
      rintro (z | z | z)
      · exact nb z
      · exact n1 z
      · exact n2 z
    refine ⟨x, dx, vs, aT, fun b => Oo Oc σ ρ b ∨ b = x ∨ b = dx, ds, n1, rfl, upd_same, by rw [upd_ne hne, upd_same], hne, .inr (.inl rfl), .inr (.inr rfl), nx, nd, t2, .inl (.inl s1.t.st.oT), ?_, Rps.mono kp rs, hl.1, ?_⟩
    · rintro b (z | z | z)
      · exact s2.domO b z
      · rw [z, upd_same]; exact fun q => nomatch q
      · rw [z, upd_ne hne, upd_same]; exact fun q => nomatch q
    generalize g x ds n1 = r at g2 ⊢
    induction r with
    | no => exact g2
    | amb f ih => exact fun b => ih b (g2 b)
    | ex c n' =>
      obtain ⟨u, h1, h2⟩ := g2
      refine ⟨u, h1, fun H' e t => ?_⟩
      have ee : Ex1 aT H1 H' := fun b u nb q => e b u nb (fun z => by rw [show b = x from z, hx] at q; cases q) (by
        rw [upd_ne (fun z => by rw [show b = x from z, hx] at q; cases q), upd_ne (fun z => by rw [show b = dx from z, hdx] at q; cases q)]; exact q)
      exact h2 σ H' (s1.exs ee.t) t (s1.go ee.t (s1.t.step ee t)).tws
    | ok ch n' =>
      obtain ⟨c, h⟩ := ch
      intro H' p q m
      have g2 : GoU1 X.K X.mg W aT Oc0 H0 as0 H1 (Oo Oc σ ρ) (if c.fz = true ∧ h.fz = true then .ok (.v (.nx (ρ.set i (.tw ts.length x))), ts ++ [⟨c, h, [], []⟩]) n' else .no) E := g2
      by_cases hf : c.fz = true ∧ h.fz = true
      case neg => rw [if_neg hf] at g2; exact g2.elim
      rw [if_pos hf] at g2
      obtain ⟨k1, k2⟩ := s1.made (A := ⟨x, dx, p, q⟩) hl.2.2 ck hx hdx hne m hf.1 hf.2
      exact ⟨rfl, g2 _ _ _ _ k2 k1⟩
end
end DL

set_option Elab.async false
set_option linter.all false
set_option maxRecDepth 100000
set_option maxHeartbeats 4000000
namespace DL
open PySem PySem.Spec PyProof.Rows L2
/-! ### ==, len, str of records by their own defs -/
/-- what the class's special names are -/
structure TwI (K : PySem.W.Frag) (C : Addr) : Prop where
  tk : TwK K C
  self : PySem.W.kitOne K (.ref C) (.ref C) = some true
  oth : (["NoneType", "bool", "int", "str", "tuple", "list", "dict"].all fun T => (PySem.W.kitOne K (.type T) (.ref C) == some false) && PySem.W.notFirst K C (.type T)) = true
theorem TwI.kn {K : PySem.W.Frag} {C : Addr} (t : TwI K C) (d : D) (h : d.isR = false) : PySem.W.kitOne K (.type (tyD d)) (.ref C) = some false ∧ PySem.W.notFirst K C (.type (tyD d)) = true := by
  have o := t.oth
  simp only [List.all_cons, List.all_nil, Bool.and_eq_true, beq_iff_eq, Bool.and_true] at o
  obtain ⟨o1, o2, o3, o4, o5, o6, o7⟩ := o
  cases d <;> first | exact o1 | exact o2 | exact o3 | exact o4 | exact o5 | exact o6 | exact o7 | cases h
structure CalE (P : Program) (w : World) (K : PySem.W.Frag) (mg : Str → Option Value) (base : Heap) (k : Nat) (m : Str) (ar : Nat) (g : List D → Nat → Rs D) : Prop where
  ex : ∃ (C f : Addr) (fd : FuncData) (ps : List Str), TwI K C ∧ PySem.W.findIn K (.ref C) m = some (some (.ref f)) ∧ PySem.W.isFn K (.ref f) = true ∧ FnOk P w K mg base (L2N.CX P w) k f fd ps (spD K mg ar g) ∧ Binds K fd ps []
section
variable {X : Cx} {W : WX} {a b e : Expr} {es : List Expr} {fa fb : SE} {pos : Pos}
theorem run_own {k : Nat} {f : Addr} {fd : FuncData} {ps : List Str} {sp : Sp} {A : Around} {pins : List (Addr × Obj)} {σ : St} {H : Hp} {s : Shared} {vs : List V} {us : List Value} {Q : VK} (F : FnOk X.prog X.w X.K X.mg X.base (L2N.CX X.prog X.w) k f fd ps sp) (hb : Binds X.K fd ps []) (sb : L2.Sub X k A)
    (I : Inv X pins σ H s) (r : Vals vs us) (hsp : sp vs H Q (fun _ _ _ => False)) : wpAny (model X.prog X.w) A (call (.ref f) us) (EP X pins σ Q) X.xe s := by
  have e0 : Env0 X.prog X.w X.K X.mg X.base A X.stack s H := by
    have e := I.env0
    exact ⟨by rw [sb.fr]; exact e.frames, e.mod, e.bs, e.bsz, e.funs, e.frf, e.hok, e.bare⟩
  have hl : us.length = ps.length := by rw [← r.length]; exact F.len _ _ _ _ hsp
  have b := hb s us I.kIn (by rw [List.append_nil]; exact hl)
  rw [List.append_nil] at b
  refine wpAny_call (codeAny_mono (F.run A X.stack s H ⟨us, []⟩ us vs Q _ sb.room e0 b r hsp) fun z s' hq => ?_)
  cases z with
  | error e =>
    obtain ⟨_, _, _, _, _, _, _, _, _, _, _, _, z⟩ := hq
    exact z.elim
  | ok fl =>
    cases fl with
    | ret u => exact I.after hq
    | next => exact False.elim hq
    | brk => exact False.elim hq
    | cont => exact False.elim hq
/-- what a type is, at the machine -/
def eqR (C : Addr) (sp : Sp) (K : PySem.W.Frag) : R2 := fun x y H Q => ∃ a dx fs tb, x = .ref a ∧ H a = some (.ins C dx fs) ∧ TyX K H y tb ∧ PySem.W.notFirst K C tb = true ∧ sp [x, y] H (fun v H' => ∃ b, v = .bl b ∧ Q v H') (fun _ _ _ => False)
theorem op_eqR {k : Nat} {C f : Addr} {fd : FuncData} {ps : List Str} {sp : Sp} (F : FnOk X.prog X.w X.K X.mg X.base (L2N.CX X.prog X.w) k f fd ps sp) (hs : PySem.W.findIn X.K (.ref C) "__eq__" = some (some (.ref f))) (hf : PySem.W.isFn X.K (.ref f) = true) (hb : Binds X.K fd ps []) (hr : Room k X.A) : OpR X (compareOp .Eq) (eqR C sp X.K) := by
  intro pins s σ H x y v u Q I rx ry h
  obtain ⟨a, dx, fs, tb, rfl, ha, ty, nf, q⟩ := h
  cases rx
  obtain ⟨mA, J, _⟩ := ins_get I.hok ha
  obtain ⟨od, J, _⟩ := J.look
  obtain ⟨m, hF⟩ := I.fr
  obtain ⟨P, Z, p, _⟩ := kit_of I ry ty
  show wpAny (model X.prog X.w) X.A (richCompare .Eq (.ref a) u) (EP X pins σ Q) X.xe s
  refine PySem.W.cmp_K (op := .Eq) (tb := tb) hr.units0 hF I.ok.mod.kin J (Z.ty _ _ I.kIn p) nf hs hf ?_
  refine wpAny_mono (run_own F hb ⟨hr, rfl⟩ I (show Vals [V.ref a, y] [Value.ref a, u] from .cons (show RelV (V.ref a) (Value.ref a) from rfl) (.cons ry .nil)) q) (fun z s' hz => ?_) fun _ _ e => e
  obtain ⟨w, H', I', rw', b, rfl, q⟩ := hz
  cases rw'
  exact ⟨.bl b, H', I', rfl, q⟩
/-- one own def, looked at as a value that is one kind -/
def Rs.only {α : Type} (p : D → Option α) (k : α → Nat → Rs D) : Rs D → Rs D
  | .ok d n => match p d with
    | some z => k z n
    | none => .no
  | .ex _ _ => .no
  | .no => .no
  | .amb f => .amb fun b => (f b).only p k
def isBlD : D → Option Bool
  | .bl b => some b
  | _ => none
def isStD : D → Option Str
  | .str b => some b
  | _ => none
def isLnD : D → Option Int
  | .int i => if 0 ≤ i ∧ i < 2 ^ 63 then some i else none
  | _ => none
theorem sp_only {α : Type} {aT : Addr} {Oc : Addr → Prop} {σ : St} {ρ : Ev} {n1 : Nat} {H1 : Hp} {ar : Nat} {g : List D → Nat → Rs D} {vs : List V} {ds : List D} {p : D → Option α} {k : α → Nat → Rs D} {Q : VK} {Q' : VK} (s1 : StE X.K aT Oc H1 σ ρ n1) (rs : Rps X.K aT (Oo Oc σ ρ) H1 vs ds) (hl : ds.length = ar)
    (hp : ∀ v H d z n, Rp X.K aT (Oo Oc σ ρ) H v d → p d = some z → (∀ w H', Ex1 aT H1 H' → Tw aT H' n → Rp X.K aT (Oo Oc σ ρ) H' w d → True) → GoAt X.mg W (RpX X aT (Oo Oc σ ρ)) aT σ H1 (k z n) Q → Ex1 aT H1 H → Tw aT H n → Q' v H)
    (h : GoAt X.mg W (RpX X aT (Oo Oc σ ρ)) aT σ H1 ((g ds n1).only p k) Q) : spD X.K X.mg ar g vs H1 Q' (fun _ _ _ => False) := by
  refine ⟨aT, Oo Oc σ ρ, ds, n1, s1.tw, .inl s1.oT, s1.domO, rs, hl, ?_⟩
  generalize g ds n1 = r at h ⊢
  induction r with
  | ok d n' =>
    intro v H' ex t r
    have h : GoAt X.mg W (RpX X aT (Oo Oc σ ρ)) aT σ H1 (match p d with | some z => k z n' | none => .no) Q := h
    cases hd : p d with
    | none => rw [hd] at h; exact h.elim
    | some z =>
      rw [hd] at h
      exact hp v H' d z n' r hd (fun _ _ _ _ _ => trivial) h ex t
  | ex c n' => exact h.elim
  | no => exact h.elim
  | amb f ih => exact fun b => ih b (h b)
def eEqR (g : List D → Nat → Rs D) (fa fb : SE) : SE := fun ρ n => (fa ρ n).bind fun d n1 => (fb ρ n1).bind fun e n2 => if d.isR = true then (g [d, e] n2).only isBlD fun z n => .ok (.bl z) n else .no
theorem de_eqR {k j : Nat} {g : List D → Nat → Rs D} (c : CalE X.prog X.w X.K X.mg X.base k "__eq__" 2 g) (hr : Room j X.A) (hk : k ≤ j) (ha : DE X W a fa) (hb : DE X W b fb) (hm : behindInMarks .Eq b = false := by rfl) : DE X W (.Compare a [.Eq] [b] pos) (eEqR g fa fb) := by
  obtain ⟨C, f, fd, ps, ti, hs, hf, F, hbn⟩ := c.ex
  refine PE.imp (pe_cmpR (op_eqR F hs hf hbn (hr.mono hk)) ha hb hm) fun σ H Q h => ?_
  refine Go.bind mo_c h fun aT Oc ρ H1 v d n1 s1 r q1 => ?_
  refine GoAt.bind mo_c s1 q1 fun H2 u e n2 s2 e2 r2 g2 => ?_
  cases hR : d.isR with
  | false => rw [hR] at g2; exact g2.elim
  | true =>
    rw [hR] at g2
    have r := Rp.mono (e2.kp (O := Oo Oc σ ρ) (.inl s1.oT)) r
    cases d <;> try (cases hR; done)
    rename_i c' h'
    have sp : ∀ Q', (∀ z H n, GoAt X.mg W (RpX X aT (Oo Oc σ ρ)) aT σ H2 (.ok (.bl z) n) Q → Ex1 aT H2 H → Tw aT H n → Q' (.bl z) H) → spD X.K X.mg 2 g [v, u] H2 Q' (fun _ _ _ => False) := fun Q' hq => by
      refine sp_only s2 (.cons r (.cons r2 .nil)) rfl (fun v H d z n rv hz _ gq ex t => ?_) g2
      cases d <;> try (cases hz; done)
      cases hz
      cases rv
      exact hq _ _ _ gq ex t
    obtain ⟨x, v1, v2, rfl, ⟨C', dx, p, y, t, ee, nn⟩, _, _⟩ := Rb.rcd (.inl r)
    have : C' = C := by
      have := t.own.symm.trans ti.tk.own
      cases this
      rfl
    subst this
    refine ⟨x, dx, _, ?_, rfl, ee, ?_, ?_, sp _ fun z H n gq ex t => ⟨z, rfl, gq _ _ ex t (.bl z)⟩⟩
    · exact if e.isR = true then .ref C' else .type (tyD e)
    · cases he : e.isR with
      | false => exact s2.ty (.inl r2) he
      | true =>
        cases e <;> try (cases he; done)
        obtain ⟨x2, _, _, rfl, ⟨C2, dx2, p2, y2, t2, ee2, nn2⟩, _, _⟩ := Rb.rcd (.inl r2)
        have : C2 = C' := by
          have := t2.own.symm.trans ti.tk.own
          cases this
          rfl
        subst this
        exact .base (.ins ee2 t2.cls t2.ha t2.hn t2.htk t2.hm)
    · cases he : e.isR with
      | false => exact (ti.kn e he).2
      | true => show PySem.W.notFirst X.K C' (.ref C') = true; simp [PySem.W.notFirst]
/-! len, str -/
def ownR (C : Addr) (sp : Sp) (P : V → Prop) : List V → Hp → VK → Prop := fun xs H Q => ∃ a dx fs, xs = [.ref a] ∧ H a = some (.ins C dx fs) ∧ sp xs H (fun v H' => P v ∧ Q v H') (fun _ _ _ => False)
theorem call_lenR {k : Nat} {C f : Addr} {fd : FuncData} {ps : List Str} {sp : Sp} (F : FnOk X.prog X.w X.K X.mg X.base (L2N.CX X.prog X.w) k f fd ps sp) (hs : PySem.W.findIn X.K (.ref C) "__len__" = some (some (.ref f))) (hf : PySem.W.isFn X.K (.ref f) = true) (hb : Binds X.K fd ps []) (hr : Room (k + 1) X.A) :
    CallR X (.builtin "len") (ownR C sp fun v => ∃ i : Int, v = .int i ∧ 0 ≤ i ∧ i < 2 ^ 63) := by
  intro pins s σ H xs us Q I r h
  obtain ⟨a, dx, fs, rfl, ha, q⟩ := h
  cases r with
  | cons r r' =>
  cases r'
  cases r
  obtain ⟨mA, J, _⟩ := ins_get I.hok ha
  obtain ⟨od, J, _⟩ := J.look
  obtain ⟨m, hF⟩ := I.fr
  refine PySem.W.len_K hF I.ok.mod.kin J hs hf ?_
  refine wpAny_mono (run_own F hb ⟨hr.in1, rfl⟩ I (show Vals [V.ref a] [Value.ref a] from .cons rfl .nil) q) (fun z s' hz => ?_) fun _ _ e => e
  obtain ⟨w, H', I', rw', ⟨i, rfl, h0, h1⟩, q⟩ := hz
  obtain ⟨t, rfl⟩ := (show ∃ t, z = Value.int i t from rw')
  exact ⟨⟨h0, h1⟩, .int i, H', I'.tok _, ⟨_, rfl⟩, q⟩
theorem call_strR {k : Nat} {C f : Addr} {fd : FuncData} {ps : List Str} {sp : Sp} (F : FnOk X.prog X.w X.K X.mg X.base (L2N.CX X.prog X.w) k f fd ps sp) (hs : PySem.W.findIn X.K (.ref C) "__str__" = some (some (.ref f))) (hf : PySem.W.isFn X.K (.ref f) = true) (hb : Binds X.K fd ps []) (hr : Room (k + 2) X.A) :
    CallR X (.type "str") (ownR C sp fun v => ∃ x : Str, v = .str x) := by
  intro pins s σ H xs us Q I r h
  obtain ⟨a, dx, fs, rfl, ha, q⟩ := h
  cases r with
  | cons r r' =>
  cases r'
  cases r
  obtain ⟨mA, J, _⟩ := ins_get I.hok ha
  obtain ⟨od, J, _⟩ := J.look
  have hr2 : Room k X.A.in1.in1 := Room.in1 (Room.in1 hr)
  refine PySem.W.kso_call (by have := hr2.un; omega) I.kIn J hs hf ?_
  refine wpAny_mono (run_own F hb ⟨hr2, rfl⟩ I (show Vals [V.ref a] [Value.ref a] from .cons rfl .nil) q) (fun z s' hz => ?_) fun _ _ e => e
  obtain ⟨w, H', I', rw', ⟨x, rfl⟩, q⟩ := hz
  obtain ⟨t, rfl⟩ := (show ∃ t, z = Value.str x t from rw')
  exact ⟨.str x, H', I', ⟨t, rfl⟩, q⟩
def eLenR (g : List D → Nat → Rs D) (fa : SE) : SE := fun ρ n => (fa ρ n).bind fun d n1 => if d.isR = true then (g [d] n1).only isLnD fun z n => .ok (.int z) n else .no
def eStrR (g : List D → Nat → Rs D) (fa : SE) : SE := fun ρ n => (fa ρ n).bind fun d n1 => if d.isR = true then (g [d] n1).only isStD fun z n => .ok (.str z) n else .no
theorem de_lenR {k j : Nat} {g : List D → Nat → Rs D} {p : Pos} (c : CalE X.prog X.w X.K X.mg X.base k "__len__" 1 g) (hr : Room j X.A) (hk : k + 1 ≤ j) (ha : DE X W a fa) (hm : X.mg "len" = none) (hg : Gl X "len" := by rfl)
    (he : starEach [a] X.env = (false, eval a X.env) :: starEach [] X.env := by rfl) (hpl : (backTo pos (starEach [] X.env)).any (·.1) = false := by rfl) : DE X W (.Call (.Name "len" p) [a] [] pos) (eLenR g fa) := by
  obtain ⟨C, f, fd, ps, ti, hs, hf, F, hbn⟩ := c.ex
  refine PE.imp (pe_callB (call_lenR F hs hf hbn (hr.mono hk)) hg hm (by rfl) (pa_cons ha pa_nil he) (by decide) (by decide) he hpl) fun σ H Q h => ?_
  refine Go.bind mo_c h fun aT Oc ρ H1 v d n1 s1 r g1 => ?_
  cases hR : d.isR with
  | false => rw [hR] at g1; exact g1.elim
  | true =>
    rw [hR] at g1
    cases d <;> try (cases hR; done)
    have sp : ∀ Q', (∀ z H n, 0 ≤ z ∧ z < 2 ^ 63 → GoAt X.mg W (RpX X aT (Oo Oc σ ρ)) aT σ H1 (.ok (.int z) n) Q → Ex1 aT H1 H → Tw aT H n → Q' (.int z) H) → spD X.K X.mg 1 g [v] H1 Q' (fun _ _ _ => False) := fun Q' hq => by
      refine sp_only s1 (.cons r .nil) rfl (fun v H d z n rv hz _ gq ex t => ?_) g1
      cases d <;> try (cases hz; done)
      obtain ⟨h1, rfl⟩ := some_ite hz
      cases rv
      exact hq _ _ _ h1 gq ex t
    obtain ⟨x, v1, v2, rfl, ⟨C', dx, p, y, t, ee, nn⟩, _, _⟩ := Rb.rcd (.inl r)
    have : C' = C := by
      have := t.own.symm.trans ti.tk.own
      cases this
      rfl
    subst this
    exact ⟨x, dx, _, rfl, ee, sp _ fun z H n hz gq ex t => ⟨⟨z, rfl, hz.1, hz.2⟩, gq _ _ ex t (.int z)⟩⟩
theorem de_strR {k j : Nat} {g : List D → Nat → Rs D} {p : Pos} (c : CalE X.prog X.w X.K X.mg X.base k "__str__" 1 g) (hr : Room j X.A) (hk : k + 2 ≤ j) (ha : DE X W a fa) (hm : X.mg "str" = none) (hg : Gl X "str" := by rfl)
    (he : starEach [a] X.env = (false, eval a X.env) :: starEach [] X.env := by rfl) (hpl : (backTo pos (starEach [] X.env)).any (·.1) = false := by rfl) : DE X W (.Call (.Name "str" p) [a] [] pos) (eStrR g fa) := by
  obtain ⟨C, f, fd, ps, ti, hs, hf, F, hbn⟩ := c.ex
  refine PE.imp (pe_callTy (call_strR F hs hf hbn (hr.mono hk)) hg hm (by rfl) (pa_cons ha pa_nil he) (by decide) (by decide) he hpl) fun σ H Q h => ?_
  refine Go.bind mo_c h fun aT Oc ρ H1 v d n1 s1 r g1 => ?_
  cases hR : d.isR with
  | false => rw [hR] at g1; exact g1.elim
  | true =>
    rw [hR] at g1
    cases d <;> try (cases hR; done)
    have sp : ∀ Q', (∀ z H n, GoAt X.mg W (RpX X aT (Oo Oc σ ρ)) aT σ H1 (.ok (.str z) n) Q → Ex1 aT H1 H → Tw aT H n → Q' (.str z) H) → spD X.K X.mg 1 g [v] H1 Q' (fun _ _ _ => False) := fun Q' hq => by
      refine sp_only s1 (.cons r .nil) rfl (fun v H d z n rv hz _ gq ex t => ?_) g1
      cases d <;> try (cases hz; done)
      cases hz
      cases rv
      exact hq _ _ _ gq ex t
    obtain ⟨x, v1, v2, rfl, ⟨C', dx, p, y, t, ee, nn⟩, _, _⟩ := Rb.rcd (.inl r)
    have : C' = C := by
      have := t.own.symm.trans ti.tk.own
      cases this
      rfl
    subst this
    exact ⟨x, dx, _, rfl, ee, sp _ fun z H n gq ex t => ⟨⟨z, rfl⟩, gq _ _ ex t (.str z)⟩⟩
/-! isinstance(x, Town) -/
def eIsT (fa : SE) : SE := fun ρ n => (fa ρ n).bind fun d n1 => .ok (.bl d.isR) n1
theorem de_isT {C : Addr} {x : Str} {p p2 : Pos} (ti : TwI X.K C) (hx : X.mg x = some (.ref C)) (ha : DB X W a fa) (hm : X.mg "isinstance" = none) (hg : Gl X "isinstance" := by rfl) (hgx : Gl X x := by rfl) (hd : (x == ("__debug__" : Str)) = false := by decide)
    (he : starEach [a, .Name x p2] X.env = (false, eval a X.env) :: starEach [.Name x p2] X.env := by rfl) (hpl : (backTo pos (starEach [.Name x p2] X.env)).any (·.1) = false := by rfl) (hs : starEach [.Name x p2] X.env = (false, eval (.Name x p2) X.env) :: starEach [] X.env := by rfl) :
    DE X W (.Call (.Name "isinstance" p) [a, .Name x p2] [] pos) (eIsT fa) := by
  have hq : PE X (.Name x p2) (tC (.ref C)) := pe_glob hgx hx rfl hd
  refine PE.imp (pe_callB call_isi hg hm (by rfl) (pa_cons ha (pa_cons hq pa_nil hs) he) (by decide) (by decide) he hpl) fun σ H Q h => ?_
  refine Go.bind mo_c h fun aT Oc ρ H1 v d n1 s1 r g => ?_
  cases hR : d.isR with
  | false =>
    rw [hR] at g
    exact ⟨v, .ref C, _, _, _, rfl, .own C, s1.ty r hR, (ti.kn d hR).1, g.ok .refl s1.tw (.bl _)⟩
  | true =>
    rw [hR] at g
    cases d <;> try (cases hR; done)
    obtain ⟨x, v1, v2, rfl, ⟨C', dx, p, y, t, ee, nn⟩, _, _⟩ := Rb.rcd r
    have : C' = C := by
      have := t.own.symm.trans ti.tk.own
      cases this
      rfl
    subst this
    exact ⟨_, .ref C', _, _, _, rfl, .own C', .base (.ins ee t.cls t.ha t.hn t.htk t.hm), ti.self, g.ok .refl s1.tw (.bl _)⟩
end
end DL

set_option Elab.async false
set_option linter.all false
set_option maxRecDepth 100000
set_option maxHeartbeats 4000000
namespace DL
open PySem PySem.Spec PyProof.Rows L2
/-! ### join -/
def strsD : List D → Option (List Str)
  | [] => some []
  | .str x :: r => (strsD r).map (x :: ·)
  | _ :: _ => none
theorem strsD_map : ∀ {ds : List D} {xs : List Str}, strsD ds = some xs → ds = xs.map D.str
  | [], xs, h => by cases h; rfl
  | d :: r, xs, h => by
    cases d <;> try (exact (no_some h).elim)
    obtain ⟨ms, h1, rfl⟩ := Option.map_eq_some_iff.mp (show (strsD r).map _ = some xs from h)
    rw [strsD_map h1]; rfl
def joinD (a : Str) (d : D) : Option D := match d with
  | .lst ds => (strsD ds).bind fun ys => if (ys.map (·.length)).sum + ys.length * a.length ≤ 16777216 then some (.str (Txt.join a ys)) else none
  | _ => none
def eJoin (fo fe : SE) : SE := fun ρ n => (fo ρ n).bind fun a n1 => match a with
  | .str x => (fe ρ n1).bind fun d n2 => Rs.of (joinD x d) n2
  | _ => .no
section
variable {X : Cx} {W : WX} {o a e : Expr} {es : List Expr} {fo fe : SE} {pos apos : Pos} {st : Stmt}
theorem de_join (ho : DB X W o fo) (he : DB X W e fe) (hs : starEach [e] X.env = [(false, eval e X.env)] := by rfl) (hbase : attributeBase o "join" X.env (eval o X.env) = eval o X.env := by rfl) (hline : (apos.endLine == pos.line) = true := by rfl) :
    DE X W (.Call (.Attribute o "join" apos) [e] [] pos) (eJoin fo fe) := by
  refine PE.imp (pe_join ho he hs hbase hline) fun σ H Q h => ?_
  refine Go.bind mo_c h fun aT Oc ρ H1 v d n1 s1 r g => ?_
  cases d <;> try exact g.elim
  rename_i a'
  have := r.str
  subst v
  refine ⟨⟨a', rfl⟩, ?_⟩
  refine GoAt.bind mo_c s1 g fun H2 u d2 n2 s2 e2 r2 g2 => ?_
  obtain ⟨z, hz, q⟩ := g2.of
  unfold joinD at hz
  split at hz
  case h_2 => cases hz
  rename_i ds
  obtain ⟨ys, h1, h2⟩ := Option.bind_eq_some_iff.mp hz
  obtain ⟨h3, rfl⟩ := some_ite h2
  obtain ⟨p, xs, rfl, hp, rp⟩ := r2.lst
  rw [strsD_map h1] at rp
  have := rp.strs
  subst this
  exact ⟨a', p, ys, rfl, rfl, .inl (SqL.of hp), h3, q _ _ .refl s2.tw (.str _)⟩
/-! name = value, seen -/
def uSet (i : Nat) (f : TF D) : TF Fl := fun ρ n ts => (f ρ n ts).bnd fun d n1 ts1 => .ok (.v (.nx (ρ.set i (.sh d))), ts1) n1
theorem us_set (i : Nat) {f : TF D} {x : Str} {pos' : Pos} (hN : X.N.Nodup) (he : TEx X W e f) (hi : X.N[i]? = some x := by rfl) (hx : Loc X.env.scope x := by first | exact Or.inl rfl | exact Or.inr rfl) (hs : swapsWith e (some (.Name x pos')) pos.line X.env = pure false := by rfl) (hf : X.fn x = true ∨ X.env.scope.names.lookup x = some .local := by first | exact .inl rfl | exact .inr rfl | assumption) :
    US X W (.Assign [.Name x pos'] e pos) (uSet i f) := PS.imp (ps_set hN hi hx he hs hf) fun E σ H h => by
  obtain ⟨aT, Oc0, Oc, H0, ρ, n, as0, as, ts, s, h⟩ := h
  refine GoU.bind s h fun H1 v d n1 ts1 s1 r g => ?_
  refine g _ H1 Oc as (Kp.anti fun b h => Oo.set_sub sh_ow h) ⟨s1.t.alter (s1.t.st.setSh i r) (KT.set fun _ _ z => by cases z) fun b u _ _ q => q, s1.ex, fun j e' b h1 h2 => ?_, s1.sub, s1.d0, s1.pre, s1.nt⟩
  rcases set_get_sl h1 with ⟨_, z, _⟩ | ⟨ne, h1⟩
  · cases z
  · rw [List.getElem?_set_ne ne] at h2
    exact s1.nw j e' b h1 h2
end
section
variable {F G : SS}
theorem kt_set {i : Nat} {f : SE} : KTF (sSet i f) := fun ρ n => KR.bind (k := fun d n1 => .ok (.nx (ρ.set i (.sh d))) n1) (fun _ _ => KT.set fun _ _ z => by cases z) (f ρ n)
theorem kt_own {i : Nat} {f : SE} : KTF (sOwn i f) := fun ρ n => KR.bind (k := fun d n1 => .ok (.nx (ρ.set i (.ow d))) n1) (fun _ _ => KT.set fun _ _ z => by cases z) (f ρ n)
theorem kt_frz {i : Nat} (h : KTF F) : KTF (sFrz i F) := fun ρ n => KR.trans (by
  unfold frz
  split
  · exact KT.set fun _ _ z => by cases z
  · exact KT.refl) (h _ n)
theorem kt_raise {c : Str} : KTF (sRaise c) := fun ρ n => trivial
theorem kt_setM : ∀ (is : List Nat) (fl : List Bool) (ds : List D) (ρ : Ev), KT ρ (setM is fl ds ρ)
  | [], _, _, ρ => by unfold setM; exact KT.refl
  | i :: is, [], _, ρ => by unfold setM; exact KT.refl
  | i :: is, b :: fl, [], ρ => by unfold setM; exact KT.refl
  | i :: is, b :: fl, d :: ds, ρ => by
    unfold setM
    refine KT.trans ?_ (kt_setM is fl ds _)
    cases b <;> exact KT.set fun _ _ z => by cases z
theorem kt_par {is : List Nat} {fl : List Bool} {f : SA} : KTF (sPar is fl f) := fun ρ n => KR.bind (k := fun ds n1 => if ds.length = is.length then .ok (.nx (setM is fl ds ρ)) n1 else .no) (fun ds m => by
  by_cases h : ds.length = is.length
  · rw [if_pos h]; exact kt_setM is fl ds ρ
  · rw [if_neg h]; trivial) (f ρ n)
theorem kta_sq {τs : List D → Ev → Nat → Rs Ev} (b : KTas τs) : KTa (aSq τs) := fun d ρ n ρ' n' h => by
  cases d <;> first | exact b _ _ _ _ _ h | exact (no_ok h).elim
end
end DL

set_option Elab.async false
set_option linter.all false
set_option maxRecDepth 100000
set_option maxHeartbeats 4000000
namespace DL
open PySem PySem.Spec PyProof.Rows L2
/-! ### defs that are handed a town as the second -/
def spT1 (K : PySem.W.Frag) (mg : Str → Option Value) (ar : Nat) (g : TG1) : Sp := fun vs H Q E => ∃ (aT : Addr) (Oc : Addr → Prop) (u0 : V) (us : List V) (ds : List D) (n : Nat) (A : TA) (t : Tn),
  vs = u0 :: V.ref A.a :: us ∧ Tw aT H n ∧ Oc aT ∧ (∀ b, Oc b → H b ≠ none) ∧ NoF Oc H ∧ TwnAt K H A t ∧ (∀ b, A.has b → Oc b) ∧ ¬ A.has aT ∧ Rps K aT Oc H (u0 :: us) ds ∧ ds.length = ar ∧ SpTO K mg aT Oc A H Q E (g A.a t ds n)
structure CalT1 (P : Program) (w : World) (K : PySem.W.Frag) (mg : Str → Option Value) (base : Heap) (k : Nat) (x : Str) (ar : Nat) (g : TG1) : Prop where
  ex : ∃ (f : Addr) (fd : FuncData) (ps : List Str), FnOk P w K mg base (L2N.CX P w) k f fd ps (spT1 K mg ar g) ∧ mg x = some (.ref f) ∧ PySem.W.keepIn K (.ref f) = true ∧ Binds K fd ps []
def eTM1 (i ar : Nat) (g : TG1) (f0 : SE) (fa : SA) : TF D := fun ρ n ts => match twnOf i ρ ts with
  | some (k, a, t) => ((f0 (vwE ts ρ) n).lft ts).bnd fun d0 n1 ts => ((fa (vwE ts ρ) n1).lft ts).bnd fun ds n2 ts => if (d0 :: ds).length = ar ∧ nRs (d0 :: ds) = true then (g a t (d0 :: ds) n2).twn ts k else .no
  | none => .no
section
variable {X : Cx} {W : WX} {e e0 o : Expr} {es : List Expr} {pos apos p : Pos}
theorem spT1_of {ar k : Nat} {g : TG1} {aT : Addr} {Oc : Addr → Prop} {σ : St} {ρ : Ev} {n n0 : Nat} {H H0 : Hp} {as : List TA} {ts : List Tn} {A : TA} {t : Tn} {u0 : V} {vs : List V} {ds : List D} {Q : VK} (s0 : StT X.K aT Oc H0 σ ρ n0 as ts) (e0 : Ex1 aT H0 H) (tt : Tw aT H n) (hA : as[k]? = some A) (ht : ts[k]? = some t)
    (r : Rps X.K aT (Oo (OcS Oc as) σ (vwE ts ρ)) H (u0 :: vs) ds) (h : GoTAt X W (RpX X aT (Oo Oc σ ρ)) aT Oc σ ρ as H0 Q (if ds.length = ar ∧ nRs ds = true then (g A.a t ds n).twn ts k else .no)) : spT1 X.K X.mg ar g (u0 :: V.ref A.a :: vs) H Q (WE W σ) := by
  by_cases hl : ds.length = ar ∧ nRs ds = true
  case neg => rw [if_neg hl] at h; exact h.elim
  rw [if_pos hl] at h
  have s := s0.step e0 tt
  have hm : A ∈ as := List.mem_of_getElem? hA
  obtain ⟨t', ht', tw⟩ := pairedGetL s.tw hA
  rw [ht] at ht'
  cases ht'
  refine ⟨aT, Oo Oc σ ρ, u0, vs, ds, n, A, t, rfl, tt, .inl s.st.oT, s.st.domO, s.st.nfO s.nf, tw, fun b hb => .inl (s.oc A hm b hb), s.nT A hm, s.backs r hl.2, hl.1, ?_⟩
  have one : ∀ {H'}, ExT aT [A] H H' → ExT aT as H0 H' := fun e b u n1 n2 q => e b u n1 (fun B hB => by
    simp only [List.mem_singleton] at hB
    subst hB
    exact n2 _ hm) (e0 b u n1 q)
  generalize g A.a t ds n = r0 at h ⊢
  induction r0 with
  | ok d n' =>
    obtain ⟨d, t'⟩ := d
    cases d with
    | v d => exact fun v H' e t1 tw' rr => h v H' (one e) (s.turn hA e t1 tw') rr
    | x c =>
      obtain ⟨u, q, h⟩ := h
      exact ⟨u, q, fun H' e t1 tw' => h H' (one e) (s.turn hA e t1 tw')⟩
  | ex c n' => exact h
  | no => exact h
  | amb f ih => exact fun b => ih b (h b)
theorem te_call1 (i : Nat) {k j ar : Nat} {x y : Str} {g : TG1} {f0 : SE} {fa : SA} {p2 : Pos} (c : CalT1 X.prog X.w X.K X.mg X.base k y ar g) (hr : Room j X.A) (hk : k ≤ j) (tk : L2N.Takes X W) (h0 : DE X W e0 f0) (ha : DA X W es fa)
    (hN : X.N[i]? = some x := by rfl) (hv : Vis X.env.scope x := by first | exact Or.inl rfl | exact Or.inr (Or.inl rfl) | exact Or.inr (Or.inr rfl)) (hd : (x == ("__debug__" : Str)) = false := by decide) (hcd : (x == ("__classdict__" : Str)) = false := by decide)
    (hg : Gl X y := by rfl) (hdb : (y == ("__debug__" : Str)) = false := by decide)
    (he0 : starEach (e0 :: .Name x p :: es) X.env = (false, eval e0 X.env) :: starEach (.Name x p :: es) X.env := by rfl) (he : starEach (.Name x p :: es) X.env = (false, eval (.Name x p) X.env) :: starEach es X.env := by rfl) (hpl : (backTo pos (starEach (.Name x p :: es) X.env)).any (·.1) = false := by rfl) :
    TEx X W (.Call (.Name y p2) (e0 :: .Name x p :: es) [] pos) (eTM1 i ar g f0 fa) := by
  obtain ⟨f, fd, ps, F, hm, hkp, hb⟩ := c.ex
  refine PE.imp (pe_callS F (hr.mono hk) hg hm hkp hb (fun σ => L2N.passAt tk σ) (pa_cons h0 (pa_cons (pe_var hN hv hd hcd) ha he) he0) hdb he0 hpl) fun σ H Q h => ?_
  obtain ⟨aT, Oc, ρ, n, as, ts, s, h⟩ := h
  unfold eTM1 at h
  cases hw : twnOf i ρ ts with
  | none => rw [hw] at h; exact h.elim
  | some kt =>
    obtain ⟨k, a0, t⟩ := kt
    rw [hw] at h
    obtain ⟨A, rfl, hA, hts, hσ, tw⟩ := twnOf_some s hw
    refine ⟨aT, OcS Oc as, vwE ts ρ, n, s.view, ?_⟩
    generalize f0 (vwE ts ρ) n = r at h ⊢
    induction r with
    | ex c n1 =>
      obtain ⟨u, q, h⟩ := h
      exact ⟨u, q, fun H' e t => h H' e.t (s.step e t)⟩
    | no => exact h
    | amb f ih => exact fun b => ih b (h b)
    | ok d0 n1 =>
      intro v0 H1 x1 t1 r0
      have s1 := s.step x1 t1
      refine ⟨.ref A.a, hσ, ?_⟩
      refine ⟨aT, OcS Oc as, vwE ts ρ, n1, s1.view, ?_⟩
      have h : GoTAt X W (RpX X aT (Oo Oc σ ρ)) aT Oc σ ρ as H Q (((fa (vwE ts ρ) n1).lft ts).bnd fun ds n2 ts => if (d0 :: ds).length = ar ∧ nRs (d0 :: ds) = true then (g A.a t (d0 :: ds) n2).twn ts k else .no) := h
      have h := GoTAt.ext (S := fun H v d => Rp X.K aT (Oo Oc σ ρ) H v d) x1.t h
      generalize fa (vwE ts ρ) n1 = r at h ⊢
      induction r with
      | ok ds n2 => exact fun vs H2 x2 t2 r2 => spT1_of s1 x2 t2 hA hts (.cons (Rp.mono (x2.kp (O := Oo (OcS Oc as) σ (vwE ts ρ)) (.inl s1.view.oT)) r0) r2) h
      | ex c n2 =>
        obtain ⟨u, q, h⟩ := h
        exact ⟨u, q, fun H' e t => h H' e.t (s1.step e t)⟩
      | no => exact h
      | amb f ih => exact fun b => ih b (h b)
end
def callT1 (m : Nat) (F : TF Fl) : TG1 := fun a t ds n => match ds with
  | d0 :: ds => (F (Sl.sh d0 :: Sl.tw 0 a :: (ds.map Sl.sh ++ List.replicate (m - (ds.length + 2)) .no)) n [t]).outT
  | [] => .no
section
variable {P : Program} {w : World} {K : PySem.W.Frag} {mg : Str → Option Value} {base : Heap}
theorem start_okT1 {aT : Addr} {Oc : Addr → Prop} {H : Hp} {n : Nat} {N : List Str} {a : Addr} {u0 : V} {d0 : D} {vs : List V} {ds : List D} (t : Tw aT H n) (o : Oc aT) (dm : ∀ b, Oc b → H b ≠ none) (r : Rps K aT Oc H (u0 :: vs) (d0 :: ds)) : StE K aT Oc H (L2.start N (u0 :: .ref a :: vs)) (Sl.sh d0 :: Sl.tw 0 a :: (ds.map Sl.sh ++ List.replicate (N.length - (ds.length + 2)) .no)) n := by
  have s := start_ok (N := N) (vs := u0 :: .non :: vs) (ds := d0 :: .non :: ds) t o dm (by cases r with | cons r1 r2 => exact .cons r1 (.cons .non r2))
  have s1 := s.set0 1 (some (.ref a)) (.tw 0 a) (fun d z => by cases z) (fun d z => by cases z) fun k b z => by cases z; rfl
  have e1 : (L2.start N (u0 :: V.non :: vs)).set 1 (some (.ref a)) = L2.start N (u0 :: .ref a :: vs) := by unfold L2.start; rfl
  have e2 : ((d0 :: D.non :: ds).map Sl.sh ++ List.replicate (N.length - (d0 :: D.non :: ds).length) Sl.no).set 1 (.tw 0 a) = Sl.sh d0 :: Sl.tw 0 a :: (ds.map Sl.sh ++ List.replicate (N.length - (ds.length + 2)) .no) := rfl
  rw [e1, e2] at s1
  exact s1
theorem go_startT1 {X : Cx} {W : WX} {F : TF Fl} {N : List Str} {aT : Addr} {Oc : Addr → Prop} {H : Hp} {n : Nat} {A : TA} {t : Tn} {u0 : V} {d0 : D} {vs : List V} {ds : List D} {Q : VK} {E : XK} (tt : Tw aT H n) (o : Oc aT) (dm : ∀ b, Oc b → H b ≠ none) (nf : NoF Oc H) (tw : TwnAt X.K H A t) (ho : ∀ b, A.has b → Oc b) (nT : ¬ A.has aT) (r : Rps X.K aT Oc H (u0 :: vs) (d0 :: ds)) (hW : W = fun c d _ H' => E c d H')
    (h : SpTO X.K X.mg aT Oc A H Q E (callT1 N.length F A.a t (d0 :: ds) n)) : GoU X W F { nx := fun _ H' => Q .non H', rt := Q } (L2.start N (u0 :: .ref A.a :: vs)) H := by
  subst hW
  have s := start_okT1 (N := N) (a := A.a) tt o dm r
  have noow : ∀ (i : Nat) d, (Sl.sh d0 :: Sl.tw 0 A.a :: (ds.map Sl.sh ++ List.replicate (N.length - (ds.length + 2)) Sl.no))[i]? ≠ some (.ow d) := fun i d h => by
    have := List.mem_of_getElem? h
    simp at this
  have st : StT X.K aT Oc H (L2.start N (u0 :: .ref A.a :: vs)) (Sl.sh d0 :: Sl.tw 0 A.a :: (ds.map Sl.sh ++ List.replicate (N.length - (ds.length + 2)) .no)) n [A] [t] := by
    refine ⟨s, nf, .cons tw .nil, fun B hB => ?_, fun B hB => ?_, by simp, fun i k a h => ?_⟩
    · simp only [List.mem_singleton] at hB; subst hB; exact ho
    · simp only [List.mem_singleton] at hB; subst hB; exact nT
    · have := List.mem_of_getElem? h
      simp at this
      obtain ⟨rfl, rfl⟩ := this
      exact ⟨A, rfl, rfl⟩
  refine ⟨aT, Oc, Oc, H, _, n, [A], [A], [t], ⟨st, .refl, fun i d a z => absurd z (noow i d), fun b h => h, dm, ⟨[], rfl⟩, fun B hB => .inl hB⟩, ?_⟩
  have one : ∀ {H' ts t'}, TwsAt X.K H' [A] ts → ts = [t'] → TwnAt X.K H' A t' := fun {H' ts t'} h e => by
    subst e
    cases h with
    | cons h _ => exact h
  simp only [callT1] at h
  generalize F (Sl.sh d0 :: Sl.tw 0 A.a :: (ds.map Sl.sh ++ List.replicate (N.length - (ds.length + 2)) .no)) n [t] = r0 at h ⊢
  induction r0 with
  | amb f ih => exact fun b => ih b (h b)
  | no => exact h
  | ex c m => exact h
  | ok f m =>
    obtain ⟨f, ts⟩ := f
    match ts, h with
    | [], h => exact h.elim
    | _ :: _ :: _, h => exact h.elim
    | [t'], h =>
      cases f with
      | x c =>
        obtain ⟨u, h1, h2⟩ := h
        exact ⟨u, h1, fun σ' H' e tt tw => h2 H' e tt (one tw rfl)⟩
      | v f =>
        cases f with
        | rt d => exact fun v H' e tt tw r => h v H' e tt (one tw rfl) r
        | nx ρ' => exact fun σ' H' Oc' as' k s' => h .non H' s'.ex s'.t.st.tw (one s'.tws rfl) .non
theorem defT1_ok {x qual : Str} {st : Stmt} {f : Addr} {fd : FuncData} {N ps : List Str} {k ar : Nat} {F : TF Fl} (Fn : Fun K x qual st f fd) (S : FnScope N ps (defScope st)) (hp : ps.length = ar + 1) (ha : 0 < ar)
    (body : ∀ (cdv : Value) (A : Around) (outer : List Env) (s : Shared) (H : Hp) (E : XK), Room k (bX P w K mg base N qual st f cdv A outer s H E).A → USs (bX P w K mg base N qual st f cdv A outer s H E) (bW E) (defBody st) F) :
    FnOk P w K mg base (L2N.CX P w) (k + 1) f fd ps (spT1 K mg ar (callT1 N.length F)) := by
  refine fun_okN Fn S (fun vs H Q E h => ?_) (fun cdv A outer s H vs Q E hr h => ?_)
  · obtain ⟨_, _, _, us, ds, _, _, _, rfl, _, _, _, _, _, _, _, r, hl, _⟩ := h
    have := r.length
    rw [List.length_cons, List.length_cons, hp, ← hl, ← this, List.length_cons]
  · obtain ⟨aT, Oc, u0, us, ds, n, B, t, rfl, tt, o, dm, nf, tw, ho, nT, r, hl, q⟩ := h
    cases ds with
    | nil => cases r
    | cons d0 ds =>
    exact ⟨_, body cdv A outer s H E hr, go_startT1 (X := bX P w K mg base N qual st f cdv A outer s H E) tt o dm nf tw ho nT r rfl q⟩
end
end DL
namespace DL
open PySem PySem.Spec PyProof.Rows L2
def eNo : SE := fun _ _ => .no
theorem de_no {X : Cx} {W : WX} {e : Expr} : DE X W e eNo := ⟨fun pins s σ H Q I h => by
  obtain ⟨aT, Oc, ρ, n, s, h⟩ := h
  exact h.elim⟩
end DL

set_option Elab.async false
set_option linter.all false
set_option maxRecDepth 100000
set_option maxHeartbeats 4000000
namespace DL
open PySem PySem.Spec PyProof.Rows L2
def c_HOUSES : D := (.int 8)
def c_HIGH : D := (.int 9)
def c_LOW : D := (.int (-1))
def c_WORDS : D := (.tup [(.str "leads"), (.str "one"), (.str "two"), (.str "joined"), (.str "wells"), (.str "count"), (.str "ring"), (.str "even")])
def c_BONDS : D := (.tup [(.str "both"), (.str "either")])
def c_MOST : D := (.int 3)
def c_SIZES : List (Str × Int) := [("leads", 2), ("one", 2), ("two", 0), ("joined", 3), ("wells", 0), ("count", 3), ("ring", 1), ("even", 3)]
/-! ### _wall -/
def F_wall : SS :=
  (whileF (tOf (eC (.bl true)))
  sNext 1000)
def g_wall : List D → Nat → Rs D := callF 1 F_wall
/-! ### is_whole -/
def F_is_whole : SS :=
  (sRet (eAnd (eIsi "int" (eVar 0)) (eAnd (eNot (eIsi "bool" (eVar 0))) (eChain leD leD (eVar 1) (eVar 0) (eVar 2)))))
def g_is_whole : List D → Nat → Rs D := callF 3 F_is_whole
/-! ### is_any_whole -/
def F_is_any_whole : SS :=
  (sRet (eAnd (eIsi "int" (eVar 0)) (eNot (eIsi "bool" (eVar 0)))))
def g_is_any_whole : List D → Nat → Rs D := callF 1 F_is_any_whole
/-! ### is_street -/
def F_is_street : SS :=
  (sSeq (sIf (tOrr (tNo (tOf (eIsi "tuple" (eVar 1)))) (tOrr (tCm neD (eCa lenD2 (eCons (eVar 1) eNil)) (eC (.int 2))) (tNo (tOf (eCa (L1 blsD fun bs => some (.bl (bs.all id))) (eCons (eLc [2] (iSeq (eVar 1)) (gN 2) tTrue (eDef 3 g_is_whole (eCons (eVar 2) (eCons (eC (.int 0)) (eCons (eOp subD (eVar 0) (eC (.int 1))) eNil))))) eNil))))))
  (sRet (eC (.bl false)))
  sNext)
  (sRet (eCmp ltD (eOp ixD (eVar 1) (eC (.int 0))) (eOp ixD (eVar 1) (eC (.int 1))))))
def g_is_street : List D → Nat → Rs D := callF 3 F_is_street
/-! ### doors_of -/
def F_doors_of : SS :=
  (sSeq (sOwn 2 (eLst eNil))
  (sSeq (sFor (iSeq (eOp ixD (eVar 0) (eC (.int 1)))) (gT (gsCons (gN 3) (gsCons (gN 4) gsNil)))
  (sIf (tCm inD (eVar 1) (eTup (eCons (eVar 3) (eCons (eVar 4) eNil))))
  (sApp 2 (eIf (tCm eqD (eVar 1) (eVar 3)) (eVar 4) (eVar 3)))
  sNext))
  (sRet (eCa sortedD2 (eCons (eVarB 2) eNil)))))
def g_doors_of : List D → Nat → Rs D := callF 5 F_doors_of
/-! ### ways_from -/
def F_ways_from : SS :=
  (sSeq (sPar [3, 4, 5] [true, false, false] (eCons (eDict (kvCons (eVar 1) (eC (.int 0)) kvNil)) (eCons (eLst (eCons (eVar 1) eNil)) (eCons (eC (.int 0)) eNil))))
  (sSeq (whileF (tCm neD (eVar 4) (eLst eNil))
  (sSeq (sAug 5 (iD (fun _ _ => true) fun i j => i + j) (eC (.int 1)))
  (sSeq (sOwn 6 (eLst eNil))
  (sSeq (sFor (iSeq (eVar 4)) (gN 7)
  (sFor (iSeq (eDef 2 g_doors_of (eCons (eVar 0) (eCons (eVar 7) eNil)))) (gN 8)
  (sIf (tAn (tCm inD (eVar 8) (eVar 2)) (tCm ninD (eVar 8) (eVarB 3)))
  (sSeq (sAsg (eVar 5) (aIx 3 (eVar 8)))
  (sApp 6 (eVar 8)))
  sNext)))
  (sFrz 6 (sSet 4 (eVar 6)))))) 1000)
  (sFrz 3 (sRet (eVar 3)))))
def g_ways_from : List D → Nat → Rs D := callF 9 F_ways_from
/-! ### all_ways -/
def F_all_ways : SS :=
  (sRet (eDef 3 g_ways_from (eCons (eVar 0) (eCons (eVar 1) (eCons (eLrng (eOp ixD (eVar 0) (eC (.int 0)))) eNil)))))
def g_all_ways : List D → Nat → Rs D := callF 2 F_all_ways
/-! ### good_plan -/
def F_good_plan : SS :=
  (sSeq (sIf (tOrr (tNo (tOf (eIsi "tuple" (eVar 0)))) (tOrr (tCm neD (eCa lenD2 (eCons (eVar 0) eNil)) (eC (.int 2))) (tNo (tOf (eDef 3 g_is_whole (eCons (eOp ixD (eVar 0) (eC (.int 0))) (eCons (eC (.int 1)) (eCons (eC c_HOUSES) eNil))))))))
  (sRet (eC (.bl false)))
  sNext)
  (sSeq (sIf (tOrr (tNo (tOf (eIsi "tuple" (eOp ixD (eVar 0) (eC (.int 1)))))) (tNo (tOf (eCa (L1 blsD fun bs => some (.bl (bs.all id))) (eCons (eLc [1] (iSeq (eOp ixD (eVar 0) (eC (.int 1)))) (gN 1) tTrue (eDef 2 g_is_street (eCons (eOp ixD (eVar 0) (eC (.int 0))) (eCons (eVar 1) eNil)))) eNil)))))
  (sRet (eC (.bl false)))
  sNext)
  (sSeq (sIf (tNo (tOf (eCa (L1 blsD fun bs => some (.bl (bs.all id))) (eCons (eLc [1, 2] (iRng zipD (eCons (eOp ixD (eVar 0) (eC (.int 1))) (eCons (eSl (eOp ixD (eVar 0) (eC (.int 1))) (oSome (eC (.int 1))) oNone) eNil))) (gT (gsCons (gN 1) (gsCons (gN 2) gsNil))) tTrue (eCmp ltD (eVar 1) (eVar 2))) eNil))))
  (sRet (eC (.bl false)))
  sNext)
  (sRet (eCmp eqD (eCa lenD2 (eCons (eDef 2 g_all_ways (eCons (eVar 0) (eCons (eC (.int 0)) eNil))) eNil)) (eOp ixD (eVar 0) (eC (.int 0))))))))
def g_good_plan : List D → Nat → Rs D := callF 3 F_good_plan
/-! ### need_plan -/
def F_need_plan : SS :=
  (sIf (tNo (tOf (eDef 1 g_good_plan (eCons (eVar 0) eNil))))
  (sRaise "NoPlan")
  sNext)
def g_need_plan : List D → Nat → Rs D := callF 1 F_need_plan
/-! ### need_house -/
def F_need_house : SS :=
  (sIf (tNo (tOf (eDef 3 g_is_whole (eCons (eVar 1) (eCons (eC (.int 0)) (eCons (eOp subD (eOp ixD (eVar 0) (eC (.int 0))) (eC (.int 1))) eNil))))))
  (sRaise "NoHouse")
  sNext)
def g_need_house : List D → Nat → Rs D := callF 2 F_need_house
/-! ### is_mark -/
def F_is_mark : SS :=
  (sRet (eDef 3 g_is_whole (eCons (eVar 0) (eCons (eC c_LOW) (eCons (eC c_HIGH) eNil)))))
def g_is_mark : List D → Nat → Rs D := callF 1 F_is_mark
/-! ### good_marks -/
def F_good_marks : SS :=
  (sRet (eAnd (eIsi "tuple" (eVar 1)) (eAnd (eCmp eqD (eCa lenD2 (eCons (eVar 1) eNil)) (eOp ixD (eVar 0) (eC (.int 0)))) (eCa (L1 blsD fun bs => some (.bl (bs.all id))) (eCons (eLc [2] (iSeq (eVar 1)) (gN 2) tTrue (eDef 1 g_is_mark (eCons (eVar 2) eNil))) eNil)))))
def g_good_marks : List D → Nat → Rs D := callF 3 F_good_marks
/-! ### need_marks -/
def F_need_marks : SS :=
  (sSeq (sDrop (eDef 1 g_need_plan (eCons (eVar 0) eNil)))
  (sIf (tNo (tOf (eDef 2 g_good_marks (eCons (eVar 0) (eCons (eVar 1) eNil)))))
  (sRaise "NoMarks")
  sNext))
def g_need_marks : List D → Nat → Rs D := callF 2 F_need_marks
/-! ### words_in -/
def F_words_in (self : List D → Nat → Rs D) : SS :=
  (sSeq (sIf (tOf (eIsi "str" (eVar 0)))
  (sRet (eIf (tCm inD (eVar 0) (eC c_WORDS)) (eC (.int 1)) (eC .non)))
  sNext)
  (sSeq (sIf (tOrr (tNo (tOf (eIsi "tuple" (eVar 0)))) (tOrr (tCm neD (eCa lenD2 (eCons (eVar 0) eNil)) (eC (.int 3))) (tCm ltD (eVar 1) (eC (.int 2)))))
  (sRet (eC .non))
  sNext)
  (sSeq (sIf (tOrr (tNo (tOf (eIsi "str" (eOp ixD (eVar 0) (eC (.int 0)))))) (tCm ninD (eOp ixD (eVar 0) (eC (.int 0))) (eC c_BONDS)))
  (sRet (eC .non))
  sNext)
  (sSeq (sPar [2, 3] [false, false] (eCons (eDef 2 self (eCons (eOp ixD (eVar 0) (eC (.int 1))) (eCons (eOp subD (eVar 1) (eC (.int 1))) eNil))) (eCons (eDef 2 self (eCons (eOp ixD (eVar 0) (eC (.int 2))) (eCons (eOp subD (eVar 1) (eC (.int 1))) eNil))) eNil)))
  (sRet (eIf (tOrr (tCm isD (eVar 2) (eC .non)) (tCm isD (eVar 3) (eC .non))) (eC .non) (eOp addD (eVar 2) (eVar 3))))))))
def gr_words_in : Nat → List D → Nat → Rs D
  | 0 => fun _ _ => .no
  | k + 1 => callF 4 (F_words_in (gr_words_in k))
def g_words_in : List D → Nat → Rs D := gr_words_in 4
/-! ### good_claim -/
def F_good_claim : SS :=
  (sSeq (sSet 1 (eDef 2 g_words_in (eCons (eVar 0) (eCons (eC c_MOST) eNil))))
  (sRet (eAnd (eCmp isnD (eVar 1) (eC .non)) (eCmp leD (eVar 1) (eC c_MOST)))))
def g_good_claim : List D → Nat → Rs D := callF 2 F_good_claim
/-! ### need_claim -/
def F_need_claim : SS :=
  (sIf (tNo (tOf (eDef 1 g_good_claim (eCons (eVar 0) eNil))))
  (sRaise "NoClaim")
  sNext)
def g_need_claim : List D → Nat → Rs D := callF 1 F_need_claim
/-! ### are_bits -/
def F_are_bits : SS :=
  (sRet (eCa (L1 blsD fun bs => some (.bl (bs.all id))) (eCons (eLc [1] (iSeq (eVar 0)) (gN 1) tTrue (eCmp inD (eVar 1) (eTup (eCons (eC (.int 0)) (eCons (eC (.int 1)) eNil))))) eNil)))
def g_are_bits : List D → Nat → Rs D := callF 2 F_are_bits
/-! ### steps_by -/
def F_steps_by : SS :=
  (sSeq (sPar [2, 3] [false, false] (eCons (eVar 1) (eCons (eC (.int 0)) eNil)))
  (sSeq (whileF (tCm neD (eOp ixD (eVar 0) (eVar 2)) (eNeg (eC (.int 1))))
  (sSeq (sPar [2, 3] [false, false] (eCons (eOp ixD (eVar 0) (eVar 2)) (eCons (eOp addD (eVar 3) (eC (.int 1))) eNil)))
  (sIf (tCm gtD (eVar 3) (eCa lenD2 (eCons (eVar 0) eNil)))
  (sRet (eC .non))
  sNext)) 1000)
  (sRet (eVar 3))))
def g_steps_by : List D → Nat → Rs D := callF 4 F_steps_by
/-! ### leads -/
def F_leads : SS :=
  (sSeq (sIf (tCm neD (eTm tcnt (eVar 1) (eCons (eNeg (eC (.int 1))) eNil)) (eC (.int 1)))
  (sRet (eC (.bl false)))
  sNext)
  (sSeq (sIf (tNo (tOf (eCa (L1 blsD fun bs => some (.bl (bs.all id))) (eCons (eLc [2, 3] (iRng enumD (eCons (eVar 1) eNil)) (gT (gsCons (gN 2) (gsCons (gN 3) gsNil))) tTrue (eOr (eCmp eqD (eVar 3) (eNeg (eC (.int 1)))) (eCmp inD (eVar 3) (eDef 2 g_doors_of (eCons (eVar 0) (eCons (eVar 2) eNil)))))) eNil))))
  (sRet (eC (.bl false)))
  sNext)
  (sRet (eCa (L1 blsD fun bs => some (.bl (bs.all id))) (eCons (eLc [2] (iRng rng1 (eCons (eOp ixD (eVar 0) (eC (.int 0))) eNil)) (gN 2) tTrue (eCmp isnD (eDef 2 g_steps_by (eCons (eVar 1) (eCons (eVar 2) eNil))) (eC .non))) eNil)))))
def g_leads : List D → Nat → Rs D := callF 4 F_leads
/-! ### marked -/
def F_marked : SS :=
  (sRet (eLc [1, 2] (iRng enumD (eCons (eVar 0) eNil)) (gT (gsCons (gN 1) (gsCons (gN 2) gsNil))) (tCm eqD (eVar 2) (eC (.int 1))) (eVar 1)))
def g_marked : List D → Nat → Rs D := callF 3 F_marked
/-! ### joined -/
def F_joined : SS :=
  (sSeq (sSet 2 (eDef 1 g_marked (eCons (eVar 1) eNil)))
  (sRet (eAnd (eDef 1 g_are_bits (eCons (eVar 1) eNil)) (eAnd (eCmp neD (eVar 2) (eLst eNil)) (eCmp eqD (eCa lenD2 (eCons (eDef 3 g_ways_from (eCons (eVar 0) (eCons (eOp ixD (eVar 2) (eC (.int 0))) (eCons (eVar 2) eNil)))) eNil)) (eCa lenD2 (eCons (eVar 2) eNil)))))))
def g_joined : List D → Nat → Rs D := callF 3 F_joined
/-! ### wells -/
def F_wells : SS :=
  (sSeq (sOwn 2 (eLc [5, 6] (iRng enumD (eCons (eVar 1) eNil)) (gT (gsCons (gN 5) (gsCons (gN 6) gsNil))) (tCm eqD (eVar 6) (eC (.int 0))) (eVar 5)))
  (sSeq (sIf (tCm eqD (eVarB 2) (eLst eNil))
  (sRet (eC (.bl false)))
  sNext)
  (sSeq (sSet 3 (eLc [4] (iSeq (eVarB 2)) (gN 4) tTrue (eDef 2 g_all_ways (eCons (eVar 0) (eCons (eVar 4) eNil)))))
  (sRet (eCa (L1 blsD fun bs => some (.bl (bs.all id))) (eCons (eLc [5, 6] (iRng enumD (eCons (eVar 1) eNil)) (gT (gsCons (gN 5) (gsCons (gN 6) gsNil))) tTrue (eCmp eqD (eVar 6) (eCa minD (eCons (eLc [7] (iSeq (eVar 3)) (gN 7) tTrue (eOp ixD (eVar 7) (eVar 5))) eNil)))) eNil))))))
def g_wells : List D → Nat → Rs D := callF 8 F_wells
/-! ### holds_word -/
def F_holds_word : SS :=
  (sSeq (sIf (tCm inD (eVar 2) (eTup (eCons (eC (.str "leads")) (eCons (eC (.str "joined")) eNil))))
  (sRet (eIf (tCm eqD (eVar 2) (eC (.str "leads"))) (eDef 2 g_leads (eCons (eVar 0) (eCons (eVar 1) eNil))) (eDef 2 g_joined (eCons (eVar 0) (eCons (eVar 1) eNil)))))
  sNext)
  (sSeq (sIf (tCm eqD (eVar 2) (eC (.str "wells")))
  (sRet (eDef 2 g_wells (eCons (eVar 0) (eCons (eVar 1) eNil))))
  sNext)
  (sSeq (sIf (tCm eqD (eVar 2) (eC (.str "one")))
  (sRet (eAnd (eDef 1 g_are_bits (eCons (eVar 1) eNil)) (eCmp eqD (eCa sumD2 (eCons (eVar 1) eNil)) (eC (.int 1)))))
  sNext)
  (sSeq (sIf (tCm eqD (eVar 2) (eC (.str "two")))
  (sRet (eAnd (eDef 1 g_are_bits (eCons (eVar 1) eNil)) (eCa (L1 blsD fun bs => some (.bl (bs.all id))) (eCons (eLc [3, 4] (iSeq (eOp ixD (eVar 0) (eC (.int 1)))) (gT (gsCons (gN 3) (gsCons (gN 4) gsNil))) tTrue (eCmp neD (eOp ixD (eVar 1) (eVar 3)) (eOp ixD (eVar 1) (eVar 4)))) eNil))))
  sNext)
  (sSeq (sIf (tCm eqD (eVar 2) (eC (.str "even")))
  (sRet (eAnd (eDef 1 g_are_bits (eCons (eVar 1) eNil)) (eCmp eqD (eOp modD (eCa sumD2 (eCons (eVar 1) eNil)) (eC (.int 2))) (eC (.int 0)))))
  sNext)
  (sRet (eIf (tCm eqD (eVar 2) (eC (.str "count"))) (eCmp eqD (eOp ixD (eVar 1) (eC (.int 0))) (eOp ixD (eVar 0) (eC (.int 0)))) (eCmp eqD (eCa lenD2 (eCons (eOp ixD (eVar 0) (eC (.int 1))) eNil)) (eOp subD (eOp ixD (eVar 0) (eC (.int 0))) (eC (.int 1)))))))))))
def g_holds_word : List D → Nat → Rs D := callF 5 F_holds_word
/-! ### holds_of -/
def F_holds_of (self : List D → Nat → Rs D) : SS :=
  (sSeq (sIf (tOf (eIsi "str" (eVar 2)))
  (sRet (eDef 3 g_holds_word (eCons (eVar 0) (eCons (eVar 1) (eCons (eVar 2) eNil)))))
  sNext)
  (sSeq (sOwn 3 (eLc [4] (iSeq (eSl (eVar 2) (oSome (eC (.int 1))) oNone)) (gN 4) tTrue (eDef 3 self (eCons (eVar 0) (eCons (eVar 1) (eCons (eVar 4) eNil))))))
  (sRet (eIf (tCm eqD (eOp ixD (eVar 2) (eC (.int 0))) (eC (.str "both"))) (eCa (L1 blsD fun bs => some (.bl (bs.all id))) (eCons (eVarB 3) eNil)) (eCa (L1 blsD fun bs => some (.bl (bs.any id))) (eCons (eVarB 3) eNil))))))
def gr_holds_of : Nat → List D → Nat → Rs D
  | 0 => fun _ _ => .no
  | k + 1 => callF 5 (F_holds_of (gr_holds_of k))
def g_holds_of : List D → Nat → Rs D := gr_holds_of 4
/-! ### tos_of -/
def F_tos_of : SS :=
  (sSeq (sPar [2, 3] [false, true] (eCons (eDef 2 g_all_ways (eCons (eVar 0) (eCons (eC (.int 0)) eNil))) (eCons (eLst eNil) eNil)))
  (sSeq (sFor (iRng rng1 (eCons (eOp ixD (eVar 0) (eC (.int 0))) eNil)) (gN 1)
  (sSeq (sOwn 4 (eLc [5] (iSeq (eDef 2 g_doors_of (eCons (eVar 0) (eCons (eVar 1) eNil)))) (gN 5) (tCm eqD (eOp ixD (eVar 2) (eVar 5)) (eOp subD (eOp ixD (eVar 2) (eVar 1)) (eC (.int 1)))) (eVar 5)))
  (sApp 3 (eIf (tCm neD (eVarB 4) (eLst eNil)) (eOp ixD (eVarB 4) (eC (.int 0))) (eNeg (eC (.int 1)))))))
  (sFrz 3 (sRet (eVar 3)))))
def g_tos_of : List D → Nat → Rs D := callF 6 F_tos_of
/-! ### below_of -/
def F_below_of (self : List D → Nat → Rs D) : SS :=
  (sRet (eOp addD (eOp ixD (eVar 1) (eVar 2)) (eCa sumD2 (eCons (eLc [3] (iRng rng1 (eCons (eCa lenD2 (eCons (eVar 0) eNil)) eNil)) (gN 3) (tCm eqD (eOp ixD (eVar 0) (eVar 3)) (eVar 2)) (eDef 3 self (eCons (eVar 0) (eCons (eVar 1) (eCons (eVar 3) eNil))))) eNil))))
def gr_below_of : Nat → List D → Nat → Rs D
  | 0 => fun _ _ => .no
  | k + 1 => callF 4 (F_below_of (gr_below_of k))
def g_below_of : List D → Nat → Rs D := gr_below_of 10
/-! ### tree_letters -/
def F_tree_letters : SS :=
  (sSeq (sPar [4, 5, 6] [false, false, true] (eCons (eDef 2 g_all_ways (eCons (eVar 0) (eCons (eC (.int 0)) eNil))) (eCons (eDef 1 g_tos_of (eCons (eVar 0) eNil)) (eCons (eLst eNil) eNil))))
  (sSeq (sFor (iRng rng1 (eCons (eOp ixD (eVar 0) (eC (.int 0))) eNil)) (gN 3)
  (sSeq (sSet 7 (eDef 3 g_below_of (eCons (eVar 5) (eCons (eVar 1) (eCons (eVar 3) eNil)))))
  (sApp 6 (eTup (eCons (eOp ixD (eVar 4) (eVar 3)) (eCons (eOp ixD (eVar 5) (eVar 3)) (eCons (eIf (tCm eqD (eVar 2) (eC (.int 0))) (eVar 7) (eOp modD (eVar 7) (eVar 2))) eNil)))))))
  (sFrz 6 (sRet (eVar 6)))))
def g_tree_letters : List D → Nat → Rs D := callF 8 F_tree_letters
/-! ### joined_letters -/
def F_joined_letters : SS :=
  (sSeq (sSet 2 (eDef 1 g_marked (eCons (eVar 1) eNil)))
  (sSeq (sPar [3, 4] [false, false] (eCons (eDef 2 g_all_ways (eCons (eVar 0) (eCons (eOp ixD (eVar 2) (eC (.int 0))) eNil))) (eCons (eDef 3 g_ways_from (eCons (eVar 0) (eCons (eOp ixD (eVar 2) (eC (.int 0))) (eCons (eVar 2) eNil)))) eNil)))
  (sRet (eLc [5] (iRng rng1 (eCons (eOp ixD (eVar 0) (eC (.int 0))) eNil)) (gN 5) tTrue (eTup (eCons (eOp ixD (eVar 2) (eC (.int 0))) (eCons (eOp ixD (eVar 3) (eVar 5)) (eCons (eGet (eVar 4) (eVar 5) (eNeg (eC (.int 1)))) eNil))))))))
def g_joined_letters : List D → Nat → Rs D := callF 6 F_joined_letters
/-! ### word_letters -/
def F_word_letters : SS :=
  (sSeq (sSet 3 (eOp ixD (eVar 0) (eC (.int 0))))
  (sSeq (sIf (tCm inD (eVar 2) (eTup (eCons (eC (.str "two")) (eCons (eC (.str "wells")) eNil))))
  (sRet (eOp mulD (eLst (eCons (eTup eNil) eNil)) (eVar 3)))
  sNext)
  (sSeq (sIf (tCm eqD (eVar 2) (eC (.str "leads")))
  (sRet (eLc [5] (iRng rng1 (eCons (eVar 3) eNil)) (gN 5) tTrue (eTup (eCons (eTm tidx (eVar 1) (eCons (eNeg (eC (.int 1))) eNil)) (eCons (eDef 2 g_steps_by (eCons (eVar 1) (eCons (eVar 5) eNil))) eNil)))))
  sNext)
  (sSeq (sIf (tCm eqD (eVar 2) (eC (.str "one")))
  (sSeq (sSet 4 (eTm tidx (eVar 1) (eCons (eC (.int 1)) eNil)))
  (sRet (eLc [5] (iRng rng1 (eCons (eVar 3) eNil)) (gN 5) tTrue (eTup (eCons (eVar 4) (eCons (eOp ixD (eDef 2 g_all_ways (eCons (eVar 0) (eCons (eVar 4) eNil))) (eVar 5)) eNil))))))
  sNext)
  (sSeq (sIf (tCm eqD (eVar 2) (eC (.str "ring")))
  (sRet (eLc [5] (iRng rng1 (eCons (eVar 3) eNil)) (gN 5) tTrue (eTup (eCons (eOp ixD (eDef 2 g_all_ways (eCons (eVar 0) (eCons (eC (.int 0)) eNil))) (eVar 5)) eNil))))
  sNext)
  (sSeq (sIf (tCm eqD (eVar 2) (eC (.str "joined")))
  (sRet (eDef 2 g_joined_letters (eCons (eVar 0) (eCons (eVar 1) eNil))))
  sNext)
  (sRet (eDef 3 g_tree_letters (eCons (eVar 0) (eCons (eIf (tCm eqD (eVar 2) (eC (.str "count"))) (eOp mulD (eLst (eCons (eC (.int 1)) eNil)) (eVar 3)) (eVar 1)) (eCons (eIf (tCm eqD (eVar 2) (eC (.str "count"))) (eC (.int 0)) (eC (.int 2))) eNil)))))))))))
def g_word_letters : List D → Nat → Rs D := callF 6 F_word_letters
/-! ### letters_of -/
def F_letters_of (self : List D → Nat → Rs D) : SS :=
  (sSeq (sIf (tOf (eIsi "str" (eVar 2)))
  (sRet (eDef 3 g_word_letters (eCons (eVar 0) (eCons (eVar 1) (eCons (eVar 2) eNil)))))
  sNext)
  (sSeq (sIf (tCm eqD (eOp ixD (eVar 2) (eC (.int 0))) (eC (.str "both")))
  (sRet (eLz (eCons (eDef 3 self (eCons (eVar 0) (eCons (eVar 1) (eCons (eOp ixD (eVar 2) (eC (.int 1))) eNil)))) (eCons (eDef 3 self (eCons (eVar 0) (eCons (eVar 1) (eCons (eOp ixD (eVar 2) (eC (.int 2))) eNil)))) eNil))))
  sNext)
  (sSeq (sSet 3 (eIf (tOf (eDef 3 g_holds_of (eCons (eVar 0) (eCons (eVar 1) (eCons (eOp ixD (eVar 2) (eC (.int 1))) eNil))))) (eC (.int 0)) (eC (.int 1))))
  (sRet (eLc [4] (iSeq (eDef 3 self (eCons (eVar 0) (eCons (eVar 1) (eCons (eOp ixD (eVar 2) (eOp addD (eC (.int 1)) (eVar 3))) eNil))))) (gN 4) tTrue (eTup (eCons (eVar 3) (eCons (eVar 4) eNil))))))))
def gr_letters_of : Nat → List D → Nat → Rs D
  | 0 => fun _ _ => .no
  | k + 1 => callF 5 (F_letters_of (gr_letters_of k))
def g_letters_of : List D → Nat → Rs D := gr_letters_of 4
/-! ### view_of -/
def F_view_of : SS :=
  (sSeq (sSet 4 (eCa tupleD (eCons (eLc [5] (iSeq (eDef 2 g_doors_of (eCons (eVar 0) (eCons (eVar 3) eNil)))) (gN 5) tTrue (eTup (eCons (eVar 5) (eCons (eOp ixD (eVar 1) (eVar 5)) (eCons (eOp ixD (eVar 2) (eVar 5)) eNil))))) eNil)))
  (sRet (eTup (eCons (eVar 3) (eCons (eOp ixD (eVar 1) (eVar 3)) (eCons (eOp ixD (eVar 2) (eVar 3)) (eCons (eVar 4) eNil)))))))
def g_view_of : List D → Nat → Rs D := callF 6 F_view_of
/-! ### are_wholes -/
def F_are_wholes : SS :=
  (sRet (eAnd (eIsi "tuple" (eVar 0)) (eAnd (eCmp eqD (eCa lenD2 (eCons (eVar 0) eNil)) (eVar 1)) (eCa (L1 blsD fun bs => some (.bl (bs.all id))) (eCons (eLc [2] (iSeq (eVar 0)) (gN 2) tTrue (eDef 1 g_is_any_whole (eCons (eVar 2) eNil))) eNil)))))
def g_are_wholes : List D → Nat → Rs D := callF 3 F_are_wholes
/-! ### says_leads -/
def F_says_leads : SS :=
  (sSeq (sAsg (eVar 2) (aSq (asCons (aN 4) (asCons (aN 5) asNil))))
  (sSeq (sIf (tOf (eCa (L1 blsD fun bs => some (.bl (bs.any id))) (eCons (eLc [6] (iSeq (eVar 3)) (gN 6) tTrue (eCmp neD (eOp ixD (eOp ixD (eVar 6) (eC (.int 2))) (eC (.int 0))) (eVar 4))) eNil)))
  (sRet (eC (.bl false)))
  sNext)
  (sSeq (sIf (tCm eqD (eVar 1) (eNeg (eC (.int 1))))
  (sRet (eAnd (eCmp eqD (eVar 5) (eC (.int 0))) (eCmp eqD (eVar 4) (eVar 0))))
  sNext)
  (sRet (eAnd (eCmp gtD (eVar 5) (eC (.int 0))) (eCa (L1 blsD fun bs => some (.bl (bs.any id))) (eCons (eLc [6] (iSeq (eVar 3)) (gN 6) tTrue (eAnd (eCmp eqD (eOp ixD (eVar 6) (eC (.int 0))) (eVar 1)) (eCmp eqD (eOp ixD (eOp ixD (eVar 6) (eC (.int 2))) (eC (.int 1))) (eOp subD (eVar 5) (eC (.int 1)))))) eNil)))))))
def g_says_leads : List D → Nat → Rs D := callF 7 F_says_leads
/-! ### says_one -/
def F_says_one : SS :=
  (sSeq (sAsg (eVar 2) (aSq (asCons (aN 4) (asCons (aN 5) asNil))))
  (sSeq (sIf (tOf (eCa (L1 blsD fun bs => some (.bl (bs.any id))) (eCons (eLc [6] (iSeq (eVar 3)) (gN 6) tTrue (eCmp neD (eOp ixD (eOp ixD (eVar 6) (eC (.int 2))) (eC (.int 0))) (eVar 4))) eNil)))
  (sRet (eC (.bl false)))
  sNext)
  (sSeq (sIf (tCm eqD (eVar 1) (eC (.int 1)))
  (sRet (eAnd (eCmp eqD (eVar 5) (eC (.int 0))) (eCmp eqD (eVar 4) (eVar 0))))
  sNext)
  (sRet (eAnd (eCmp eqD (eVar 1) (eC (.int 0))) (eAnd (eCmp gtD (eVar 5) (eC (.int 0))) (eCa (L1 blsD fun bs => some (.bl (bs.any id))) (eCons (eLc [6] (iSeq (eVar 3)) (gN 6) tTrue (eCmp eqD (eOp ixD (eOp ixD (eVar 6) (eC (.int 2))) (eC (.int 1))) (eOp subD (eVar 5) (eC (.int 1))))) eNil))))))))
def g_says_one : List D → Nat → Rs D := callF 7 F_says_one
/-! ### says_two -/
def F_says_two : SS :=
  (sRet (eAnd (eCmp inD (eVar 0) (eTup (eCons (eC (.int 0)) (eCons (eC (.int 1)) eNil)))) (eNot (eCa (L1 blsD fun bs => some (.bl (bs.any id))) (eCons (eLc [2] (iSeq (eVar 1)) (gN 2) tTrue (eCmp eqD (eOp ixD (eVar 2) (eC (.int 1))) (eVar 0))) eNil)))))
def g_says_two : List D → Nat → Rs D := callF 3 F_says_two
/-! ### says_wells -/
def F_says_wells : SS :=
  (sSeq (sIf (tOrr (tCm leD (eVar 0) (eC (.int 0))) (tCm eqD (eVar 1) (eTup eNil)))
  (sRet (eCmp eqD (eVar 0) (eC (.int 0))))
  sNext)
  (sSeq (sSet 2 (eCa minD (eCons (eLc [3] (iSeq (eVar 1)) (gN 3) tTrue (eOp ixD (eVar 3) (eC (.int 1)))) eNil)))
  (sRet (eAnd (eCmp geD (eVar 2) (eC (.int 0))) (eCmp eqD (eVar 0) (eOp addD (eVar 2) (eC (.int 1))))))))
def g_says_wells : List D → Nat → Rs D := callF 4 F_says_wells
/-! ### says_joined -/
def F_says_joined : SS :=
  (sSeq (sAsg (eVar 2) (aSq (asCons (aN 4) (asCons (aN 5) (asCons (aN 6) asNil)))))
  (sSeq (sIf (tOrr (tOf (eCa (L1 blsD fun bs => some (.bl (bs.any id))) (eCons (eLc [7] (iSeq (eVar 3)) (gN 7) tTrue (eCmp neD (eOp ixD (eOp ixD (eVar 7) (eC (.int 2))) (eC (.int 0))) (eVar 4))) eNil))) (tCm neD (eCmp eqD (eVar 5) (eC (.int 0))) (eCmp eqD (eVar 4) (eVar 0))))
  (sRet (eC (.bl false)))
  sNext)
  (sSeq (sIf (tAn (tCm neD (eVar 5) (eC (.int 0))) (tOrr (tCm ltD (eVar 5) (eC (.int 0))) (tNo (tOf (eCa (L1 blsD fun bs => some (.bl (bs.any id))) (eCons (eLc [7] (iSeq (eVar 3)) (gN 7) tTrue (eCmp eqD (eOp ixD (eOp ixD (eVar 7) (eC (.int 2))) (eC (.int 1))) (eOp subD (eVar 5) (eC (.int 1))))) eNil))))))
  (sRet (eC (.bl false)))
  sNext)
  (sSeq (sIf (tCm eqD (eVar 1) (eC (.int 0)))
  (sRet (eAnd (eCmp eqD (eVar 6) (eNeg (eC (.int 1)))) (eCmp neD (eVar 4) (eVar 0))))
  sNext)
  (sSeq (sIf (tOrr (tCm neD (eVar 1) (eC (.int 1))) (tCm eqD (eVar 4) (eVar 0)))
  (sRet (eAnd (eCmp eqD (eVar 1) (eC (.int 1))) (eCmp eqD (eVar 6) (eC (.int 0)))))
  sNext)
  (sRet (eAnd (eCmp gtD (eVar 6) (eC (.int 0))) (eCa (L1 blsD fun bs => some (.bl (bs.any id))) (eCons (eLc [7] (iSeq (eVar 3)) (gN 7) tTrue (eAnd (eCmp eqD (eOp ixD (eVar 7) (eC (.int 1))) (eC (.int 1))) (eCmp eqD (eOp ixD (eOp ixD (eVar 7) (eC (.int 2))) (eC (.int 2))) (eOp subD (eVar 6) (eC (.int 1)))))) eNil)))))))))
def g_says_joined : List D → Nat → Rs D := callF 8 F_says_joined
/-! ### says_tree -/
def F_says_tree : SS :=
  (sSeq (sAsg (eVar 1) (aSq (asCons (aN 3) (asCons (aN 4) (asCons (aN 5) asNil)))))
  (sSeq (sIf (tCm eqD (eVar 0) (eC (.int 0)))
  (sRet (eAnd (eCmp eqD (eVar 3) (eC (.int 0))) (eCmp eqD (eVar 4) (eNeg (eC (.int 1))))))
  sNext)
  (sRet (eAnd (eCmp gtD (eVar 3) (eC (.int 0))) (eCa (L1 blsD fun bs => some (.bl (bs.any id))) (eCons (eLc [6] (iSeq (eVar 2)) (gN 6) tTrue (eAnd (eCmp eqD (eOp ixD (eVar 6) (eC (.int 0))) (eVar 4)) (eCmp eqD (eOp ixD (eOp ixD (eVar 6) (eC (.int 2))) (eC (.int 0))) (eOp subD (eVar 3) (eC (.int 1)))))) eNil))))))
def g_says_tree : List D → Nat → Rs D := callF 7 F_says_tree
/-! ### belows -/
def F_belows : SS :=
  (sRet (eCa sumD2 (eCons (eLc [2] (iSeq (eVar 1)) (gN 2) (tCm eqD (eOp ixD (eOp ixD (eVar 2) (eC (.int 2))) (eC (.int 1))) (eVar 0)) (eOp ixD (eOp ixD (eVar 2) (eC (.int 2))) (eC (.int 2)))) eNil)))
def g_belows : List D → Nat → Rs D := callF 3 F_belows
/-! ### says_count -/
def F_says_count : SS :=
  (sSeq (sIf (tOrr (tNo (tOf (eDef 3 g_says_tree (eCons (eVar 0) (eCons (eVar 2) (eCons (eVar 3) eNil)))))) (tCm neD (eOp ixD (eVar 2) (eC (.int 2))) (eOp addD (eC (.int 1)) (eDef 2 g_belows (eCons (eVar 0) (eCons (eVar 3) eNil))))))
  (sRet (eC (.bl false)))
  sNext)
  (sRet (eOr (eCmp neD (eVar 0) (eC (.int 0))) (eCmp eqD (eVar 1) (eOp ixD (eVar 2) (eC (.int 2)))))))
def g_says_count : List D → Nat → Rs D := callF 4 F_says_count
/-! ### says_even -/
def F_says_even : SS :=
  (sSeq (sIf (tOrr (tCm ninD (eVar 1) (eTup (eCons (eC (.int 0)) (eCons (eC (.int 1)) eNil)))) (tOrr (tNo (tOf (eDef 3 g_says_tree (eCons (eVar 0) (eCons (eVar 2) (eCons (eVar 3) eNil)))))) (tCm neD (eOp ixD (eVar 2) (eC (.int 2))) (eOp modD (eOp addD (eVar 1) (eDef 2 g_belows (eCons (eVar 0) (eCons (eVar 3) eNil)))) (eC (.int 2))))))
  (sRet (eC (.bl false)))
  sNext)
  (sRet (eOr (eCmp neD (eVar 0) (eC (.int 0))) (eCmp eqD (eOp ixD (eVar 2) (eC (.int 2))) (eC (.int 0))))))
def g_says_even : List D → Nat → Rs D := callF 4 F_says_even
/-! ### says_ring -/
def F_says_ring : SS :=
  (sSeq (sSet 3 (eOp ixD (eVar 1) (eC (.int 0))))
  (sSeq (sIf (tCm eqD (eVar 0) (eC (.int 0)))
  (sRet (eAnd (eCmp eqD (eVar 3) (eC (.int 0))) (eCa (L1 blsD fun bs => some (.bl (bs.all id))) (eCons (eLc [6] (iSeq (eVar 2)) (gN 6) tTrue (eCmp eqD (eOp ixD (eOp ixD (eVar 6) (eC (.int 2))) (eC (.int 0))) (eC (.int 1)))) eNil))))
  sNext)
  (sSeq (sOwn 4 (eLc [6] (iSeq (eVar 2)) (gN 6) (tCm eqD (eOp ixD (eOp ixD (eVar 6) (eC (.int 2))) (eC (.int 0))) (eOp subD (eVar 3) (eC (.int 1)))) (eVar 6)))
  (sSeq (sOwn 5 (eLc [6] (iSeq (eVar 2)) (gN 6) (tCm eqD (eOp ixD (eOp ixD (eVar 6) (eC (.int 2))) (eC (.int 0))) (eOp addD (eVar 3) (eC (.int 1)))) (eVar 6)))
  (sRet (eAnd (eCmp gtD (eVar 3) (eC (.int 0))) (eAnd (eCmp eqD (eCa lenD2 (eCons (eVarB 4) eNil)) (eC (.int 1))) (eCmp eqD (eOp addD (eCa lenD2 (eCons (eVarB 4) eNil)) (eCa lenD2 (eCons (eVarB 5) eNil))) (eCa lenD2 (eCons (eVar 2) eNil))))))))))
def g_says_ring : List D → Nat → Rs D := callF 7 F_says_ring
/-! ### says_word -/
def F_says_word : SS :=
  (sSeq (sAsg (eVar 1) (aSq (asCons (aN 2) (asCons (aN 3) (asCons (aN 4) (asCons (aN 5) asNil))))))
  (sSeq (sIf (tOrr (tNo (tOf (eDef 2 g_are_wholes (eCons (eVar 4) (eCons (eGd c_SIZES (eVar 0)) eNil))))) (tNo (tOf (eCa (L1 blsD fun bs => some (.bl (bs.all id))) (eCons (eLc [6] (iSeq (eVar 5)) (gN 6) tTrue (eDef 2 g_are_wholes (eCons (eOp ixD (eVar 6) (eC (.int 2))) (eCons (eGd c_SIZES (eVar 0)) eNil)))) eNil)))))
  (sRet (eC (.bl false)))
  sNext)
  (sSeq (sIf (tCm inD (eVar 0) (eTup (eCons (eC (.str "two")) (eCons (eC (.str "wells")) eNil))))
  (sRet (eIf (tCm eqD (eVar 0) (eC (.str "two"))) (eDef 2 g_says_two (eCons (eVar 3) (eCons (eVar 5) eNil))) (eDef 2 g_says_wells (eCons (eVar 3) (eCons (eVar 5) eNil)))))
  sNext)
  (sSeq (sIf (tCm inD (eVar 0) (eTup (eCons (eC (.str "leads")) (eCons (eC (.str "one")) eNil))))
  (sRet (eIf (tCm eqD (eVar 0) (eC (.str "leads"))) (eDef 4 g_says_leads (eCons (eVar 2) (eCons (eVar 3) (eCons (eVar 4) (eCons (eVar 5) eNil))))) (eDef 4 g_says_one (eCons (eVar 2) (eCons (eVar 3) (eCons (eVar 4) (eCons (eVar 5) eNil)))))))
  sNext)
  (sSeq (sIf (tCm inD (eVar 0) (eTup (eCons (eC (.str "joined")) (eCons (eC (.str "ring")) eNil))))
  (sRet (eIf (tCm eqD (eVar 0) (eC (.str "joined"))) (eDef 4 g_says_joined (eCons (eVar 2) (eCons (eVar 3) (eCons (eVar 4) (eCons (eVar 5) eNil))))) (eDef 3 g_says_ring (eCons (eVar 2) (eCons (eVar 4) (eCons (eVar 5) eNil))))))
  sNext)
  (sRet (eIf (tCm eqD (eVar 0) (eC (.str "count"))) (eDef 4 g_says_count (eCons (eVar 2) (eCons (eVar 3) (eCons (eVar 4) (eCons (eVar 5) eNil))))) (eDef 4 g_says_even (eCons (eVar 2) (eCons (eVar 3) (eCons (eVar 4) (eCons (eVar 5) eNil))))))))))))
def g_says_word : List D → Nat → Rs D := callF 7 F_says_word
/-! ### is_pair -/
def F_is_pair : SS :=
  (sRet (eAnd (eIsi "tuple" (eVar 0)) (eCmp eqD (eCa lenD2 (eCons (eVar 0) eNil)) (eC (.int 2)))))
def g_is_pair : List D → Nat → Rs D := callF 1 F_is_pair
/-! ### part_of -/
def F_part_of : SS :=
  (sSeq (sAsg (eVar 0) (aSq (asCons (aN 2) (asCons (aN 3) (asCons (aN 4) (asCons (aN 5) asNil))))))
  (sRet (eTup (eCons (eVar 2) (eCons (eVar 3) (eCons (eOp ixD (eVar 4) (eVar 1)) (eCons (eCa tupleD (eCons (eLc [6] (iSeq (eVar 5)) (gN 6) tTrue (eTup (eCons (eOp ixD (eVar 6) (eC (.int 0))) (eCons (eOp ixD (eVar 6) (eC (.int 1))) (eCons (eOp ixD (eOp ixD (eVar 6) (eC (.int 2))) (eVar 1)) eNil))))) eNil)) eNil)))))))
def g_part_of : List D → Nat → Rs D := callF 7 F_part_of
/-! ### says_of -/
def F_says_of (self : List D → Nat → Rs D) : SS :=
  (sSeq (sIf (tOf (eIsi "str" (eVar 0)))
  (sRet (eDef 2 g_says_word (eCons (eVar 0) (eCons (eVar 1) eNil))))
  sNext)
  (sSeq (sIf (tOrr (tNo (tOf (eDef 1 g_is_pair (eCons (eOp ixD (eVar 1) (eC (.int 2))) eNil)))) (tNo (tOf (eCa (L1 blsD fun bs => some (.bl (bs.all id))) (eCons (eLc [3] (iSeq (eOp ixD (eVar 1) (eC (.int 3)))) (gN 3) tTrue (eDef 1 g_is_pair (eCons (eOp ixD (eVar 3) (eC (.int 2))) eNil))) eNil)))))
  (sRet (eC (.bl false)))
  sNext)
  (sSeq (sIf (tCm eqD (eOp ixD (eVar 0) (eC (.int 0))) (eC (.str "both")))
  (sRet (eAnd (eDef 2 self (eCons (eOp ixD (eVar 0) (eC (.int 1))) (eCons (eDef 2 g_part_of (eCons (eVar 1) (eCons (eC (.int 0)) eNil))) eNil))) (eDef 2 self (eCons (eOp ixD (eVar 0) (eC (.int 2))) (eCons (eDef 2 g_part_of (eCons (eVar 1) (eCons (eC (.int 1)) eNil))) eNil)))))
  sNext)
  (sSeq (sSet 2 (eOp ixD (eOp ixD (eVar 1) (eC (.int 2))) (eC (.int 0))))
  (sSeq (sIf (tOrr (tNo (tOf (eDef 3 g_is_whole (eCons (eVar 2) (eCons (eC (.int 0)) (eCons (eC (.int 1)) eNil)))))) (tNo (tOf (eCa (L1 blsD fun bs => some (.bl (bs.all id))) (eCons (eLc [3] (iSeq (eOp ixD (eVar 1) (eC (.int 3)))) (gN 3) tTrue (eAnd (eDef 3 g_is_whole (eCons (eOp ixD (eOp ixD (eVar 3) (eC (.int 2))) (eC (.int 0))) (eCons (eC (.int 0)) (eCons (eC (.int 1)) eNil)))) (eCmp eqD (eOp ixD (eOp ixD (eVar 3) (eC (.int 2))) (eC (.int 0))) (eVar 2)))) eNil)))))
  (sRet (eC (.bl false)))
  sNext)
  (sRet (eDef 2 self (eCons (eOp ixD (eVar 0) (eOp addD (eC (.int 1)) (eVar 2))) (eCons (eDef 2 g_part_of (eCons (eVar 1) (eCons (eC (.int 1)) eNil))) eNil)))))))))
def gr_says_of : Nat → List D → Nat → Rs D
  | 0 => fun _ _ => .no
  | k + 1 => callF 4 (F_says_of (gr_says_of k))
def g_says_of : List D → Nat → Rs D := gr_says_of 4
/-! ### noes_of -/
def F_noes_of : SS :=
  (sRet (eLc [4] (iRng rng1 (eCons (eOp ixD (eVar 0) (eC (.int 0))) eNil)) (gN 4) (tNo (tOf (eDef 2 g_says_of (eCons (eVar 2) (eCons (eDef 4 g_view_of (eCons (eVar 0) (eCons (eVar 1) (eCons (eVar 3) (eCons (eVar 4) eNil))))) eNil))))) (eVar 4)))
def g_noes_of : List D → Nat → Rs D := callF 5 F_noes_of
/-! ### _law_same_truth -/
def F_law_same_truth : SS :=
  (sRet (eAnd (eIsi "bool" (eVar 0)) (eCmp eqD (eVar 0) (eVar 1))))
def g_law_same_truth : List D → Nat → Rs D := callF 2 F_law_same_truth
/-! ### M_make -/
def F_M_make : SS :=
  (sSeq (sAsg (eFld true (eVar 0)) (aSq (asCons (aN 1) (asCons (aN 2) (asCons (aN 3) asNil)))))
  (sSeq (sIf (tNo (tOf (eDef 3 g_holds_of (eCons (eVar 1) (eCons (eVar 2) (eCons (eFld false (eVar 0)) eNil))))))
  (sRaise "NotSo")
  sNext)
  (sDrop eNo)))
def g_M_make : List D → Nat → Rs D := callF 4 F_M_make
/-! ### M_turn -/
def F_M_turn : SS :=
  (sSeq (sAsg (eFld true (eVar 0)) (aSq (asCons (aN 3) (asCons (aN 4) (asCons (aN 5) asNil)))))
  (sSeq (sDrop (eDef 2 g_need_house (eCons (eVar 3) (eCons (eVar 1) eNil))))
  (sSeq (sIf (tNo (tOf (eDef 1 g_is_mark (eCons (eVar 2) eNil))))
  (sRaise "NoMarks")
  sNext)
  (sDrop eNo))))
def g_M_turn : List D → Nat → Rs D := callF 6 F_M_turn
/-! ### M_hand -/
def F_M_hand : SS :=
  (sSeq (sAsg (eFld true (eVar 0)) (aSq (asCons (aN 3) (asCons (aN 4) (asCons (aN 5) asNil)))))
  (sSeq (sDrop (eDef 2 g_need_house (eCons (eVar 3) (eCons (eVar 1) eNil))))
  (sDrop eNo)))
def g_M_hand : List D → Nat → Rs D := callF 6 F_M_hand
/-! ### M_with_streets -/
def F_M_with_streets : SS :=
  (sSeq (sSet 5 (eOp ixD (eFld true (eVar 0)) (eC (.int 0))))
  (sSeq (sDrop (eDef 2 g_need_house (eCons (eVar 5) (eCons (eVar 2) eNil))))
  (sSeq (sDrop (eDef 2 g_need_house (eCons (eVar 5) (eCons (eVar 3) eNil))))
  (sSeq (sSet 6 (eTup (eCons (eCa minD (eCons (eVar 2) (eCons (eVar 3) eNil))) (eCons (eCa maxD (eCons (eVar 2) (eCons (eVar 3) eNil))) eNil))))
  (sSeq (sIf (tCm neD (eCmp inD (eVar 6) (eOp ixD (eVar 5) (eC (.int 1)))) (eVar 4))
  (sRaise "NoStreet")
  sNext)
  (sSeq (sSet 7 (eIf (tOf (eVar 4)) (eLc [9] (iSeq (eOp ixD (eVar 5) (eC (.int 1)))) (gN 9) (tCm neD (eVar 9) (eVar 6)) (eVar 9)) (eOp addD (eCa listD2 (eCons (eOp ixD (eVar 5) (eC (.int 1))) eNil)) (eLst (eCons (eVar 6) eNil)))))
  (sSeq (sSet 8 (eTup (eCons (eOp ixD (eVar 5) (eC (.int 0))) (eCons (eCa tupleD (eCons (eCa sortedD2 (eCons (eVar 7) eNil)) eNil)) eNil))))
  (sSeq (sIf (tNo (tOf (eDef 1 g_good_plan (eCons (eVar 8) eNil))))
  (sRaise "NoStreet")
  sNext)
  (sDrop eNo)))))))))
def g_M_with_streets : List D → Nat → Rs D := callF 10 F_M_with_streets
/-! ### M_build -/
def F_M_build : SS :=
  (sDrop (eMet 4 g_M_with_streets (eVar 0) (eCons (eC (.str "build")) (eCons (eVar 1) (eCons (eVar 2) (eCons (eC (.bl false)) eNil))))))
def g_M_build : List D → Nat → Rs D := callF 3 F_M_build
/-! ### M_tear -/
def F_M_tear : SS :=
  (sDrop (eMet 4 g_M_with_streets (eVar 0) (eCons (eC (.str "tear")) (eCons (eVar 1) (eCons (eVar 2) (eCons (eC (.bl true)) eNil))))))
def g_M_tear : List D → Nat → Rs D := callF 3 F_M_tear
/-! ### _law_ask -/
def F_law_ask : SS :=
  (sTry (sSeq (sIf (tCm ltD (eVar 0) (eC (.int 2)))
  (sRet (eIf (tCm eqD (eVar 0) (eC (.int 0))) (eMet 2 g_M_build (eVar 1) (eCons (eVar 2) (eCons (eVar 3) eNil))) (eMet 2 g_M_tear (eVar 1) (eCons (eVar 2) (eCons (eVar 3) eNil)))))
  sNext)
  (sSeq (sIf (tCm ltD (eVar 0) (eC (.int 4)))
  (sRet (eIf (tCm eqD (eVar 0) (eC (.int 2))) (eMet 2 g_M_turn (eVar 1) (eCons (eVar 2) (eCons (eVar 3) eNil))) (eMet 2 g_M_hand (eVar 1) (eCons (eVar 2) (eCons (eVar 3) eNil)))))
  sNext)
  (sRet (eIf (tCm eqD (eVar 0) (eC (.int 4))) (eMet 0 g_M_make (eVar 1) eNil) eNo)))))
def g_law_ask : List D → Nat → Rs D := callF 5 F_law_ask
/-! ### Town -/
def F_Town : Ev → Nat → Rs (D × D) :=
  (initR (eDef 2 g_need_marks (eCons (eVar 1) (eCons (eVar 2) eNil))) (eDef 1 g_need_claim (eCons (eVar 3) eNil)) (eVar 3) (eTup (eCons (eVar 1) (eCons (eVar 2) (eCons (eOp mulD (eTup (eCons (eTup eNil) eNil)) (eOp ixD (eVar 1) (eC (.int 0)))) eNil)))))
def g_Town : NG := callN 4 F_Town
/-! ### T_call -/
def F_T_call : TF Fl :=
  (uSeq (uAt 0 (eV (eFld true (eVar 0))) gPushP)
  (uSeq (uAt 0 (eV (eVar 1)) gPushC)
  (uAt 0 (eV (eVar 2)) gSetH)))
def g_T_call : TG1 := callT 3 F_T_call
/-! ### T_make -/
def F_T_make : TF Fl :=
  (uSeq (uAsg (eV (eFld true (eVar 0))) (gT (gsCons (gN 1) (gsCons (gN 2) (gsCons (gN 3) gsNil)))))
  (uSeq (uIf (tV (tNo (tOf (eDef 3 g_holds_of (eCons (eVar 1) (eCons (eVar 2) (eCons (eFld false (eVar 0)) eNil)))))))
  (uL (sRaise "NotSo"))
  uNext)
  (uDrop (eTM 0 2 g_T_call (eCons (eC (.str "make")) (eCons (eTup (eCons (eVar 1) (eCons (eVar 2) (eCons (eCa tupleD (eCons (eDef 3 g_letters_of (eCons (eVar 1) (eCons (eVar 2) (eCons (eFld false (eVar 0)) eNil)))) eNil)) eNil)))) eNil))))))
def g_T_make : TG1 := callT 4 F_T_make
/-! ### T_back -/
def F_T_back : TF Fl :=
  (uSeq (uIf (xPastNil 0)
  (uL (sRaise "Nothing"))
  uNext)
  (uSeq (uAt 0 (xPopP 0) gSetH)
  (uRet (xPopC 0))))
def g_T_back : TG1 := callT 1 F_T_back
/-! ### T_turn -/
def F_T_turn : TF Fl :=
  (uSeq (uAsg (eV (eFld true (eVar 0))) (gT (gsCons (gN 3) (gsCons (gN 4) (gsCons (gN 5) gsNil)))))
  (uSeq (uL (sDrop (eDef 2 g_need_house (eCons (eVar 3) (eCons (eVar 1) eNil)))))
  (uSeq (uL (sIf (tNo (tOf (eDef 1 g_is_mark (eCons (eVar 2) eNil))))
  (sRaise "NoMarks")
  sNext))
  (uDrop (eTM 0 2 g_T_call (eCons (eC (.str "turn")) (eCons (eTup (eCons (eVar 3) (eCons (eOp addD (eOp addD (eSl (eVar 4) oNone (oSome (eVar 1))) (eTup (eCons (eVar 2) eNil))) (eSl (eVar 4) (oSome (eOp addD (eVar 1) (eC (.int 1)))) oNone)) (eCons (eVar 5) eNil)))) eNil)))))))
def g_T_turn : TG1 := callT 6 F_T_turn
/-! ### T_hand -/
def F_T_hand : TF Fl :=
  (uSeq (uAsg (eV (eFld true (eVar 0))) (gT (gsCons (gN 3) (gsCons (gN 4) (gsCons (gN 5) gsNil)))))
  (uSeq (uL (sDrop (eDef 2 g_need_house (eCons (eVar 3) (eCons (eVar 1) eNil)))))
  (uDrop (eTM 0 2 g_T_call (eCons (eC (.str "hand")) (eCons (eTup (eCons (eVar 3) (eCons (eVar 4) (eCons (eOp addD (eOp addD (eSl (eVar 5) oNone (oSome (eVar 1))) (eTup (eCons (eVar 2) eNil))) (eSl (eVar 5) (oSome (eOp addD (eVar 1) (eC (.int 1)))) oNone)) eNil)))) eNil))))))
def g_T_hand : TG1 := callT 6 F_T_hand
/-! ### T_with_streets -/
def F_T_with_streets : TF Fl :=
  (uSeq (uSet 5 (eV (eOp ixD (eFld true (eVar 0)) (eC (.int 0)))))
  (uSeq (uL (sDrop (eDef 2 g_need_house (eCons (eVar 5) (eCons (eVar 2) eNil)))))
  (uSeq (uL (sDrop (eDef 2 g_need_house (eCons (eVar 5) (eCons (eVar 3) eNil)))))
  (uSeq (uL (sSet 6 (eTup (eCons (eCa minD (eCons (eVar 2) (eCons (eVar 3) eNil))) (eCons (eCa maxD (eCons (eVar 2) (eCons (eVar 3) eNil))) eNil)))))
  (uSeq (uL (sIf (tCm neD (eCmp inD (eVar 6) (eOp ixD (eVar 5) (eC (.int 1)))) (eVar 4))
  (sRaise "NoStreet")
  sNext))
  (uSeq (uL (sSet 7 (eIf (tOf (eVar 4)) (eLc [9] (iSeq (eOp ixD (eVar 5) (eC (.int 1)))) (gN 9) (tCm neD (eVar 9) (eVar 6)) (eVar 9)) (eOp addD (eCa listD2 (eCons (eOp ixD (eVar 5) (eC (.int 1))) eNil)) (eLst (eCons (eVar 6) eNil))))))
  (uSeq (uL (sSet 8 (eTup (eCons (eOp ixD (eVar 5) (eC (.int 0))) (eCons (eCa tupleD (eCons (eCa sortedD2 (eCons (eVar 7) eNil)) eNil)) eNil)))))
  (uSeq (uL (sIf (tNo (tOf (eDef 1 g_good_plan (eCons (eVar 8) eNil))))
  (sRaise "NoStreet")
  sNext))
  (uDrop (eTM 0 2 g_T_call (eCons (eVar 1) (eCons (eOp addD (eTup (eCons (eVar 8) eNil)) (eSl (eFld true (eVar 0)) (oSome (eC (.int 1))) oNone)) eNil))))))))))))
def g_T_with_streets : TG1 := callT 10 F_T_with_streets
/-! ### T_build -/
def F_T_build : TF Fl :=
  (uDrop (eTM 0 4 g_T_with_streets (eCons (eC (.str "build")) (eCons (eVar 1) (eCons (eVar 2) (eCons (eC (.bl false)) eNil))))))
def g_T_build : TG1 := callT 3 F_T_build
/-! ### T_tear -/
def F_T_tear : TF Fl :=
  (uDrop (eTM 0 4 g_T_with_streets (eCons (eC (.str "tear")) (eCons (eVar 1) (eCons (eVar 2) (eCons (eC (.bl true)) eNil))))))
def g_T_tear : TG1 := callT 3 F_T_tear
/-! ### T_law_ask -/
def F_T_law_ask : TF Fl :=
  (uTry (uSeq (uIf (tV (tCm ltD (eVar 0) (eC (.int 2))))
  (uRet (xIf (tV (tCm eqD (eVar 0) (eC (.int 0)))) (eTM 1 2 g_T_build (eCons (eVar 2) (eCons (eVar 3) eNil))) (eTM 1 2 g_T_tear (eCons (eVar 2) (eCons (eVar 3) eNil)))))
  uNext)
  (uSeq (uIf (tV (tCm ltD (eVar 0) (eC (.int 4))))
  (uRet (xIf (tV (tCm eqD (eVar 0) (eC (.int 2)))) (eTM 1 2 g_T_turn (eCons (eVar 2) (eCons (eVar 3) eNil))) (eTM 1 2 g_T_hand (eCons (eVar 2) (eCons (eVar 3) eNil)))))
  uNext)
  (uRet (xIf (tV (tCm eqD (eVar 0) (eC (.int 4)))) (eTM 1 0 g_T_make eNil) (eTM 1 0 g_T_back eNil))))))
def g_T_law_ask : TG1 := callT1 5 F_T_law_ask
/-! ### M___eq__ -/
def F_M___eq__ : SS :=
  (sRet (eAnd (eIsT (eVar 1)) (eAnd (eCmp eqD (eFld false (eVar 0)) (eFld false (eVar 1))) (eCmp eqD (eFld true (eVar 0)) (eFld true (eVar 1))))))
def g_M___eq__ : List D → Nat → Rs D := callF 2 F_M___eq__
/-! ### M___str__ -/
def F_M___str__ : SS :=
  (sRet (eJoin (eC (.str " ")) (eLc [1] (iSeq (eOp ixD (eFld true (eVar 0)) (eC (.int 1)))) (gN 1) tTrue (eCa strD (eCons (eVar 1) eNil)))))
def g_M___str__ : List D → Nat → Rs D := callF 2 F_M___str__
/-! ### M_noes -/
def F_M_noes : SS :=
  (sRet (eDef 4 g_noes_of (eCons (eOp ixD (eFld true (eVar 0)) (eC (.int 0))) (eCons (eOp ixD (eFld true (eVar 0)) (eC (.int 1))) (eCons (eFld false (eVar 0)) (eCons (eOp ixD (eFld true (eVar 0)) (eC (.int 2))) eNil))))))
def g_M_noes : List D → Nat → Rs D := callF 1 F_M_noes
/-! ### M___len__ -/
def F_M___len__ : SS :=
  (sRet (eCa lenD2 (eCons (eMet 0 g_M_noes (eVar 0) eNil) eNil)))
def g_M___len__ : List D → Nat → Rs D := callF 1 F_M___len__
/-! ### M_plan -/
def F_M_plan : SS :=
  (sRet (eOp ixD (eFld true (eVar 0)) (eC (.int 0))))
def g_M_plan : List D → Nat → Rs D := callF 1 F_M_plan
/-! ### law -/
def F_law_0 : TF Fl :=
  (uL (sPar [4, 5] [false, false] (eCons (eTup (eCons (eC (.int 4)) (eCons (eTup (eCons (eTup (eCons (eC (.int 0)) (eCons (eC (.int 1)) eNil))) (eCons (eTup (eCons (eC (.int 0)) (eCons (eC (.int 2)) eNil))) (eCons (eTup (eCons (eC (.int 1)) (eCons (eC (.int 2)) eNil))) (eCons (eTup (eCons (eC (.int 2)) (eCons (eC (.int 3)) eNil))) eNil))))) eNil))) (eCons (eTup (eCons (eC (.int 0)) (eCons (eC (.int 1)) (eCons (eC (.int 1)) (eCons (eC (.int 0)) eNil))))) eNil))))
def F_law_1 : TF Fl :=
  (uNew 2 3 g_Town (eCons (eVar 4) (eCons (eVar 5) (eCons (eC (.str "one")) eNil))))
def F_law_2 : TF Fl :=
  (uIf (xOrr (xCm neD (eTM1 2 3 g_T_law_ask (eC (.int 5)) (eCons (eC .non) (eCons (eC .non) eNil))) (eV (eTup (eCons (eC (.str "refused")) (eCons (eC (.int 12)) eNil))))) (xCm neD (eTM1 2 3 g_T_law_ask (eC (.int 4)) (eCons (eC .non) (eCons (eC .non) eNil))) (eV (eTup (eCons (eC (.str "refused")) (eCons (eC (.int 3)) eNil))))))
  (uL (sRet (eC (.bl false))))
  uNext)
def F_law_3 : TF Fl :=
  (uFor (iSeq (eLst (eCons (eC .non) (eCons (eNeg (eC (.int 1))) (eCons (eC (.int 4)) (eCons (eC (.str "0")) (eCons (eC (.bl true)) (eCons (eLst eNil) eNil)))))))) (gN 3)
  (uSeq (uIf (tV (tCm neD (eLc [8] (iRng rng1 (eCons (eC (.int 4)) eNil)) (gN 8) tTrue (eDef 4 g_law_ask (eCons (eVar 8) (eCons (eVar 2) (eCons (eVar 3) (eCons (eC (.int 0)) eNil)))))) (eOp mulD (eLst (eCons (eTup (eCons (eC (.str "refused")) (eCons (eC (.int 5)) eNil))) eNil)) (eC (.int 4)))))
  (uL (sRet (eC (.bl false))))
  uNext)
  (uIf (tV (tCm neD (eLc [8] (iRng rng1 (eCons (eC (.int 2)) eNil)) (gN 8) tTrue (eDef 4 g_law_ask (eCons (eVar 8) (eCons (eVar 2) (eCons (eC (.int 0)) (eCons (eVar 3) eNil)))))) (eOp mulD (eLst (eCons (eTup (eCons (eC (.str "refused")) (eCons (eC (.int 5)) eNil))) eNil)) (eC (.int 2)))))
  (uL (sRet (eC (.bl false))))
  uNext)))
def F_law_4 : TF Fl :=
  (uFor (iSeq (eLst (eCons (eC .non) (eCons (eNeg (eC (.int 2))) (eCons (eC (.int 10)) (eCons (eC (.str "0")) (eCons (eC (.bl true)) eNil))))))) (gN 3)
  (uIf (xCm neD (eTM1 2 3 g_T_law_ask (eC (.int 2)) (eCons (eC (.int 0)) (eCons (eVar 3) eNil))) (eV (eTup (eCons (eC (.str "refused")) (eCons (eC (.int 1)) eNil)))))
  (uL (sRet (eC (.bl false))))
  uNext))
def F_law_5 : TF Fl :=
  (uFor (iSeq (eLst (eCons (eTup (eCons (eC (.int 0)) (eCons (eC (.int 1)) eNil))) (eCons (eTup (eCons (eC (.int 1)) (eCons (eC (.int 0)) eNil))) (eCons (eTup (eCons (eC (.int 2)) (eCons (eC (.int 3)) eNil))) (eCons (eTup (eCons (eC (.int 3)) (eCons (eC (.int 2)) eNil))) (eCons (eTup (eCons (eC (.int 1)) (eCons (eC (.int 1)) eNil))) eNil))))))) (gT (gsCons (gN 6) (gsCons (gN 7) gsNil)))
  (uIf (xCm neD (eTM1 2 3 g_T_law_ask (eC (.int 0)) (eCons (eVar 6) (eCons (eVar 7) eNil))) (eV (eTup (eCons (eC (.str "refused")) (eCons (eC (.int 11)) eNil)))))
  (uL (sRet (eC (.bl false))))
  uNext))
def F_law_6 : TF Fl :=
  (uFor (iSeq (eLst (eCons (eTup (eCons (eC (.int 0)) (eCons (eC (.int 3)) eNil))) (eCons (eTup (eCons (eC (.int 3)) (eCons (eC (.int 1)) eNil))) (eCons (eTup (eCons (eC (.int 2)) (eCons (eC (.int 3)) eNil))) (eCons (eTup (eCons (eC (.int 3)) (eCons (eC (.int 2)) eNil))) (eCons (eTup (eCons (eC (.int 2)) (eCons (eC (.int 2)) eNil))) eNil))))))) (gT (gsCons (gN 6) (gsCons (gN 7) gsNil)))
  (uIf (xCm neD (eTM1 2 3 g_T_law_ask (eC (.int 1)) (eCons (eVar 6) (eCons (eVar 7) eNil))) (eV (eTup (eCons (eC (.str "refused")) (eCons (eC (.int 11)) eNil)))))
  (uL (sRet (eC (.bl false))))
  uNext))
def F_law_7 : TF Fl :=
  (uIf (tV (tOrr (tNo (tOf (eDef 2 g_law_same_truth (eCons (eEqR g_M___eq__ (eVar 2) (eNew 3 g_Town (eCons (eVar 4) (eCons (eVar 5) (eCons (eC (.str "one")) eNil))))) (eCons (eC (.bl true)) eNil))))) (tNo (tOf (eDef 2 g_law_same_truth (eCons (eEqR g_M___eq__ (eVar 2) (eStrR g_M___str__ (eVar 2))) (eCons (eC (.bl false)) eNil)))))))
  (uL (sRet (eC (.bl false))))
  uNext)
def F_law_8 : TF Fl :=
  (uIf (tV (tOrr (tNo (tOf (eDef 2 g_law_same_truth (eCons (eEqR g_M___eq__ (eVar 2) (eNew 3 g_Town (eCons (eVar 4) (eCons (eVar 5) (eCons (eC (.str "two")) eNil))))) (eCons (eC (.bl false)) eNil))))) (tCm neD (eLenR g_M___len__ (eVar 2)) (eC (.int 4)))))
  (uL (sRet (eC (.bl false))))
  uNext)
def F_law_9 : TF Fl :=
  (uIf (xOrr (xCm isnD (eTM 2 2 g_T_tear (eCons (eC (.int 2)) (eCons (eC (.int 1)) eNil))) (eV (eC .non))) (xCm isnD (eTM 2 2 g_T_build (eCons (eC (.int 3)) (eCons (eC (.int 0)) eNil))) (eV (eC .non))))
  (uL (sRet (eC (.bl false))))
  uNext)
def F_law_10 : TF Fl :=
  (uIf (xOrr (tV (tCm neD (eMet 0 g_M_plan (eVar 2) eNil) (eTup (eCons (eC (.int 4)) (eCons (eTup (eCons (eTup (eCons (eC (.int 0)) (eCons (eC (.int 1)) eNil))) (eCons (eTup (eCons (eC (.int 0)) (eCons (eC (.int 2)) eNil))) (eCons (eTup (eCons (eC (.int 0)) (eCons (eC (.int 3)) eNil))) (eCons (eTup (eCons (eC (.int 2)) (eCons (eC (.int 3)) eNil))) eNil))))) eNil))))) (xCm neD (eTM1 2 3 g_T_law_ask (eC (.int 1)) (eCons (eC (.int 0)) (eCons (eC (.int 1)) eNil))) (eV (eTup (eCons (eC (.str "refused")) (eCons (eC (.int 11)) eNil))))))
  (uL (sRet (eC (.bl false))))
  uNext)
def F_law_11 : TF Fl :=
  (uIf (xOrr (xCm neD (eTM 2 0 g_T_back eNil) (eV (eC (.str "build")))) (xCm neD (eTM 2 0 g_T_back eNil) (eV (eC (.str "tear")))))
  (uL (sRet (eC (.bl false))))
  uNext)
def F_law_12 : TF Fl :=
  (uRet (eV (eDef 2 g_law_same_truth (eCons (eEqR g_M___eq__ (eVar 2) (eNew 3 g_Town (eCons (eVar 4) (eCons (eVar 5) (eCons (eC (.str "one")) eNil))))) (eCons (eC (.bl true)) eNil)))))
def F_law : TF Fl :=
  (uSeq F_law_0
  (uSeq F_law_1
  (uSeq F_law_2
  (uSeq F_law_3
  (uSeq F_law_4
  (uSeq F_law_5
  (uSeq F_law_6
  (uSeq F_law_7
  (uSeq F_law_8
  (uSeq F_law_9
  (uSeq F_law_10
  (uSeq F_law_11
  F_law_12))))))))))))
/-! ### M_holds -/
def F_M_holds : SS :=
  (sRet (eDef 3 g_holds_of (eCons (eOp ixD (eFld true (eVar 0)) (eC (.int 0))) (eCons (eOp ixD (eFld true (eVar 0)) (eC (.int 1))) (eCons (eFld false (eVar 0)) eNil)))))
def g_M_holds : List D → Nat → Rs D := callF 1 F_M_holds
/-! ### M_marks -/
def F_M_marks : SS :=
  (sRet (eOp ixD (eFld true (eVar 0)) (eC (.int 1))))
def g_M_marks : List D → Nat → Rs D := callF 1 F_M_marks
/-! ### M_letters -/
def F_M_letters : SS :=
  (sRet (eOp ixD (eFld true (eVar 0)) (eC (.int 2))))
def g_M_letters : List D → Nat → Rs D := callF 1 F_M_letters

end DL

set_option Elab.async false
set_option linter.all false
set_option maxRecDepth 100000
set_option maxHeartbeats 4000000
namespace DL
open PySem PySem.Spec PyProof.Rows L2
theorem seq_ok {F G : TF Fl} {ρ ρ1 : Ev} {n n1 : Nat} {ts ts1 : List Tn} {P : Xr Fl × List Tn → Nat → Prop} (h : F ρ n ts = .ok (.v (.nx ρ1), ts1) n1) (q : (G ρ1 n1 ts1).Sat0 P) : (uSeq F G ρ n ts).Sat0 P := by
  unfold uSeq
  rw [h]
  exact q
theorem seq_amb {F G : TF Fl} {ρ : Ev} {ρ1 : Nat → Ev} {n n1 : Nat} {ts ts1 : List Tn} {P : Xr Fl × List Tn → Nat → Prop} (h : F ρ n ts = .amb fun a => .ok (.v (.nx (ρ1 a)), ts1) n1) (q : ∀ a, (G (ρ1 a) n1 ts1).Sat0 P) : (uSeq F G ρ n ts).Sat0 P := by
  unfold uSeq
  rw [h]
  exact q
def ti (l : List Int) : D := .tup (l.map D.int)
def plA : D := .tup [.int 4, .tup [ti [0, 1], ti [0, 2], ti [1, 2], ti [2, 3]]]
def plB : D := .tup [.int 4, .tup [ti [0, 1], ti [0, 2], ti [2, 3]]]
def plC : D := .tup [.int 4, .tup [ti [0, 1], ti [0, 2], ti [0, 3], ti [2, 3]]]
def mkA : D := ti [0, 1, 1, 0]
def noL : D := .tup [.tup [], .tup [], .tup [], .tup []]
def hwA : D := .tup [plA, mkA, noL]
def hwB : D := .tup [plB, mkA, noL]
def hwC : D := .tup [plC, mkA, noL]
def tnA : Tn := ⟨.str "one", hwA, [], []⟩
def tnC : Tn := ⟨.str "one", hwC, [hwA, hwB], [.str "tear", .str "build"]⟩
def en0 (ns : List Int) : Ev := [.sh (.scr ns), .sh .cnt, .no, .no, .no, .no, .no, .no, .no]
def en1 (ns : List Int) : Ev := [.sh (.scr ns), .sh .cnt, .no, .no, .sh plA, .sh mkA, .no, .no, .no]
def en2 (ns : List Int) (a : Nat) (o p q : Sl) : Ev := [.sh (.scr ns), .sh .cnt, .tw 0 a, o, .sh plA, .sh mkA, p, q, .no]
theorem l0 (ns : List Int) : F_law_0 (en0 ns) 0 [] = .ok (.v (.nx (en1 ns)), []) 0 := by kernel_rfl
theorem l1 (ns : List Int) : F_law_1 (en1 ns) 0 [] = .amb fun a => .ok (.v (.nx (en2 ns a .no .no .no)), [tnA]) 0 := by kernel_rfl
theorem l2 (ns : List Int) (a : Nat) : F_law_2 (en2 ns a .no .no .no) 0 [tnA] = .ok (.v (.nx (en2 ns a .no .no .no)), [tnA]) 0 := by kernel_rfl
theorem l3 (ns : List Int) (a : Nat) : F_law_3 (en2 ns a .no .no .no) 0 [tnA] = .ok (.v (.nx (en2 ns a (.sh (.lst [])) .no .no)), [tnA]) 0 := by kernel_rfl
theorem l4 (ns : List Int) (a : Nat) : F_law_4 (en2 ns a (.sh (.lst [])) .no .no) 0 [tnA] = .ok (.v (.nx (en2 ns a (.sh (.bl true)) .no .no)), [tnA]) 0 := by kernel_rfl
theorem l5 (ns : List Int) (a : Nat) : F_law_5 (en2 ns a (.sh (.bl true)) .no .no) 0 [tnA] = .ok (.v (.nx (en2 ns a (.sh (.bl true)) (.sh (.int 1)) (.sh (.int 1)))), [tnA]) 0 := by kernel_rfl
theorem l6 (ns : List Int) (a : Nat) : F_law_6 (en2 ns a (.sh (.bl true)) (.sh (.int 1)) (.sh (.int 1))) 0 [tnA] = .ok (.v (.nx (en2 ns a (.sh (.bl true)) (.sh (.int 2)) (.sh (.int 2)))), [tnA]) 0 := by kernel_rfl
theorem l7 (ns : List Int) (a : Nat) : F_law_7 (en2 ns a (.sh (.bl true)) (.sh (.int 2)) (.sh (.int 2))) 0 [tnA] = .amb fun _ => .ok (.v (.nx (en2 ns a (.sh (.bl true)) (.sh (.int 2)) (.sh (.int 2)))), [tnA]) 0 := by kernel_rfl
theorem l8 (ns : List Int) (a : Nat) : F_law_8 (en2 ns a (.sh (.bl true)) (.sh (.int 2)) (.sh (.int 2))) 0 [tnA] = .amb fun _ => .ok (.v (.nx (en2 ns a (.sh (.bl true)) (.sh (.int 2)) (.sh (.int 2)))), [tnA]) 0 := by kernel_rfl
theorem l9 (ns : List Int) (a : Nat) : F_law_9 (en2 ns a (.sh (.bl true)) (.sh (.int 2)) (.sh (.int 2))) 0 [tnA] = .ok (.v (.nx (en2 ns a (.sh (.bl true)) (.sh (.int 2)) (.sh (.int 2)))), [tnC]) 0 := by kernel_rfl
theorem l10 (ns : List Int) (a : Nat) : F_law_10 (en2 ns a (.sh (.bl true)) (.sh (.int 2)) (.sh (.int 2))) 0 [tnC] = .ok (.v (.nx (en2 ns a (.sh (.bl true)) (.sh (.int 2)) (.sh (.int 2)))), [tnC]) 0 := by kernel_rfl
theorem l11 (ns : List Int) (a : Nat) : F_law_11 (en2 ns a (.sh (.bl true)) (.sh (.int 2)) (.sh (.int 2))) 0 [tnC] = .ok (.v (.nx (en2 ns a (.sh (.bl true)) (.sh (.int 2)) (.sh (.int 2)))), [tnA]) 0 := by kernel_rfl
theorem l12 (ns : List Int) (a : Nat) : F_law_12 (en2 ns a (.sh (.bl true)) (.sh (.int 2)) (.sh (.int 2))) 0 [tnA] = .amb fun _ => .ok (.v (.rt (.bl true)), [tnA]) 0 := by kernel_rfl
end DL

set_option Elab.async false
set_option linter.all false
set_option maxRecDepth 100000
set_option maxHeartbeats 400000
namespace DL
open PySem PySem.Spec PyProof.Rows L2
theorem end_amb {r : TR Fl} {ts : List Tn} {n : Nat} (h : r = .amb fun _ => .ok (.v (.rt (.bl true)), ts) n) : r.Sat0 fun r _ => r.1 = .v (.rt (.bl true)) := by
  subst h
  intro _
  rfl
theorem run_of (F0 F1 F2 F3 F4 F5 F6 F7 F8 F9 F10 F11 F12 : TF Fl) (ns : List Int)
  (l0 : F0 (en0 ns) 0 [] = .ok (.v (.nx (en1 ns)), []) 0) (l1 : F1 (en1 ns) 0 [] = .amb fun a => .ok (.v (.nx (en2 ns a .no .no .no)), [tnA]) 0)
  (l2 : ∀ a : Nat, F2 (en2 ns a .no .no .no) 0 [tnA] = .ok (.v (.nx (en2 ns a .no .no .no)), [tnA]) 0)
  (l3 : ∀ a : Nat, F3 (en2 ns a .no .no .no) 0 [tnA] = .ok (.v (.nx (en2 ns a (.sh (.lst [])) .no .no)), [tnA]) 0)
  (l4 : ∀ a : Nat, F4 (en2 ns a (.sh (.lst [])) .no .no) 0 [tnA] = .ok (.v (.nx (en2 ns a (.sh (.bl true)) .no .no)), [tnA]) 0)
  (l5 : ∀ a : Nat, F5 (en2 ns a (.sh (.bl true)) .no .no) 0 [tnA] = .ok (.v (.nx (en2 ns a (.sh (.bl true)) (.sh (.int 1)) (.sh (.int 1)))), [tnA]) 0)
  (l6 : ∀ a : Nat, F6 (en2 ns a (.sh (.bl true)) (.sh (.int 1)) (.sh (.int 1))) 0 [tnA] = .ok (.v (.nx (en2 ns a (.sh (.bl true)) (.sh (.int 2)) (.sh (.int 2)))), [tnA]) 0)
  (l7 : ∀ a : Nat, F7 (en2 ns a (.sh (.bl true)) (.sh (.int 2)) (.sh (.int 2))) 0 [tnA] = .amb fun _ => .ok (.v (.nx (en2 ns a (.sh (.bl true)) (.sh (.int 2)) (.sh (.int 2)))), [tnA]) 0)
  (l8 : ∀ a : Nat, F8 (en2 ns a (.sh (.bl true)) (.sh (.int 2)) (.sh (.int 2))) 0 [tnA] = .amb fun _ => .ok (.v (.nx (en2 ns a (.sh (.bl true)) (.sh (.int 2)) (.sh (.int 2)))), [tnA]) 0)
  (l9 : ∀ a : Nat, F9 (en2 ns a (.sh (.bl true)) (.sh (.int 2)) (.sh (.int 2))) 0 [tnA] = .ok (.v (.nx (en2 ns a (.sh (.bl true)) (.sh (.int 2)) (.sh (.int 2)))), [tnC]) 0)
  (l10 : ∀ a : Nat, F10 (en2 ns a (.sh (.bl true)) (.sh (.int 2)) (.sh (.int 2))) 0 [tnC] = .ok (.v (.nx (en2 ns a (.sh (.bl true)) (.sh (.int 2)) (.sh (.int 2)))), [tnC]) 0)
  (l11 : ∀ a : Nat, F11 (en2 ns a (.sh (.bl true)) (.sh (.int 2)) (.sh (.int 2))) 0 [tnC] = .ok (.v (.nx (en2 ns a (.sh (.bl true)) (.sh (.int 2)) (.sh (.int 2)))), [tnA]) 0)
  (l12 : ∀ a : Nat, F12 (en2 ns a (.sh (.bl true)) (.sh (.int 2)) (.sh (.int 2))) 0 [tnA] = .amb fun _ => .ok (.v (.rt (.bl true)), [tnA]) 0) :
  (uSeq F0 (uSeq F1 (uSeq F2 (uSeq F3 (uSeq F4 (uSeq F5 (uSeq F6 (uSeq F7 (uSeq F8 (uSeq F9 (uSeq F10 (uSeq F11 F12))))))))))) (en0 ns) 0 []).Sat0 fun r _ => r.1 = .v (.rt (.bl true)) := by
  refine seq_ok l0 ?_
  refine seq_amb l1 fun a => ?_
  refine seq_ok (l2 a) ?_
  refine seq_ok (l3 a) ?_
  refine seq_ok (l4 a) ?_
  refine seq_ok (l5 a) ?_
  refine seq_ok (l6 a) ?_
  refine seq_amb (l7 a) fun _ => ?_
  refine seq_amb (l8 a) fun _ => ?_
  refine seq_ok (l9 a) ?_
  refine seq_ok (l10 a) ?_
  refine seq_ok (l11 a) ?_
  exact end_amb (l12 a)
theorem law_run (ns : List Int) (hl : ns.length ≤ 63) : lawRunT 9 F_law ns :=
  ⟨run_of F_law_0 F_law_1 F_law_2 F_law_3 F_law_4 F_law_5 F_law_6 F_law_7 F_law_8 F_law_9 F_law_10 F_law_11 F_law_12 ns (l0 ns) (l1 ns) (l2 ns) (l3 ns) (l4 ns) (l5 ns) (l6 ns) (l7 ns) (l8 ns) (l9 ns) (l10 ns) (l11 ns) (l12 ns)⟩
end DL

set_option Elab.async false
set_option linter.all false
set_option maxRecDepth 100000
set_option maxHeartbeats 4000000
namespace DL
open PySem PySem.Spec PyProof.Rows L2
variable {P : Program} {w : World} {K : PySem.W.Frag} {mg : Str → Option Value} {base : Heap}
section
def topS (i : Nat) : Stmt := PySem.Challenge.pw_doorchecks_k17_towns_refused.main.body.getD i (.Pass ⟨0, 0, 0, 0⟩)
abbrev s_wall : Stmt := topS 0
theorem sc_wall : FnScope ["k"] ["k"] (defScope s_wall) := ⟨rfl, rfl, rfl, by decide +kernel, rfl, by decide +kernel, by decide +kernel⟩
abbrev s_is_whole : Stmt := topS 18
theorem sc_is_whole : FnScope ["thing", "low", "high"] ["thing", "low", "high"] (defScope s_is_whole) := ⟨rfl, rfl, rfl, by decide +kernel, rfl, by decide +kernel, by decide +kernel⟩
abbrev s_is_any_whole : Stmt := topS 19
theorem sc_is_any_whole : FnScope ["thing"] ["thing"] (defScope s_is_any_whole) := ⟨rfl, rfl, rfl, by decide +kernel, rfl, by decide +kernel, by decide +kernel⟩
abbrev s_is_street : Stmt := topS 20
theorem sc_is_street : FnScope ["houses", "thing", "one"] ["houses", "thing"] (defScope s_is_street) := ⟨rfl, rfl, rfl, by decide +kernel, rfl, by decide +kernel, by decide +kernel⟩
abbrev s_doors_of : Stmt := topS 21
theorem sc_doors_of : FnScope ["plan", "house", "made", "one", "other"] ["plan", "house"] (defScope s_doors_of) := ⟨rfl, rfl, rfl, by decide +kernel, rfl, by decide +kernel, by decide +kernel⟩
abbrev s_ways_from : Stmt := topS 22
theorem sc_ways_from : FnScope ["plan", "house", "some", "found", "level", "step", "later", "here", "door"] ["plan", "house", "some"] (defScope s_ways_from) := ⟨rfl, rfl, rfl, by decide +kernel, rfl, by decide +kernel, by decide +kernel⟩
abbrev s_all_ways : Stmt := topS 23
theorem sc_all_ways : FnScope ["plan", "house"] ["plan", "house"] (defScope s_all_ways) := ⟨rfl, rfl, rfl, by decide +kernel, rfl, by decide +kernel, by decide +kernel⟩
abbrev s_good_plan : Stmt := topS 24
theorem sc_good_plan : FnScope ["thing", "one", "other"] ["thing"] (defScope s_good_plan) := ⟨rfl, rfl, rfl, by decide +kernel, rfl, by decide +kernel, by decide +kernel⟩
abbrev s_need_plan : Stmt := topS 25
theorem sc_need_plan : FnScope ["plan"] ["plan"] (defScope s_need_plan) := ⟨rfl, rfl, rfl, by decide +kernel, rfl, by decide +kernel, by decide +kernel⟩
abbrev s_need_house : Stmt := topS 26
theorem sc_need_house : FnScope ["plan", "house"] ["plan", "house"] (defScope s_need_house) := ⟨rfl, rfl, rfl, by decide +kernel, rfl, by decide +kernel, by decide +kernel⟩
abbrev s_is_mark : Stmt := topS 33
theorem sc_is_mark : FnScope ["thing"] ["thing"] (defScope s_is_mark) := ⟨rfl, rfl, rfl, by decide +kernel, rfl, by decide +kernel, by decide +kernel⟩
abbrev s_good_marks : Stmt := topS 34
theorem sc_good_marks : FnScope ["plan", "thing", "one"] ["plan", "thing"] (defScope s_good_marks) := ⟨rfl, rfl, rfl, by decide +kernel, rfl, by decide +kernel, by decide +kernel⟩
abbrev s_need_marks : Stmt := topS 35
theorem sc_need_marks : FnScope ["plan", "marks"] ["plan", "marks"] (defScope s_need_marks) := ⟨rfl, rfl, rfl, by decide +kernel, rfl, by decide +kernel, by decide +kernel⟩
abbrev s_words_in : Stmt := topS 36
theorem sc_words_in : FnScope ["thing", "left", "one", "other"] ["thing", "left"] (defScope s_words_in) := ⟨rfl, rfl, rfl, by decide +kernel, rfl, by decide +kernel, by decide +kernel⟩
abbrev s_good_claim : Stmt := topS 37
theorem sc_good_claim : FnScope ["thing", "many"] ["thing"] (defScope s_good_claim) := ⟨rfl, rfl, rfl, by decide +kernel, rfl, by decide +kernel, by decide +kernel⟩
abbrev s_need_claim : Stmt := topS 38
theorem sc_need_claim : FnScope ["claim"] ["claim"] (defScope s_need_claim) := ⟨rfl, rfl, rfl, by decide +kernel, rfl, by decide +kernel, by decide +kernel⟩
abbrev s_are_bits : Stmt := topS 39
theorem sc_are_bits : FnScope ["marks", "one"] ["marks"] (defScope s_are_bits) := ⟨rfl, rfl, rfl, by decide +kernel, rfl, by decide +kernel, by decide +kernel⟩
abbrev s_steps_by : Stmt := topS 40
theorem sc_steps_by : FnScope ["marks", "house", "here", "steps"] ["marks", "house"] (defScope s_steps_by) := ⟨rfl, rfl, rfl, by decide +kernel, rfl, by decide +kernel, by decide +kernel⟩
abbrev s_leads : Stmt := topS 41
theorem sc_leads : FnScope ["plan", "marks", "house", "mark"] ["plan", "marks"] (defScope s_leads) := ⟨rfl, rfl, rfl, by decide +kernel, rfl, by decide +kernel, by decide +kernel⟩
abbrev s_marked : Stmt := topS 42
theorem sc_marked : FnScope ["marks", "house", "mark"] ["marks"] (defScope s_marked) := ⟨rfl, rfl, rfl, by decide +kernel, rfl, by decide +kernel, by decide +kernel⟩
abbrev s_joined : Stmt := topS 43
theorem sc_joined : FnScope ["plan", "marks", "some"] ["plan", "marks"] (defScope s_joined) := ⟨rfl, rfl, rfl, by decide +kernel, rfl, by decide +kernel, by decide +kernel⟩
abbrev s_wells : Stmt := topS 44
theorem sc_wells : FnScope ["plan", "marks", "heads", "ways", "head", "house", "mark", "way"] ["plan", "marks"] (defScope s_wells) := ⟨rfl, rfl, rfl, by decide +kernel, rfl, by decide +kernel, by decide +kernel⟩
abbrev s_holds_word : Stmt := topS 45
theorem sc_holds_word : FnScope ["plan", "marks", "word", "one", "other"] ["plan", "marks", "word"] (defScope s_holds_word) := ⟨rfl, rfl, rfl, by decide +kernel, rfl, by decide +kernel, by decide +kernel⟩
abbrev s_holds_of : Stmt := topS 46
theorem sc_holds_of : FnScope ["plan", "marks", "claim", "some", "one"] ["plan", "marks", "claim"] (defScope s_holds_of) := ⟨rfl, rfl, rfl, by decide +kernel, rfl, by decide +kernel, by decide +kernel⟩
abbrev s_tos_of : Stmt := topS 48
theorem sc_tos_of : FnScope ["plan", "house", "ways", "made", "near", "door"] ["plan"] (defScope s_tos_of) := ⟨rfl, rfl, rfl, by decide +kernel, rfl, by decide +kernel, by decide +kernel⟩
abbrev s_below_of : Stmt := topS 49
theorem sc_below_of : FnScope ["tos", "worths", "house", "one"] ["tos", "worths", "house"] (defScope s_below_of) := ⟨rfl, rfl, rfl, by decide +kernel, rfl, by decide +kernel, by decide +kernel⟩
abbrev s_tree_letters : Stmt := topS 50
theorem sc_tree_letters : FnScope ["plan", "worths", "many", "house", "ways", "tos", "made", "below"] ["plan", "worths", "many"] (defScope s_tree_letters) := ⟨rfl, rfl, rfl, by decide +kernel, rfl, by decide +kernel, by decide +kernel⟩
abbrev s_joined_letters : Stmt := topS 51
theorem sc_joined_letters : FnScope ["plan", "marks", "some", "ways", "steps", "house"] ["plan", "marks"] (defScope s_joined_letters) := ⟨rfl, rfl, rfl, by decide +kernel, rfl, by decide +kernel, by decide +kernel⟩
abbrev s_word_letters : Stmt := topS 52
theorem sc_word_letters : FnScope ["plan", "marks", "word", "many", "root", "house"] ["plan", "marks", "word"] (defScope s_word_letters) := ⟨rfl, rfl, rfl, by decide +kernel, rfl, by decide +kernel, by decide +kernel⟩
abbrev s_letters_of : Stmt := topS 53
theorem sc_letters_of : FnScope ["plan", "marks", "claim", "at", "letter"] ["plan", "marks", "claim"] (defScope s_letters_of) := ⟨rfl, rfl, rfl, by decide +kernel, rfl, by decide +kernel, by decide +kernel⟩
abbrev s_view_of : Stmt := topS 55
theorem sc_view_of : FnScope ["plan", "marks", "letters", "house", "doors", "door"] ["plan", "marks", "letters", "house"] (defScope s_view_of) := ⟨rfl, rfl, rfl, by decide +kernel, rfl, by decide +kernel, by decide +kernel⟩
abbrev s_are_wholes : Stmt := topS 56
theorem sc_are_wholes : FnScope ["letter", "many", "one"] ["letter", "many"] (defScope s_are_wholes) := ⟨rfl, rfl, rfl, by decide +kernel, rfl, by decide +kernel, by decide +kernel⟩
abbrev s_says_leads : Stmt := topS 57
theorem sc_says_leads : FnScope ["here", "mark", "letter", "doors", "root", "far", "door"] ["here", "mark", "letter", "doors"] (defScope s_says_leads) := ⟨rfl, rfl, rfl, by decide +kernel, rfl, by decide +kernel, by decide +kernel⟩
abbrev s_says_one : Stmt := topS 58
theorem sc_says_one : FnScope ["here", "mark", "letter", "doors", "root", "far", "door"] ["here", "mark", "letter", "doors"] (defScope s_says_one) := ⟨rfl, rfl, rfl, by decide +kernel, rfl, by decide +kernel, by decide +kernel⟩
abbrev s_says_two : Stmt := topS 59
theorem sc_says_two : FnScope ["mark", "doors", "door"] ["mark", "doors"] (defScope s_says_two) := ⟨rfl, rfl, rfl, by decide +kernel, rfl, by decide +kernel, by decide +kernel⟩
abbrev s_says_wells : Stmt := topS 60
theorem sc_says_wells : FnScope ["mark", "doors", "least", "door"] ["mark", "doors"] (defScope s_says_wells) := ⟨rfl, rfl, rfl, by decide +kernel, rfl, by decide +kernel, by decide +kernel⟩
abbrev s_says_joined : Stmt := topS 61
theorem sc_says_joined : FnScope ["here", "mark", "letter", "doors", "root", "far", "steps", "door"] ["here", "mark", "letter", "doors"] (defScope s_says_joined) := ⟨rfl, rfl, rfl, by decide +kernel, rfl, by decide +kernel, by decide +kernel⟩
abbrev s_says_tree : Stmt := topS 62
theorem sc_says_tree : FnScope ["here", "letter", "doors", "far", "to", "below", "door"] ["here", "letter", "doors"] (defScope s_says_tree) := ⟨rfl, rfl, rfl, by decide +kernel, rfl, by decide +kernel, by decide +kernel⟩
abbrev s_belows : Stmt := topS 63
theorem sc_belows : FnScope ["here", "doors", "door"] ["here", "doors"] (defScope s_belows) := ⟨rfl, rfl, rfl, by decide +kernel, rfl, by decide +kernel, by decide +kernel⟩
abbrev s_says_count : Stmt := topS 64
theorem sc_says_count : FnScope ["here", "mark", "letter", "doors"] ["here", "mark", "letter", "doors"] (defScope s_says_count) := ⟨rfl, rfl, rfl, by decide +kernel, rfl, by decide +kernel, by decide +kernel⟩
abbrev s_says_even : Stmt := topS 65
theorem sc_says_even : FnScope ["here", "mark", "letter", "doors"] ["here", "mark", "letter", "doors"] (defScope s_says_even) := ⟨rfl, rfl, rfl, by decide +kernel, rfl, by decide +kernel, by decide +kernel⟩
abbrev s_says_ring : Stmt := topS 66
theorem sc_says_ring : FnScope ["here", "letter", "doors", "far", "less", "more", "door"] ["here", "letter", "doors"] (defScope s_says_ring) := ⟨rfl, rfl, rfl, by decide +kernel, rfl, by decide +kernel, by decide +kernel⟩
abbrev s_says_word : Stmt := topS 68
theorem sc_says_word : FnScope ["word", "seen", "here", "mark", "letter", "doors", "door"] ["word", "seen"] (defScope s_says_word) := ⟨rfl, rfl, rfl, by decide +kernel, rfl, by decide +kernel, by decide +kernel⟩
abbrev s_is_pair : Stmt := topS 69
theorem sc_is_pair : FnScope ["letter"] ["letter"] (defScope s_is_pair) := ⟨rfl, rfl, rfl, by decide +kernel, rfl, by decide +kernel, by decide +kernel⟩
abbrev s_part_of : Stmt := topS 70
theorem sc_part_of : FnScope ["seen", "at", "here", "mark", "letter", "doors", "door"] ["seen", "at"] (defScope s_part_of) := ⟨rfl, rfl, rfl, by decide +kernel, rfl, by decide +kernel, by decide +kernel⟩
abbrev s_says_of : Stmt := topS 71
theorem sc_says_of : FnScope ["claim", "seen", "at", "door"] ["claim", "seen"] (defScope s_says_of) := ⟨rfl, rfl, rfl, by decide +kernel, rfl, by decide +kernel, by decide +kernel⟩
abbrev s_noes_of : Stmt := topS 72
theorem sc_noes_of : FnScope ["plan", "marks", "claim", "letters", "house"] ["plan", "marks", "claim", "letters"] (defScope s_noes_of) := ⟨rfl, rfl, rfl, by decide +kernel, rfl, by decide +kernel, by decide +kernel⟩
abbrev s_law_same_truth : Stmt := topS 76
theorem sc_law_same_truth : FnScope ["got", "due"] ["got", "due"] (defScope s_law_same_truth) := ⟨rfl, rfl, rfl, by decide +kernel, rfl, by decide +kernel, by decide +kernel⟩
abbrev s_M_make : Stmt := clsS (topS 74) 7
theorem sc_M_make : FnScope ["self", "plan", "marks", "letters"] ["self"] (defScope s_M_make) := ⟨rfl, rfl, rfl, by decide +kernel, rfl, by decide +kernel, by decide +kernel⟩
abbrev s_M_turn : Stmt := clsS (topS 74) 5
theorem sc_M_turn : FnScope ["self", "house", "mark", "plan", "marks", "letters"] ["self", "house", "mark"] (defScope s_M_turn) := ⟨rfl, rfl, rfl, by decide +kernel, rfl, by decide +kernel, by decide +kernel⟩
abbrev s_M_hand : Stmt := clsS (topS 74) 6
theorem sc_M_hand : FnScope ["self", "house", "letter", "plan", "marks", "letters"] ["self", "house", "letter"] (defScope s_M_hand) := ⟨rfl, rfl, rfl, by decide +kernel, rfl, by decide +kernel, by decide +kernel⟩
abbrev s_M_with_streets : Stmt := clsS (topS 74) 2
theorem sc_M_with_streets : FnScope ["self", "name", "one", "other", "there", "plan", "street", "some", "made", "own"] ["self", "name", "one", "other", "there"] (defScope s_M_with_streets) := ⟨rfl, rfl, rfl, by decide +kernel, rfl, by decide +kernel, by decide +kernel⟩
abbrev s_M_build : Stmt := clsS (topS 74) 3
theorem sc_M_build : FnScope ["self", "one", "other"] ["self", "one", "other"] (defScope s_M_build) := ⟨rfl, rfl, rfl, by decide +kernel, rfl, by decide +kernel, by decide +kernel⟩
abbrev s_M_tear : Stmt := clsS (topS 74) 4
theorem sc_M_tear : FnScope ["self", "one", "other"] ["self", "one", "other"] (defScope s_M_tear) := ⟨rfl, rfl, rfl, by decide +kernel, rfl, by decide +kernel, by decide +kernel⟩
abbrev s_law_ask : Stmt := topS 78
theorem sc_law_ask : FnScope ["what", "place", "one", "two", "e"] ["what", "place", "one", "two"] (defScope s_law_ask) := ⟨rfl, rfl, rfl, by decide +kernel, rfl, by decide +kernel, by decide +kernel⟩
abbrev s_Town : Stmt := clsS (topS 74) 0
theorem sc_Town : FnScope ["self", "plan", "marks", "claim"] ["self", "plan", "marks", "claim"] (defScope s_Town) := ⟨rfl, rfl, rfl, by decide +kernel, rfl, by decide +kernel, by decide +kernel⟩
abbrev s_T_call : Stmt := clsS (topS 74) 1
theorem sc_T_call : FnScope ["self", "name", "how"] ["self", "name", "how"] (defScope s_T_call) := ⟨rfl, rfl, rfl, by decide +kernel, rfl, by decide +kernel, by decide +kernel⟩
abbrev s_T_make : Stmt := clsS (topS 74) 7
theorem sc_T_make : FnScope ["self", "plan", "marks", "letters"] ["self"] (defScope s_T_make) := ⟨rfl, rfl, rfl, by decide +kernel, rfl, by decide +kernel, by decide +kernel⟩
abbrev s_T_back : Stmt := clsS (topS 74) 13
theorem sc_T_back : FnScope ["self"] ["self"] (defScope s_T_back) := ⟨rfl, rfl, rfl, by decide +kernel, rfl, by decide +kernel, by decide +kernel⟩
abbrev s_T_turn : Stmt := clsS (topS 74) 5
theorem sc_T_turn : FnScope ["self", "house", "mark", "plan", "marks", "letters"] ["self", "house", "mark"] (defScope s_T_turn) := ⟨rfl, rfl, rfl, by decide +kernel, rfl, by decide +kernel, by decide +kernel⟩
abbrev s_T_hand : Stmt := clsS (topS 74) 6
theorem sc_T_hand : FnScope ["self", "house", "letter", "plan", "marks", "letters"] ["self", "house", "letter"] (defScope s_T_hand) := ⟨rfl, rfl, rfl, by decide +kernel, rfl, by decide +kernel, by decide +kernel⟩
abbrev s_T_with_streets : Stmt := clsS (topS 74) 2
theorem sc_T_with_streets : FnScope ["self", "name", "one", "other", "there", "plan", "street", "some", "made", "own"] ["self", "name", "one", "other", "there"] (defScope s_T_with_streets) := ⟨rfl, rfl, rfl, by decide +kernel, rfl, by decide +kernel, by decide +kernel⟩
abbrev s_T_build : Stmt := clsS (topS 74) 3
theorem sc_T_build : FnScope ["self", "one", "other"] ["self", "one", "other"] (defScope s_T_build) := ⟨rfl, rfl, rfl, by decide +kernel, rfl, by decide +kernel, by decide +kernel⟩
abbrev s_T_tear : Stmt := clsS (topS 74) 4
theorem sc_T_tear : FnScope ["self", "one", "other"] ["self", "one", "other"] (defScope s_T_tear) := ⟨rfl, rfl, rfl, by decide +kernel, rfl, by decide +kernel, by decide +kernel⟩
abbrev s_T_law_ask : Stmt := topS 78
theorem sc_T_law_ask : FnScope ["what", "place", "one", "two", "e"] ["what", "place", "one", "two"] (defScope s_T_law_ask) := ⟨rfl, rfl, rfl, by decide +kernel, rfl, by decide +kernel, by decide +kernel⟩
abbrev s_M___eq__ : Stmt := clsS (topS 74) 15
theorem sc_M___eq__ : FnScope ["self", "other"] ["self", "other"] (defScope s_M___eq__) := ⟨rfl, rfl, rfl, by decide +kernel, rfl, by decide +kernel, by decide +kernel⟩
abbrev s_M___str__ : Stmt := clsS (topS 74) 17
theorem sc_M___str__ : FnScope ["self", "one"] ["self"] (defScope s_M___str__) := ⟨rfl, rfl, rfl, by decide +kernel, rfl, by decide +kernel, by decide +kernel⟩
abbrev s_M_noes : Stmt := clsS (topS 74) 8
theorem sc_M_noes : FnScope ["self"] ["self"] (defScope s_M_noes) := ⟨rfl, rfl, rfl, by decide +kernel, rfl, by decide +kernel, by decide +kernel⟩
abbrev s_M___len__ : Stmt := clsS (topS 74) 16
theorem sc_M___len__ : FnScope ["self"] ["self"] (defScope s_M___len__) := ⟨rfl, rfl, rfl, by decide +kernel, rfl, by decide +kernel, by decide +kernel⟩
abbrev s_M_plan : Stmt := clsS (topS 74) 10
theorem sc_M_plan : FnScope ["self"] ["self"] (defScope s_M_plan) := ⟨rfl, rfl, rfl, by decide +kernel, rfl, by decide +kernel, by decide +kernel⟩
abbrev s_law : Stmt := topS 79
theorem sc_law : FnScope ["script", "town", "place", "off", "plan", "marks", "a", "b", "what"] ["script"] (defScope s_law) := ⟨rfl, rfl, rfl, by decide +kernel, rfl, by decide +kernel, by decide +kernel⟩
abbrev s_M_holds : Stmt := clsS (topS 74) 9
theorem sc_M_holds : FnScope ["self"] ["self"] (defScope s_M_holds) := ⟨rfl, rfl, rfl, by decide +kernel, rfl, by decide +kernel, by decide +kernel⟩
abbrev s_M_marks : Stmt := clsS (topS 74) 11
theorem sc_M_marks : FnScope ["self"] ["self"] (defScope s_M_marks) := ⟨rfl, rfl, rfl, by decide +kernel, rfl, by decide +kernel, by decide +kernel⟩
abbrev s_M_letters : Stmt := clsS (topS 74) 12
theorem sc_M_letters : FnScope ["self"] ["self"] (defScope s_M_letters) := ⟨rfl, rfl, rfl, by decide +kernel, rfl, by decide +kernel, by decide +kernel⟩
theorem ok_wall  {fa : Addr} {fd : FuncData} (Fn : Fun K "_wall" "_wall" s_wall fa fd) : FnOk P w K mg base (L2N.CX P w) 1 fa fd ["k"] (spD K mg 1 g_wall) := by
  refine def_ok Fn sc_wall fun cdv A outer s H E hr => ?_
  have u0 := hr.units0
  have u1 := hu_of hr
  have u64 := hr.units
  have u65 := u65_of hr
  have u10 := u10_of hr
  have u20 := u20_of hr
  have hN := sc_wall.nd
  have tk := bX_takes (P := P) (w := w) (K := K) (mg := mg) (base := base) (N := ["k"]) (qual := "_wall") (st := s_wall) (f := fa) (cdv := cdv) (A := A) (outer := outer) (s := s) (H := H) (E := E)
  have hp := bX_pass (P := P) (w := w) (K := K) (mg := mg) (base := base) (N := ["k"]) (qual := "_wall") (st := s_wall) (f := fa) (cdv := cdv) (A := A) (outer := outer) (s := s) (H := H) (E := E)
  exact (dss_one (ds_while 1000 hp (dt_val (db de_bl))
        (dss_one ds_pass)))
theorem ok_is_whole (m_isinstance : mg "isinstance" = none) (m_bool : mg "bool" = none) (m_int : mg "int" = none) {fa : Addr} {fd : FuncData} (Fn : Fun K "is_whole" "is_whole" s_is_whole fa fd) : FnOk P w K mg base (L2N.CX P w) 1 fa fd ["thing", "low", "high"] (spD K mg 3 g_is_whole) := by
  refine def_ok Fn sc_is_whole fun cdv A outer s H E hr => ?_
  have u0 := hr.units0
  have u1 := hu_of hr
  have u64 := hr.units
  have u65 := u65_of hr
  have u10 := u10_of hr
  have u20 := u20_of hr
  have hN := sc_is_whole.nd
  have tk := bX_takes (P := P) (w := w) (K := K) (mg := mg) (base := base) (N := ["thing", "low", "high"]) (qual := "is_whole") (st := s_is_whole) (f := fa) (cdv := cdv) (A := A) (outer := outer) (s := s) (H := H) (E := E)
  have hp := bX_pass (P := P) (w := w) (K := K) (mg := mg) (base := base) (N := ["thing", "low", "high"]) (qual := "is_whole") (st := s_is_whole) (f := fa) (cdv := cdv) (A := A) (outer := outer) (s := s) (H := H) (E := E)
  exact (dss_one (ds_ret (de_and (db (de_isi (db (de_var 0)) (kit_int _) m_isinstance m_int rfl)) (de_and (db (de_not (db (de_isi (db (de_var 0)) (kit_bool _) m_isinstance m_bool rfl)))) (de_one (de_chain cm_le cm_le (db (de_var 1)) (db (de_var 0)) (db (de_var 2))))))))
theorem ok_is_any_whole (m_isinstance : mg "isinstance" = none) (m_bool : mg "bool" = none) (m_int : mg "int" = none) {fa : Addr} {fd : FuncData} (Fn : Fun K "is_any_whole" "is_any_whole" s_is_any_whole fa fd) : FnOk P w K mg base (L2N.CX P w) 1 fa fd ["thing"] (spD K mg 1 g_is_any_whole) := by
  refine def_ok Fn sc_is_any_whole fun cdv A outer s H E hr => ?_
  have u0 := hr.units0
  have u1 := hu_of hr
  have u64 := hr.units
  have u65 := u65_of hr
  have u10 := u10_of hr
  have u20 := u20_of hr
  have hN := sc_is_any_whole.nd
  have tk := bX_takes (P := P) (w := w) (K := K) (mg := mg) (base := base) (N := ["thing"]) (qual := "is_any_whole") (st := s_is_any_whole) (f := fa) (cdv := cdv) (A := A) (outer := outer) (s := s) (H := H) (E := E)
  have hp := bX_pass (P := P) (w := w) (K := K) (mg := mg) (base := base) (N := ["thing"]) (qual := "is_any_whole") (st := s_is_any_whole) (f := fa) (cdv := cdv) (A := A) (outer := outer) (s := s) (H := H) (E := E)
  exact (dss_one (ds_ret (de_and (db (de_isi (db (de_var 0)) (kit_int _) m_isinstance m_int rfl)) (de_one (de_not (db (de_isi (db (de_var 0)) (kit_bool _) m_isinstance m_bool rfl)))))))
theorem ok_is_street (m_all : mg "all" = none) (m_len : mg "len" = none) (m_isinstance : mg "isinstance" = none) (m_tuple : mg "tuple" = none) (c_is_whole : CalD P w K mg base 1 "is_whole" 3 g_is_whole) {fa : Addr} {fd : FuncData} (Fn : Fun K "is_street" "is_street" s_is_street fa fd) : FnOk P w K mg base (L2N.CX P w) 2 fa fd ["houses", "thing"] (spD K mg 2 g_is_street) := by
  refine def_ok Fn sc_is_street fun cdv A outer s H E hr => ?_
  have u0 := hr.units0
  have u1 := hu_of hr
  have u64 := hr.units
  have u65 := u65_of hr
  have u10 := u10_of hr
  have u20 := u20_of hr
  have hN := sc_is_street.nd
  have tk := bX_takes (P := P) (w := w) (K := K) (mg := mg) (base := base) (N := ["houses", "thing", "one"]) (qual := "is_street") (st := s_is_street) (f := fa) (cdv := cdv) (A := A) (outer := outer) (s := s) (H := H) (E := E)
  have hp := bX_pass (P := P) (w := w) (K := K) (mg := mg) (base := base) (N := ["houses", "thing", "one"]) (qual := "is_street") (st := s_is_street) (f := fa) (cdv := cdv) (A := A) (outer := outer) (s := s) (H := H) (E := E)
  refine dss_cons (ds_if (dt_w (dw_or (dt_not (dt_val (db (de_isi (db (de_var 1)) (kit_tuple _) m_isinstance m_tuple rfl)))) (dw_or (dt_cmp (cm_ne u64) (db (d_callB mo_c ca_len2 (dq_cons (db (de_var 1)) dq_nil) m_len rfl)) (db de_int)) (dw_or1 (dt_not (dt_val (db (d_callB mo_c (ca_all rfl) (dq_cons (db (df (df_lc (own := [("one", 2)]) rfl hN (dj_seq (db (de_var 1))) (blkOk_by (by kernel_rfl)) (by decide) (fun _ _ _ _ _ => (dg_name 2 hN)) (fun _ _ _ _ _ => dts_nil) (fun _ _ _ _ _ => (de_call c_is_whole hr (by decide) tN0 (da_cons (de_var 2) (da_cons de_int (da_cons (de_op op_subD (db (de_var 0)) (db de_int)) da_nil)))))))) dq_nil) m_all rfl))))))))
        (dss_one (ds_ret de_bl))
        dss_nil) ?_
  exact (dss_one (ds_ret (de_cmp (cm_lt u0) (db (de_ix u1 (db (de_var 1)) (db de_int))) (db (de_ix u1 (db (de_var 1)) (db de_int))))))
theorem ok_doors_of (m_sorted : mg "sorted" = none) {fa : Addr} {fd : FuncData} (Fn : Fun K "doors_of" "doors_of" s_doors_of fa fd) : FnOk P w K mg base (L2N.CX P w) 1 fa fd ["plan", "house"] (spD K mg 2 g_doors_of) := by
  refine def_ok Fn sc_doors_of fun cdv A outer s H E hr => ?_
  have u0 := hr.units0
  have u1 := hu_of hr
  have u64 := hr.units
  have u65 := u65_of hr
  have u10 := u10_of hr
  have u20 := u20_of hr
  have hN := sc_doors_of.nd
  have tk := bX_takes (P := P) (w := w) (K := K) (mg := mg) (base := base) (N := ["plan", "house", "made", "one", "other"]) (qual := "doors_of") (st := s_doors_of) (f := fa) (cdv := cdv) (A := A) (outer := outer) (s := s) (H := H) (E := E)
  have hp := bX_pass (P := P) (w := w) (K := K) (mg := mg) (base := base) (N := ["plan", "house", "made", "one", "other"]) (qual := "doors_of") (st := s_doors_of) (f := fa) (cdv := cdv) (A := A) (outer := outer) (s := s) (H := H) (E := E)
  refine dss_cons (ds_own 2 hN (df_lst da_nil)) ?_
  refine dss_cons (ds_for hp rfl (di_seq (de_ix u1 (db (de_var 0)) (db de_int))) (dg_tup rfl (dgs_cons (dg_name 3 hN) (dgs_cons (dg_name 4 hN) dgs_nil)) (gs_lenS (gs_lenS gs_len0)))
        (dss_one (ds_if (dt_cmp (cm_in u65) (db (de_var 1)) (db (de_tup (da_cons (de_var 3) (da_cons (de_var 4) da_nil)))))
        (dss_one (ds_append 2 (de_if (dt_cmp (cm_eq u64) (db (de_var 1)) (db (de_var 3))) (de_var 4) (de_var 3))))
        dss_nil))) ?_
  exact (dss_one (ds_ret (df (d_callB mo_f ca_sorted2 (dq_cons (db_var 2) dq_nil) m_sorted rfl))))
theorem ok_ways_from (c_doors_of : CalD P w K mg base 1 "doors_of" 2 g_doors_of) {fa : Addr} {fd : FuncData} (Fn : Fun K "ways_from" "ways_from" s_ways_from fa fd) : FnOk P w K mg base (L2N.CX P w) 2 fa fd ["plan", "house", "some"] (spD K mg 3 g_ways_from) := by
  refine def_ok Fn sc_ways_from fun cdv A outer s H E hr => ?_
  have u0 := hr.units0
  have u1 := hu_of hr
  have u64 := hr.units
  have u65 := u65_of hr
  have u10 := u10_of hr
  have u20 := u20_of hr
  have hN := sc_ways_from.nd
  have tk := bX_takes (P := P) (w := w) (K := K) (mg := mg) (base := base) (N := ["plan", "house", "some", "found", "level", "step", "later", "here", "door"]) (qual := "ways_from") (st := s_ways_from) (f := fa) (cdv := cdv) (A := A) (outer := outer) (s := s) (H := H) (E := E)
  have hp := bX_pass (P := P) (w := w) (K := K) (mg := mg) (base := base) (N := ["plan", "house", "some", "found", "level", "step", "later", "here", "door"]) (qual := "ways_from") (st := s_ways_from) (f := fa) (cdv := cdv) (A := A) (outer := outer) (s := s) (H := H) (E := E)
  refine dss_cons (ds_par3 rfl hN (dm_ow (df_dict (.cons (db (de_var 1)) de_int .nil)) (dm_sh (df (df_lst (da_cons (de_var 1) da_nil))) (dm_sh de_int dm_nil))) (by decide) (by decide) (by decide) rfl rfl rfl) ?_
  refine dss_cons (ds_while 1000 hp (dt_cmp (cm_ne u64) (db (de_var 4)) (db (df (df_lst da_nil))))
        (dss_cons (ds_augI 5 iop_add1 (fun _ _ _ => trivial) hN (db de_int))
        (dss_cons (ds_own 6 hN (df_lst da_nil))
        (dss_cons (ds_for hp rfl (di_seq (de_var 4)) (dg_name 7 hN)
        (dss_one (ds_for hp rfl (di_seq (de_call c_doors_of hr (by decide) tk (da_cons (de_var 0) (da_cons (de_var 7) da_nil)))) (dg_name 8 hN)
        (dss_one (ds_if (dt_w (dw_and (dt_cmp (cm_in u65) (db (de_var 8)) (db (de_var 2))) (dw_and1 (dt_cmp (cm_nin u65) (db (de_var 8)) (db_var 3)))))
        (dss_cons (ds_asg (de_var 5) (dga_ix 3 u1 (db (de_var 8))))
        (dss_one (ds_append 6 (de_var 8))))
        dss_nil)))))
        (dss_one (ds_frz 6 (ds_set 4 hN (de_var 6)))))))) ?_
  exact (dss_one (ds_frz 3 (ds_ret (de_var 3))))
theorem ok_all_ways (m_list : mg "list" = none) (m_range : mg "range" = none) (c_ways_from : CalD P w K mg base 2 "ways_from" 3 g_ways_from) {fa : Addr} {fd : FuncData} (Fn : Fun K "all_ways" "all_ways" s_all_ways fa fd) : FnOk P w K mg base (L2N.CX P w) 3 fa fd ["plan", "house"] (spD K mg 2 g_all_ways) := by
  refine def_ok Fn sc_all_ways fun cdv A outer s H E hr => ?_
  have u0 := hr.units0
  have u1 := hu_of hr
  have u64 := hr.units
  have u65 := u65_of hr
  have u10 := u10_of hr
  have u20 := u20_of hr
  have hN := sc_all_ways.nd
  have tk := bX_takes (P := P) (w := w) (K := K) (mg := mg) (base := base) (N := ["plan", "house"]) (qual := "all_ways") (st := s_all_ways) (f := fa) (cdv := cdv) (A := A) (outer := outer) (s := s) (H := H) (E := E)
  have hp := bX_pass (P := P) (w := w) (K := K) (mg := mg) (base := base) (N := ["plan", "house"]) (qual := "all_ways") (st := s_all_ways) (f := fa) (cdv := cdv) (A := A) (outer := outer) (s := s) (H := H) (E := E)
  exact (dss_one (ds_ret (de_call c_ways_from hr (by decide) tk (da_cons (de_var 0) (da_cons (de_var 1) (da_cons (df (df_lrng (db (de_ix u1 (db (de_var 0)) (db de_int))) m_list m_range)) da_nil))))))
theorem ok_good_plan (m_len : mg "len" = none) (m_isinstance : mg "isinstance" = none) (m_tuple : mg "tuple" = none) (m_all : mg "all" = none) (m_zip : mg "zip" = none) (gl_HOUSES : GlD K mg "HOUSES" c_HOUSES) (c_is_whole : CalD P w K mg base 1 "is_whole" 3 g_is_whole) (c_is_street : CalD P w K mg base 2 "is_street" 2 g_is_street) (c_all_ways : CalD P w K mg base 3 "all_ways" 2 g_all_ways) {fa : Addr} {fd : FuncData} (Fn : Fun K "good_plan" "good_plan" s_good_plan fa fd) : FnOk P w K mg base (L2N.CX P w) 4 fa fd ["thing"] (spD K mg 1 g_good_plan) := by
  refine def_ok Fn sc_good_plan fun cdv A outer s H E hr => ?_
  have u0 := hr.units0
  have u1 := hu_of hr
  have u64 := hr.units
  have u65 := u65_of hr
  have u10 := u10_of hr
  have u20 := u20_of hr
  have hN := sc_good_plan.nd
  have tk := bX_takes (P := P) (w := w) (K := K) (mg := mg) (base := base) (N := ["thing", "one", "other"]) (qual := "good_plan") (st := s_good_plan) (f := fa) (cdv := cdv) (A := A) (outer := outer) (s := s) (H := H) (E := E)
  have hp := bX_pass (P := P) (w := w) (K := K) (mg := mg) (base := base) (N := ["thing", "one", "other"]) (qual := "good_plan") (st := s_good_plan) (f := fa) (cdv := cdv) (A := A) (outer := outer) (s := s) (H := H) (E := E)
  refine dss_cons (ds_if (dt_w (dw_or (dt_not (dt_val (db (de_isi (db (de_var 0)) (kit_tuple _) m_isinstance m_tuple rfl)))) (dw_or (dt_cmp (cm_ne u64) (db (d_callB mo_c ca_len2 (dq_cons (db (de_var 0)) dq_nil) m_len rfl)) (db de_int)) (dw_or1 (dt_not (dt_val (db (de_call c_is_whole hr (by decide) tk (da_cons (de_ix u1 (db (de_var 0)) (db de_int)) (da_cons de_int (da_cons (de_glob gl_HOUSES) da_nil)))))))))))
        (dss_one (ds_ret de_bl))
        dss_nil) ?_
  refine dss_cons (ds_if (dt_w (dw_or (dt_not (dt_val (db (de_isi (db (de_ix u1 (db (de_var 0)) (db de_int))) (kit_tuple _) m_isinstance m_tuple rfl)))) (dw_or1 (dt_not (dt_val (db (d_callB mo_c (ca_all rfl) (dq_cons (db (df (df_lc (own := [("one", 1)]) rfl hN (dj_seq (db (de_ix u1 (db (de_var 0)) (db de_int)))) (blkOk_by (by kernel_rfl)) (by decide) (fun _ _ _ _ _ => (dg_name 1 hN)) (fun _ _ _ _ _ => dts_nil) (fun _ _ _ _ _ => (de_call c_is_street hr (by decide) tN0 (da_cons (de_ix u1 (db (de_var 0)) (db de_int)) (da_cons (de_var 1) da_nil))))))) dq_nil) m_all rfl)))))))
        (dss_one (ds_ret de_bl))
        dss_nil) ?_
  refine dss_cons (ds_if (dt_not (dt_val (db (d_callB mo_c (ca_all rfl) (dq_cons (db (df (df_lc (own := [("one", 1), ("other", 2)]) rfl hN (dj_zip (dq_cons (db (de_ix u1 (db (de_var 0)) (db de_int))) (dq_cons (db (de_sl (db (de_ix u1 (db (de_var 0)) (db de_int))) (do_some (db de_int)) do_none)) dq_nil)) m_zip) (blkOk_by (by kernel_rfl)) (by decide) (fun _ _ _ _ _ => (dg_tup rfl (dgs_cons (dg_name 1 hN) (dgs_cons (dg_name 2 hN) dgs_nil)) (gs_lenS (gs_lenS gs_len0)))) (fun _ _ _ _ _ => dts_nil) (fun _ _ _ _ _ => (de_cmp (cm_lt u0) (db (de_var 1)) (db (de_var 2))))))) dq_nil) m_all rfl))))
        (dss_one (ds_ret de_bl))
        dss_nil) ?_
  exact (dss_one (ds_ret (de_cmp (cm_eq u64) (db (d_callB mo_c ca_len2 (dq_cons (db (de_call c_all_ways hr (by decide) tk (da_cons (de_var 0) (da_cons de_int da_nil)))) dq_nil) m_len rfl)) (db (de_ix u1 (db (de_var 0)) (db de_int))))))
theorem ok_need_plan {e_NoPlan : Addr} (x_NoPlan : ExK K mg "NoPlan" e_NoPlan) (c_good_plan : CalD P w K mg base 4 "good_plan" 1 g_good_plan) {fa : Addr} {fd : FuncData} (Fn : Fun K "need_plan" "need_plan" s_need_plan fa fd) : FnOk P w K mg base (L2N.CX P w) 5 fa fd ["plan"] (spD K mg 1 g_need_plan) := by
  refine def_ok Fn sc_need_plan fun cdv A outer s H E hr => ?_
  have u0 := hr.units0
  have u1 := hu_of hr
  have u64 := hr.units
  have u65 := u65_of hr
  have u10 := u10_of hr
  have u20 := u20_of hr
  have hN := sc_need_plan.nd
  have tk := bX_takes (P := P) (w := w) (K := K) (mg := mg) (base := base) (N := ["plan"]) (qual := "need_plan") (st := s_need_plan) (f := fa) (cdv := cdv) (A := A) (outer := outer) (s := s) (H := H) (E := E)
  have hp := bX_pass (P := P) (w := w) (K := K) (mg := mg) (base := base) (N := ["plan"]) (qual := "need_plan") (st := s_need_plan) (f := fa) (cdv := cdv) (A := A) (outer := outer) (s := s) (H := H) (E := E)
  exact (dss_one (ds_if (dt_not (dt_val (db (de_call c_good_plan hr (by decide) tk (da_cons (de_var 0) da_nil)))))
        (dss_one (ds_raise x_NoPlan rfl tk))
        dss_nil))
theorem ok_need_house {e_NoHouse : Addr} (x_NoHouse : ExK K mg "NoHouse" e_NoHouse) (c_is_whole : CalD P w K mg base 1 "is_whole" 3 g_is_whole) {fa : Addr} {fd : FuncData} (Fn : Fun K "need_house" "need_house" s_need_house fa fd) : FnOk P w K mg base (L2N.CX P w) 2 fa fd ["plan", "house"] (spD K mg 2 g_need_house) := by
  refine def_ok Fn sc_need_house fun cdv A outer s H E hr => ?_
  have u0 := hr.units0
  have u1 := hu_of hr
  have u64 := hr.units
  have u65 := u65_of hr
  have u10 := u10_of hr
  have u20 := u20_of hr
  have hN := sc_need_house.nd
  have tk := bX_takes (P := P) (w := w) (K := K) (mg := mg) (base := base) (N := ["plan", "house"]) (qual := "need_house") (st := s_need_house) (f := fa) (cdv := cdv) (A := A) (outer := outer) (s := s) (H := H) (E := E)
  have hp := bX_pass (P := P) (w := w) (K := K) (mg := mg) (base := base) (N := ["plan", "house"]) (qual := "need_house") (st := s_need_house) (f := fa) (cdv := cdv) (A := A) (outer := outer) (s := s) (H := H) (E := E)
  exact (dss_one (ds_if (dt_not (dt_val (db (de_call c_is_whole hr (by decide) tk (da_cons (de_var 1) (da_cons de_int (da_cons (de_op op_subD (db (de_ix u1 (db (de_var 0)) (db de_int))) (db de_int)) da_nil)))))))
        (dss_one (ds_raise x_NoHouse rfl tk))
        dss_nil))
theorem ok_is_mark (gl_HIGH : GlD K mg "HIGH" c_HIGH) (gl_LOW : GlD K mg "LOW" c_LOW) (c_is_whole : CalD P w K mg base 1 "is_whole" 3 g_is_whole) {fa : Addr} {fd : FuncData} (Fn : Fun K "is_mark" "is_mark" s_is_mark fa fd) : FnOk P w K mg base (L2N.CX P w) 2 fa fd ["thing"] (spD K mg 1 g_is_mark) := by
  refine def_ok Fn sc_is_mark fun cdv A outer s H E hr => ?_
  have u0 := hr.units0
  have u1 := hu_of hr
  have u64 := hr.units
  have u65 := u65_of hr
  have u10 := u10_of hr
  have u20 := u20_of hr
  have hN := sc_is_mark.nd
  have tk := bX_takes (P := P) (w := w) (K := K) (mg := mg) (base := base) (N := ["thing"]) (qual := "is_mark") (st := s_is_mark) (f := fa) (cdv := cdv) (A := A) (outer := outer) (s := s) (H := H) (E := E)
  have hp := bX_pass (P := P) (w := w) (K := K) (mg := mg) (base := base) (N := ["thing"]) (qual := "is_mark") (st := s_is_mark) (f := fa) (cdv := cdv) (A := A) (outer := outer) (s := s) (H := H) (E := E)
  exact (dss_one (ds_ret (de_call c_is_whole hr (by decide) tk (da_cons (de_var 0) (da_cons (de_glob gl_LOW) (da_cons (de_glob gl_HIGH) da_nil))))))
theorem ok_good_marks (m_all : mg "all" = none) (m_len : mg "len" = none) (m_isinstance : mg "isinstance" = none) (m_tuple : mg "tuple" = none) (c_is_mark : CalD P w K mg base 2 "is_mark" 1 g_is_mark) {fa : Addr} {fd : FuncData} (Fn : Fun K "good_marks" "good_marks" s_good_marks fa fd) : FnOk P w K mg base (L2N.CX P w) 3 fa fd ["plan", "thing"] (spD K mg 2 g_good_marks) := by
  refine def_ok Fn sc_good_marks fun cdv A outer s H E hr => ?_
  have u0 := hr.units0
  have u1 := hu_of hr
  have u64 := hr.units
  have u65 := u65_of hr
  have u10 := u10_of hr
  have u20 := u20_of hr
  have hN := sc_good_marks.nd
  have tk := bX_takes (P := P) (w := w) (K := K) (mg := mg) (base := base) (N := ["plan", "thing", "one"]) (qual := "good_marks") (st := s_good_marks) (f := fa) (cdv := cdv) (A := A) (outer := outer) (s := s) (H := H) (E := E)
  have hp := bX_pass (P := P) (w := w) (K := K) (mg := mg) (base := base) (N := ["plan", "thing", "one"]) (qual := "good_marks") (st := s_good_marks) (f := fa) (cdv := cdv) (A := A) (outer := outer) (s := s) (H := H) (E := E)
  exact (dss_one (ds_ret (de_and (db (de_isi (db (de_var 1)) (kit_tuple _) m_isinstance m_tuple rfl)) (de_and (db (de_cmp (cm_eq u64) (db (d_callB mo_c ca_len2 (dq_cons (db (de_var 1)) dq_nil) m_len rfl)) (db (de_ix u1 (db (de_var 0)) (db de_int))))) (de_one (d_callB mo_c (ca_all rfl) (dq_cons (db (df (df_lc (own := [("one", 2)]) rfl hN (dj_seq (db (de_var 1))) (blkOk_by (by kernel_rfl)) (by decide) (fun _ _ _ _ _ => (dg_name 2 hN)) (fun _ _ _ _ _ => dts_nil) (fun _ _ _ _ _ => (de_call c_is_mark hr (by decide) tN0 (da_cons (de_var 2) da_nil)))))) dq_nil) m_all rfl))))))
theorem ok_need_marks {e_NoMarks : Addr} (x_NoMarks : ExK K mg "NoMarks" e_NoMarks) (c_need_plan : CalD P w K mg base 5 "need_plan" 1 g_need_plan) (c_good_marks : CalD P w K mg base 3 "good_marks" 2 g_good_marks) {fa : Addr} {fd : FuncData} (Fn : Fun K "need_marks" "need_marks" s_need_marks fa fd) : FnOk P w K mg base (L2N.CX P w) 6 fa fd ["plan", "marks"] (spD K mg 2 g_need_marks) := by
  refine def_ok Fn sc_need_marks fun cdv A outer s H E hr => ?_
  have u0 := hr.units0
  have u1 := hu_of hr
  have u64 := hr.units
  have u65 := u65_of hr
  have u10 := u10_of hr
  have u20 := u20_of hr
  have hN := sc_need_marks.nd
  have tk := bX_takes (P := P) (w := w) (K := K) (mg := mg) (base := base) (N := ["plan", "marks"]) (qual := "need_marks") (st := s_need_marks) (f := fa) (cdv := cdv) (A := A) (outer := outer) (s := s) (H := H) (E := E)
  have hp := bX_pass (P := P) (w := w) (K := K) (mg := mg) (base := base) (N := ["plan", "marks"]) (qual := "need_marks") (st := s_need_marks) (f := fa) (cdv := cdv) (A := A) (outer := outer) (s := s) (H := H) (E := E)
  refine dss_cons (ds_expr (db (de_call c_need_plan hr (by decide) tk (da_cons (de_var 0) da_nil)))) ?_
  exact (dss_one (ds_if (dt_not (dt_val (db (de_call c_good_marks hr (by decide) tk (da_cons (de_var 0) (da_cons (de_var 1) da_nil))))))
        (dss_one (ds_raise x_NoMarks rfl tk))
        dss_nil))
theorem ok_words_in (m_isinstance : mg "isinstance" = none) (m_str : mg "str" = none) (m_len : mg "len" = none) (m_tuple : mg "tuple" = none) (gl_WORDS : GlD K mg "WORDS" c_WORDS) (gl_BONDS : GlD K mg "BONDS" c_BONDS) {fa : Addr} {fd : FuncData} (Fn : Fun K "words_in" "words_in" s_words_in fa fd) (gm : mg "words_in" = some (.ref fa)) (bn : Binds K fd ["thing", "left"] []) : ∀ k, CalD P w K mg base (0 + k) "words_in" 2 (gr_words_in k)
  | 0 => ⟨fa, fd, ["thing", "left"], cal_no, gm, Fn.kp, bn⟩
  | k + 1 => by
    have ih := ok_words_in m_isinstance m_str m_len m_tuple gl_WORDS gl_BONDS Fn gm bn k
    refine ⟨fa, fd, _, def_ok (k := 0 + k) Fn sc_words_in fun cdv A outer s H E hr => ?_, gm, Fn.kp, bn⟩
    have u0 := hr.units0
    have u1 := hu_of hr
    have u64 := hr.units
    have u65 := u65_of hr
    have u10 := u10_of hr
    have u20 := u20_of hr
    have hN := sc_words_in.nd
    have tk := bX_takes (P := P) (w := w) (K := K) (mg := mg) (base := base) (N := ["thing", "left", "one", "other"]) (qual := "words_in") (st := s_words_in) (f := fa) (cdv := cdv) (A := A) (outer := outer) (s := s) (H := H) (E := E)
    have hp := bX_pass (P := P) (w := w) (K := K) (mg := mg) (base := base) (N := ["thing", "left", "one", "other"]) (qual := "words_in") (st := s_words_in) (f := fa) (cdv := cdv) (A := A) (outer := outer) (s := s) (H := H) (E := E)
    refine dss_cons (ds_if (dt_val (db (de_isi (db (de_var 0)) (kit_str _) m_isinstance m_str rfl)))
          (dss_one (ds_ret (de_if (dt_cmp (cm_in u65) (db (de_var 0)) (db (de_glob gl_WORDS))) de_int de_non)))
          dss_nil) ?_
    refine dss_cons (ds_if (dt_w (dw_or (dt_not (dt_val (db (de_isi (db (de_var 0)) (kit_tuple _) m_isinstance m_tuple rfl)))) (dw_or (dt_cmp (cm_ne u64) (db (d_callB mo_c ca_len2 (dq_cons (db (de_var 0)) dq_nil) m_len rfl)) (db de_int)) (dw_or1 (dt_cmp (cm_lt u0) (db (de_var 1)) (db de_int))))))
          (dss_one (ds_ret de_non))
          dss_nil) ?_
    refine dss_cons (ds_if (dt_w (dw_or (dt_not (dt_val (db (de_isi (db (de_ix u1 (db (de_var 0)) (db de_int))) (kit_str _) m_isinstance m_str rfl)))) (dw_or1 (dt_cmp (cm_nin u65) (db (de_ix u1 (db (de_var 0)) (db de_int))) (db (de_glob gl_BONDS))))))
          (dss_one (ds_ret de_non))
          dss_nil) ?_
    refine dss_cons (ds_par rfl hN (dm_sh (de_call ih hr (by omega) tk (da_cons (de_ix u1 (db (de_var 0)) (db de_int)) (da_cons (de_op op_subD (db (de_var 1)) (db de_int)) da_nil))) (dm_sh (de_call ih hr (by omega) tk (da_cons (de_ix u1 (db (de_var 0)) (db de_int)) (da_cons (de_op op_subD (db (de_var 1)) (db de_int)) da_nil))) dm_nil)) (by decide) rfl rfl) ?_
    exact (dss_one (ds_ret (de_if (dt_w (dw_or (dt_cmp cm_is (db (de_var 2)) (db de_non)) (dw_or1 (dt_cmp cm_is (db (de_var 3)) (db de_non))))) de_non (de_op op_addD (db (de_var 2)) (db (de_var 3))))))
theorem ok_good_claim (gl_MOST : GlD K mg "MOST" c_MOST) (c_words_in : CalD P w K mg base 4 "words_in" 2 g_words_in) {fa : Addr} {fd : FuncData} (Fn : Fun K "good_claim" "good_claim" s_good_claim fa fd) : FnOk P w K mg base (L2N.CX P w) 5 fa fd ["thing"] (spD K mg 1 g_good_claim) := by
  refine def_ok Fn sc_good_claim fun cdv A outer s H E hr => ?_
  have u0 := hr.units0
  have u1 := hu_of hr
  have u64 := hr.units
  have u65 := u65_of hr
  have u10 := u10_of hr
  have u20 := u20_of hr
  have hN := sc_good_claim.nd
  have tk := bX_takes (P := P) (w := w) (K := K) (mg := mg) (base := base) (N := ["thing", "many"]) (qual := "good_claim") (st := s_good_claim) (f := fa) (cdv := cdv) (A := A) (outer := outer) (s := s) (H := H) (E := E)
  have hp := bX_pass (P := P) (w := w) (K := K) (mg := mg) (base := base) (N := ["thing", "many"]) (qual := "good_claim") (st := s_good_claim) (f := fa) (cdv := cdv) (A := A) (outer := outer) (s := s) (H := H) (E := E)
  refine dss_cons (ds_set 1 hN (de_call c_words_in hr (by decide) tk (da_cons (de_var 0) (da_cons (de_glob gl_MOST) da_nil)))) ?_
  exact (dss_one (ds_ret (de_and (db (de_cmp cm_isn (db (de_var 1)) (db de_non))) (de_one (de_cmp cm_le (db (de_var 1)) (db (de_glob gl_MOST)))))))
theorem ok_need_claim {e_NoClaim : Addr} (x_NoClaim : ExK K mg "NoClaim" e_NoClaim) (c_good_claim : CalD P w K mg base 5 "good_claim" 1 g_good_claim) {fa : Addr} {fd : FuncData} (Fn : Fun K "need_claim" "need_claim" s_need_claim fa fd) : FnOk P w K mg base (L2N.CX P w) 6 fa fd ["claim"] (spD K mg 1 g_need_claim) := by
  refine def_ok Fn sc_need_claim fun cdv A outer s H E hr => ?_
  have u0 := hr.units0
  have u1 := hu_of hr
  have u64 := hr.units
  have u65 := u65_of hr
  have u10 := u10_of hr
  have u20 := u20_of hr
  have hN := sc_need_claim.nd
  have tk := bX_takes (P := P) (w := w) (K := K) (mg := mg) (base := base) (N := ["claim"]) (qual := "need_claim") (st := s_need_claim) (f := fa) (cdv := cdv) (A := A) (outer := outer) (s := s) (H := H) (E := E)
  have hp := bX_pass (P := P) (w := w) (K := K) (mg := mg) (base := base) (N := ["claim"]) (qual := "need_claim") (st := s_need_claim) (f := fa) (cdv := cdv) (A := A) (outer := outer) (s := s) (H := H) (E := E)
  exact (dss_one (ds_if (dt_not (dt_val (db (de_call c_good_claim hr (by decide) tk (da_cons (de_var 0) da_nil)))))
        (dss_one (ds_raise x_NoClaim rfl tk))
        dss_nil))
theorem ok_are_bits (m_all : mg "all" = none) {fa : Addr} {fd : FuncData} (Fn : Fun K "are_bits" "are_bits" s_are_bits fa fd) : FnOk P w K mg base (L2N.CX P w) 1 fa fd ["marks"] (spD K mg 1 g_are_bits) := by
  refine def_ok Fn sc_are_bits fun cdv A outer s H E hr => ?_
  have u0 := hr.units0
  have u1 := hu_of hr
  have u64 := hr.units
  have u65 := u65_of hr
  have u10 := u10_of hr
  have u20 := u20_of hr
  have hN := sc_are_bits.nd
  have tk := bX_takes (P := P) (w := w) (K := K) (mg := mg) (base := base) (N := ["marks", "one"]) (qual := "are_bits") (st := s_are_bits) (f := fa) (cdv := cdv) (A := A) (outer := outer) (s := s) (H := H) (E := E)
  have hp := bX_pass (P := P) (w := w) (K := K) (mg := mg) (base := base) (N := ["marks", "one"]) (qual := "are_bits") (st := s_are_bits) (f := fa) (cdv := cdv) (A := A) (outer := outer) (s := s) (H := H) (E := E)
  exact (dss_one (ds_ret (d_callB mo_c (ca_all rfl) (dq_cons (db (df (df_lc (own := [("one", 1)]) rfl hN (dj_seq (db (de_var 0))) (blkOk_by (by kernel_rfl)) (by decide) (fun _ _ _ _ _ => (dg_name 1 hN)) (fun _ _ _ _ _ => dts_nil) (fun _ _ _ _ _ => (de_cmp (cm_in u65) (db (de_var 1)) (db (de_tup (da_cons de_int (da_cons de_int da_nil))))))))) dq_nil) m_all rfl)))
theorem ok_steps_by (m_len : mg "len" = none) {fa : Addr} {fd : FuncData} (Fn : Fun K "steps_by" "steps_by" s_steps_by fa fd) : FnOk P w K mg base (L2N.CX P w) 1 fa fd ["marks", "house"] (spD K mg 2 g_steps_by) := by
  refine def_ok Fn sc_steps_by fun cdv A outer s H E hr => ?_
  have u0 := hr.units0
  have u1 := hu_of hr
  have u64 := hr.units
  have u65 := u65_of hr
  have u10 := u10_of hr
  have u20 := u20_of hr
  have hN := sc_steps_by.nd
  have tk := bX_takes (P := P) (w := w) (K := K) (mg := mg) (base := base) (N := ["marks", "house", "here", "steps"]) (qual := "steps_by") (st := s_steps_by) (f := fa) (cdv := cdv) (A := A) (outer := outer) (s := s) (H := H) (E := E)
  have hp := bX_pass (P := P) (w := w) (K := K) (mg := mg) (base := base) (N := ["marks", "house", "here", "steps"]) (qual := "steps_by") (st := s_steps_by) (f := fa) (cdv := cdv) (A := A) (outer := outer) (s := s) (H := H) (E := E)
  refine dss_cons (ds_par rfl hN (dm_sh (de_var 1) (dm_sh de_int dm_nil)) (by decide) rfl rfl) ?_
  refine dss_cons (ds_while 1000 hp (dt_cmp (cm_ne u64) (db (de_ix u1 (db (de_var 0)) (db (de_var 2)))) (db (de_neg (db de_int))))
        (dss_cons (ds_par rfl hN (dm_sh (de_ix u1 (db (de_var 0)) (db (de_var 2))) (dm_sh (de_op op_addD (db (de_var 3)) (db de_int)) dm_nil)) (by decide) rfl rfl)
        (dss_one (ds_if (dt_cmp cm_gt (db (de_var 3)) (db (d_callB mo_c ca_len2 (dq_cons (db (de_var 0)) dq_nil) m_len rfl)))
        (dss_one (ds_ret de_non))
        dss_nil)))) ?_
  exact (dss_one (ds_ret (de_var 3)))
theorem ok_leads (m_all : mg "all" = none) (m_enumerate : mg "enumerate" = none) (m_range : mg "range" = none) (c_doors_of : CalD P w K mg base 1 "doors_of" 2 g_doors_of) (c_steps_by : CalD P w K mg base 1 "steps_by" 2 g_steps_by) {fa : Addr} {fd : FuncData} (Fn : Fun K "leads" "leads" s_leads fa fd) : FnOk P w K mg base (L2N.CX P w) 2 fa fd ["plan", "marks"] (spD K mg 2 g_leads) := by
  refine def_ok Fn sc_leads fun cdv A outer s H E hr => ?_
  have u0 := hr.units0
  have u1 := hu_of hr
  have u64 := hr.units
  have u65 := u65_of hr
  have u10 := u10_of hr
  have u20 := u20_of hr
  have hN := sc_leads.nd
  have tk := bX_takes (P := P) (w := w) (K := K) (mg := mg) (base := base) (N := ["plan", "marks", "house", "mark"]) (qual := "leads") (st := s_leads) (f := fa) (cdv := cdv) (A := A) (outer := outer) (s := s) (H := H) (E := E)
  have hp := bX_pass (P := P) (w := w) (K := K) (mg := mg) (base := base) (N := ["plan", "marks", "house", "mark"]) (qual := "leads") (st := s_leads) (f := fa) (cdv := cdv) (A := A) (outer := outer) (s := s) (H := H) (E := E)
  refine dss_cons (ds_if (dt_cmp (cm_ne u64) (db (de_tcount u65 (db (de_var 1)) (dq_cons (db (de_neg (db de_int))) dq_nil))) (db de_int))
        (dss_one (ds_ret de_bl))
        dss_nil) ?_
  refine dss_cons (ds_if (dt_not (dt_val (db (d_callB mo_c (ca_all rfl) (dq_cons (db (df (df_lc (own := [("house", 2), ("mark", 3)]) rfl hN (dj_enum (dq_cons (db (de_var 1)) dq_nil) m_enumerate) (blkOk_by (by kernel_rfl)) (by decide) (fun _ _ _ _ _ => (dg_tup rfl (dgs_cons (dg_name 2 hN) (dgs_cons (dg_name 3 hN) dgs_nil)) (gs_lenS (gs_lenS gs_len0)))) (fun _ _ _ _ _ => dts_nil) (fun _ _ _ _ _ => (de_or (db (de_cmp (cm_eq u64) (db (de_var 3)) (db (de_neg (db de_int))))) (de_one (de_cmp (cm_in u65) (db (de_var 3)) (db (de_call c_doors_of hr (by decide) tN0 (da_cons (de_var 0) (da_cons (de_var 2) da_nil))))))))))) dq_nil) m_all rfl))))
        (dss_one (ds_ret de_bl))
        dss_nil) ?_
  exact (dss_one (ds_ret (d_callB mo_c (ca_all rfl) (dq_cons (db (df (df_lc (own := [("house", 2)]) rfl hN (dj_range1 (dq_cons (db (de_ix u1 (db (de_var 0)) (db de_int))) dq_nil) m_range) (blkOk_by (by kernel_rfl)) (by decide) (fun _ _ _ _ _ => (dg_name 2 hN)) (fun _ _ _ _ _ => dts_nil) (fun _ _ _ _ _ => (de_cmp cm_isn (db (de_call c_steps_by hr (by decide) tN0 (da_cons (de_var 1) (da_cons (de_var 2) da_nil)))) (db de_non)))))) dq_nil) m_all rfl)))
theorem ok_marked (m_enumerate : mg "enumerate" = none) {fa : Addr} {fd : FuncData} (Fn : Fun K "marked" "marked" s_marked fa fd) : FnOk P w K mg base (L2N.CX P w) 1 fa fd ["marks"] (spD K mg 1 g_marked) := by
  refine def_ok Fn sc_marked fun cdv A outer s H E hr => ?_
  have u0 := hr.units0
  have u1 := hu_of hr
  have u64 := hr.units
  have u65 := u65_of hr
  have u10 := u10_of hr
  have u20 := u20_of hr
  have hN := sc_marked.nd
  have tk := bX_takes (P := P) (w := w) (K := K) (mg := mg) (base := base) (N := ["marks", "house", "mark"]) (qual := "marked") (st := s_marked) (f := fa) (cdv := cdv) (A := A) (outer := outer) (s := s) (H := H) (E := E)
  have hp := bX_pass (P := P) (w := w) (K := K) (mg := mg) (base := base) (N := ["marks", "house", "mark"]) (qual := "marked") (st := s_marked) (f := fa) (cdv := cdv) (A := A) (outer := outer) (s := s) (H := H) (E := E)
  exact (dss_one (ds_ret (df (df_lc (own := [("house", 1), ("mark", 2)]) rfl hN (dj_enum (dq_cons (db (de_var 0)) dq_nil) m_enumerate) (blkOk_by (by kernel_rfl)) (by decide) (fun _ _ _ _ _ => (dg_tup rfl (dgs_cons (dg_name 1 hN) (dgs_cons (dg_name 2 hN) dgs_nil)) (gs_lenS (gs_lenS gs_len0)))) (fun _ _ _ _ _ => (dts_one (dt_cmp (cm_eq u64) (db (de_var 2)) (db de_int)))) (fun _ _ _ _ _ => (de_var 1))))))
theorem ok_joined (m_len : mg "len" = none) (c_marked : CalD P w K mg base 1 "marked" 1 g_marked) (c_ways_from : CalD P w K mg base 2 "ways_from" 3 g_ways_from) (c_are_bits : CalD P w K mg base 1 "are_bits" 1 g_are_bits) {fa : Addr} {fd : FuncData} (Fn : Fun K "joined" "joined" s_joined fa fd) : FnOk P w K mg base (L2N.CX P w) 3 fa fd ["plan", "marks"] (spD K mg 2 g_joined) := by
  refine def_ok Fn sc_joined fun cdv A outer s H E hr => ?_
  have u0 := hr.units0
  have u1 := hu_of hr
  have u64 := hr.units
  have u65 := u65_of hr
  have u10 := u10_of hr
  have u20 := u20_of hr
  have hN := sc_joined.nd
  have tk := bX_takes (P := P) (w := w) (K := K) (mg := mg) (base := base) (N := ["plan", "marks", "some"]) (qual := "joined") (st := s_joined) (f := fa) (cdv := cdv) (A := A) (outer := outer) (s := s) (H := H) (E := E)
  have hp := bX_pass (P := P) (w := w) (K := K) (mg := mg) (base := base) (N := ["plan", "marks", "some"]) (qual := "joined") (st := s_joined) (f := fa) (cdv := cdv) (A := A) (outer := outer) (s := s) (H := H) (E := E)
  refine dss_cons (ds_set 2 hN (de_call c_marked hr (by decide) tk (da_cons (de_var 1) da_nil))) ?_
  exact (dss_one (ds_ret (de_and (db (de_call c_are_bits hr (by decide) tk (da_cons (de_var 1) da_nil))) (de_and (db (de_cmp (cm_ne u64) (db (de_var 2)) (db (df (df_lst da_nil))))) (de_one (de_cmp (cm_eq u64) (db (d_callB mo_c ca_len2 (dq_cons (db (de_call c_ways_from hr (by decide) tk (da_cons (de_var 0) (da_cons (de_ix u1 (db (de_var 2)) (db de_int)) (da_cons (de_var 2) da_nil))))) dq_nil) m_len rfl)) (db (d_callB mo_c ca_len2 (dq_cons (db (de_var 2)) dq_nil) m_len rfl))))))))
theorem ok_wells (m_enumerate : mg "enumerate" = none) (m_all : mg "all" = none) (m_min : mg "min" = none) (c_all_ways : CalD P w K mg base 3 "all_ways" 2 g_all_ways) {fa : Addr} {fd : FuncData} (Fn : Fun K "wells" "wells" s_wells fa fd) : FnOk P w K mg base (L2N.CX P w) 4 fa fd ["plan", "marks"] (spD K mg 2 g_wells) := by
  refine def_ok Fn sc_wells fun cdv A outer s H E hr => ?_
  have u0 := hr.units0
  have u1 := hu_of hr
  have u64 := hr.units
  have u65 := u65_of hr
  have u10 := u10_of hr
  have u20 := u20_of hr
  have hN := sc_wells.nd
  have tk := bX_takes (P := P) (w := w) (K := K) (mg := mg) (base := base) (N := ["plan", "marks", "heads", "ways", "head", "house", "mark", "way"]) (qual := "wells") (st := s_wells) (f := fa) (cdv := cdv) (A := A) (outer := outer) (s := s) (H := H) (E := E)
  have hp := bX_pass (P := P) (w := w) (K := K) (mg := mg) (base := base) (N := ["plan", "marks", "heads", "ways", "head", "house", "mark", "way"]) (qual := "wells") (st := s_wells) (f := fa) (cdv := cdv) (A := A) (outer := outer) (s := s) (H := H) (E := E)
  refine dss_cons (ds_ownLc 2 (own := [("house", 5), ("mark", 6)]) rfl hN rfl (dj_enum (dq_cons (db (de_var 1)) dq_nil) m_enumerate) (blkOk_by (by kernel_rfl)) (by decide) (fun _ _ _ _ _ => (dg_tup rfl (dgs_cons (dg_name 5 hN) (dgs_cons (dg_name 6 hN) dgs_nil)) (gs_lenS (gs_lenS gs_len0)))) (fun _ _ _ _ _ => (dts_one (dt_cmp (cm_eq u64) (db (de_var 6)) (db de_int)))) (fun _ _ _ _ _ => (de_var 5))) ?_
  refine dss_cons (ds_if (dt_cmp (cm_eq u64) (db_var 2) (db (df (df_lst da_nil))))
        (dss_one (ds_ret de_bl))
        dss_nil) ?_
  refine dss_cons (ds_set 3 hN (df (df_lc (own := [("head", 4)]) rfl hN (dj_seq (db_var 2)) (blkOk_by (by kernel_rfl)) (by decide) (fun _ _ _ _ _ => (dg_name 4 hN)) (fun _ _ _ _ _ => dts_nil) (fun _ _ _ _ _ => (de_call c_all_ways hr (by decide) tN0 (da_cons (de_var 0) (da_cons (de_var 4) da_nil))))))) ?_
  exact (dss_one (ds_ret (d_callB mo_c (ca_all rfl) (dq_cons (db (df (df_lc (own := [("house", 5), ("mark", 6)]) rfl hN (dj_enum (dq_cons (db (de_var 1)) dq_nil) m_enumerate) (blkOk_by (by kernel_rfl)) (by decide) (fun _ _ _ _ _ => (dg_tup rfl (dgs_cons (dg_name 5 hN) (dgs_cons (dg_name 6 hN) dgs_nil)) (gs_lenS (gs_lenS gs_len0)))) (fun _ _ _ _ _ => dts_nil) (fun _ _ _ _ _ => (de_cmp (cm_eq u64) (db (de_var 6)) (db (d_callB mo_c (ca_min rfl) (dq_cons (db (df (df_lc (own := [("way", 7)]) rfl hN (dj_seq (db (de_var 3))) (blkOk_by (by kernel_rfl)) (by decide) (fun _ _ _ _ _ => (dg_name 7 hN)) (fun _ _ _ _ _ => dts_nil) (fun _ _ _ _ _ => (de_ix u1 (db (de_var 7)) (db (de_var 5))))))) dq_nil) m_min rfl))))))) dq_nil) m_all rfl)))
theorem ok_holds_word (m_sum : mg "sum" = none) (m_all : mg "all" = none) (m_len : mg "len" = none) (c_leads : CalD P w K mg base 2 "leads" 2 g_leads) (c_joined : CalD P w K mg base 3 "joined" 2 g_joined) (c_wells : CalD P w K mg base 4 "wells" 2 g_wells) (c_are_bits : CalD P w K mg base 1 "are_bits" 1 g_are_bits) {fa : Addr} {fd : FuncData} (Fn : Fun K "holds_word" "holds_word" s_holds_word fa fd) : FnOk P w K mg base (L2N.CX P w) 5 fa fd ["plan", "marks", "word"] (spD K mg 3 g_holds_word) := by
  refine def_ok Fn sc_holds_word fun cdv A outer s H E hr => ?_
  have u0 := hr.units0
  have u1 := hu_of hr
  have u64 := hr.units
  have u65 := u65_of hr
  have u10 := u10_of hr
  have u20 := u20_of hr
  have hN := sc_holds_word.nd
  have tk := bX_takes (P := P) (w := w) (K := K) (mg := mg) (base := base) (N := ["plan", "marks", "word", "one", "other"]) (qual := "holds_word") (st := s_holds_word) (f := fa) (cdv := cdv) (A := A) (outer := outer) (s := s) (H := H) (E := E)
  have hp := bX_pass (P := P) (w := w) (K := K) (mg := mg) (base := base) (N := ["plan", "marks", "word", "one", "other"]) (qual := "holds_word") (st := s_holds_word) (f := fa) (cdv := cdv) (A := A) (outer := outer) (s := s) (H := H) (E := E)
  refine dss_cons (ds_if (dt_cmp (cm_in u65) (db (de_var 2)) (db (de_tup (da_cons de_str (da_cons de_str da_nil)))))
        (dss_one (ds_ret (de_if (dt_cmp (cm_eq u64) (db (de_var 2)) (db de_str)) (de_call c_leads hr (by decide) tk (da_cons (de_var 0) (da_cons (de_var 1) da_nil))) (de_call c_joined hr (by decide) tk (da_cons (de_var 0) (da_cons (de_var 1) da_nil))))))
        dss_nil) ?_
  refine dss_cons (ds_if (dt_cmp (cm_eq u64) (db (de_var 2)) (db de_str))
        (dss_one (ds_ret (de_call c_wells hr (by decide) tk (da_cons (de_var 0) (da_cons (de_var 1) da_nil)))))
        dss_nil) ?_
  refine dss_cons (ds_if (dt_cmp (cm_eq u64) (db (de_var 2)) (db de_str))
        (dss_one (ds_ret (de_and (db (de_call c_are_bits hr (by decide) tk (da_cons (de_var 1) da_nil))) (de_one (de_cmp (cm_eq u64) (db (d_callB mo_c (ca_sum2 rfl) (dq_cons (db (de_var 1)) dq_nil) m_sum rfl)) (db de_int))))))
        dss_nil) ?_
  refine dss_cons (ds_if (dt_cmp (cm_eq u64) (db (de_var 2)) (db de_str))
        (dss_one (ds_ret (de_and (db (de_call c_are_bits hr (by decide) tk (da_cons (de_var 1) da_nil))) (de_one (d_callB mo_c (ca_all rfl) (dq_cons (db (df (df_lc (own := [("one", 3), ("other", 4)]) rfl hN (dj_seq (db (de_ix u1 (db (de_var 0)) (db de_int)))) (blkOk_by (by kernel_rfl)) (by decide) (fun _ _ _ _ _ => (dg_tup rfl (dgs_cons (dg_name 3 hN) (dgs_cons (dg_name 4 hN) dgs_nil)) (gs_lenS (gs_lenS gs_len0)))) (fun _ _ _ _ _ => dts_nil) (fun _ _ _ _ _ => (de_cmp (cm_ne u64) (db (de_ix u1 (db (de_var 1)) (db (de_var 3)))) (db (de_ix u1 (db (de_var 1)) (db (de_var 4))))))))) dq_nil) m_all rfl)))))
        dss_nil) ?_
  refine dss_cons (ds_if (dt_cmp (cm_eq u64) (db (de_var 2)) (db de_str))
        (dss_one (ds_ret (de_and (db (de_call c_are_bits hr (by decide) tk (da_cons (de_var 1) da_nil))) (de_one (de_cmp (cm_eq u64) (db (de_op op_modD (db (d_callB mo_c (ca_sum2 rfl) (dq_cons (db (de_var 1)) dq_nil) m_sum rfl)) (db de_int))) (db de_int))))))
        dss_nil) ?_
  exact (dss_one (ds_ret (de_if (dt_cmp (cm_eq u64) (db (de_var 2)) (db de_str)) (de_cmp (cm_eq u64) (db (de_ix u1 (db (de_var 1)) (db de_int))) (db (de_ix u1 (db (de_var 0)) (db de_int)))) (de_cmp (cm_eq u64) (db (d_callB mo_c ca_len2 (dq_cons (db (de_ix u1 (db (de_var 0)) (db de_int))) dq_nil) m_len rfl)) (db (de_op op_subD (db (de_ix u1 (db (de_var 0)) (db de_int))) (db de_int)))))))
theorem ok_holds_of (m_isinstance : mg "isinstance" = none) (m_str : mg "str" = none) (m_all : mg "all" = none) (m_any : mg "any" = none) (c_holds_word : CalD P w K mg base 5 "holds_word" 3 g_holds_word) {fa : Addr} {fd : FuncData} (Fn : Fun K "holds_of" "holds_of" s_holds_of fa fd) (gm : mg "holds_of" = some (.ref fa)) (bn : Binds K fd ["plan", "marks", "claim"] []) : ∀ k, CalD P w K mg base (5 + k) "holds_of" 3 (gr_holds_of k)
  | 0 => ⟨fa, fd, ["plan", "marks", "claim"], cal_no, gm, Fn.kp, bn⟩
  | k + 1 => by
    have ih := ok_holds_of m_isinstance m_str m_all m_any c_holds_word Fn gm bn k
    refine ⟨fa, fd, _, def_ok (k := 5 + k) Fn sc_holds_of fun cdv A outer s H E hr => ?_, gm, Fn.kp, bn⟩
    have u0 := hr.units0
    have u1 := hu_of hr
    have u64 := hr.units
    have u65 := u65_of hr
    have u10 := u10_of hr
    have u20 := u20_of hr
    have hN := sc_holds_of.nd
    have tk := bX_takes (P := P) (w := w) (K := K) (mg := mg) (base := base) (N := ["plan", "marks", "claim", "some", "one"]) (qual := "holds_of") (st := s_holds_of) (f := fa) (cdv := cdv) (A := A) (outer := outer) (s := s) (H := H) (E := E)
    have hp := bX_pass (P := P) (w := w) (K := K) (mg := mg) (base := base) (N := ["plan", "marks", "claim", "some", "one"]) (qual := "holds_of") (st := s_holds_of) (f := fa) (cdv := cdv) (A := A) (outer := outer) (s := s) (H := H) (E := E)
    refine dss_cons (ds_if (dt_val (db (de_isi (db (de_var 2)) (kit_str _) m_isinstance m_str rfl)))
          (dss_one (ds_ret (de_call c_holds_word hr (by omega) tk (da_cons (de_var 0) (da_cons (de_var 1) (da_cons (de_var 2) da_nil))))))
          dss_nil) ?_
    refine dss_cons (ds_ownLc 3 (own := [("one", 4)]) rfl hN rfl (dj_seq (db (de_sl (db (de_var 2)) (do_some (db de_int)) do_none))) (blkOk_by (by kernel_rfl)) (by decide) (fun _ _ _ _ _ => (dg_name 4 hN)) (fun _ _ _ _ _ => dts_nil) (fun _ _ _ _ _ => (de_call ih hr (by omega) tN0 (da_cons (de_var 0) (da_cons (de_var 1) (da_cons (de_var 4) da_nil)))))) ?_
    exact (dss_one (ds_ret (de_if (dt_cmp (cm_eq u64) (db (de_ix u1 (db (de_var 2)) (db de_int))) (db de_str)) (d_callB mo_c (ca_all rfl) (dq_cons (db_var 3) dq_nil) m_all rfl) (d_callB mo_c (ca_any rfl) (dq_cons (db_var 3) dq_nil) m_any rfl))))
theorem ok_tos_of (m_range : mg "range" = none) (c_all_ways : CalD P w K mg base 3 "all_ways" 2 g_all_ways) (c_doors_of : CalD P w K mg base 1 "doors_of" 2 g_doors_of) {fa : Addr} {fd : FuncData} (Fn : Fun K "tos_of" "tos_of" s_tos_of fa fd) : FnOk P w K mg base (L2N.CX P w) 4 fa fd ["plan"] (spD K mg 1 g_tos_of) := by
  refine def_ok Fn sc_tos_of fun cdv A outer s H E hr => ?_
  have u0 := hr.units0
  have u1 := hu_of hr
  have u64 := hr.units
  have u65 := u65_of hr
  have u10 := u10_of hr
  have u20 := u20_of hr
  have hN := sc_tos_of.nd
  have tk := bX_takes (P := P) (w := w) (K := K) (mg := mg) (base := base) (N := ["plan", "house", "ways", "made", "near", "door"]) (qual := "tos_of") (st := s_tos_of) (f := fa) (cdv := cdv) (A := A) (outer := outer) (s := s) (H := H) (E := E)
  have hp := bX_pass (P := P) (w := w) (K := K) (mg := mg) (base := base) (N := ["plan", "house", "ways", "made", "near", "door"]) (qual := "tos_of") (st := s_tos_of) (f := fa) (cdv := cdv) (A := A) (outer := outer) (s := s) (H := H) (E := E)
  refine dss_cons (ds_parT (is := [2, 3]) rfl (dm_sh (de_call c_all_ways hr (by decide) tk (da_cons (de_var 0) (da_cons de_int da_nil))) (dm_ow (df_lst da_nil) dm_nil)) (pgs_cons (pg_name (i := 2) hN rfl (by first | exact Or.inl rfl | exact Or.inr rfl)) (pgs_cons (pg_name (i := 3) hN rfl (by first | exact Or.inl rfl | exact Or.inr rfl)) pgs_nil)) (by decide)) ?_
  refine dss_cons (ds_for hp rfl (di_range1 (dq_cons (db (de_ix u1 (db (de_var 0)) (db de_int))) dq_nil) m_range) (dg_name 1 hN)
        (dss_cons (ds_ownLc 4 (own := [("door", 5)]) rfl hN rfl (dj_seq (db (de_call c_doors_of hr (by decide) tk (da_cons (de_var 0) (da_cons (de_var 1) da_nil))))) (blkOk_by (by kernel_rfl)) (by decide) (fun _ _ _ _ _ => (dg_name 5 hN)) (fun _ _ _ _ _ => (dts_one (dt_cmp (cm_eq u64) (db (de_ix u1 (db (de_var 2)) (db (de_var 5)))) (db (de_op op_subD (db (de_ix u1 (db (de_var 2)) (db (de_var 1)))) (db de_int)))))) (fun _ _ _ _ _ => (de_var 5)))
        (dss_one (ds_append 3 (de_if (dt_cmp (cm_ne u64) (db_var 4) (db (df (df_lst da_nil)))) (de_ix u1 (db_var 4) (db de_int)) (de_neg (db de_int))))))) ?_
  exact (dss_one (ds_frz 3 (ds_ret (de_var 3))))
theorem ok_below_of (m_sum : mg "sum" = none) (m_range : mg "range" = none) (m_len : mg "len" = none) {fa : Addr} {fd : FuncData} (Fn : Fun K "below_of" "below_of" s_below_of fa fd) (gm : mg "below_of" = some (.ref fa)) (bn : Binds K fd ["tos", "worths", "house"] []) : ∀ k, CalD P w K mg base (0 + k) "below_of" 3 (gr_below_of k)
  | 0 => ⟨fa, fd, ["tos", "worths", "house"], cal_no, gm, Fn.kp, bn⟩
  | k + 1 => by
    have ih := ok_below_of m_sum m_range m_len Fn gm bn k
    refine ⟨fa, fd, _, def_ok (k := 0 + k) Fn sc_below_of fun cdv A outer s H E hr => ?_, gm, Fn.kp, bn⟩
    have u0 := hr.units0
    have u1 := hu_of hr
    have u64 := hr.units
    have u65 := u65_of hr
    have u10 := u10_of hr
    have u20 := u20_of hr
    have hN := sc_below_of.nd
    have tk := bX_takes (P := P) (w := w) (K := K) (mg := mg) (base := base) (N := ["tos", "worths", "house", "one"]) (qual := "below_of") (st := s_below_of) (f := fa) (cdv := cdv) (A := A) (outer := outer) (s := s) (H := H) (E := E)
    have hp := bX_pass (P := P) (w := w) (K := K) (mg := mg) (base := base) (N := ["tos", "worths", "house", "one"]) (qual := "below_of") (st := s_below_of) (f := fa) (cdv := cdv) (A := A) (outer := outer) (s := s) (H := H) (E := E)
    exact (dss_one (ds_ret (de_op op_addD (db (de_ix u1 (db (de_var 1)) (db (de_var 2)))) (db (d_callB mo_c (ca_sum2 rfl) (dq_cons (db (df (df_lc (own := [("one", 3)]) rfl hN (dj_range1 (dq_cons (db (d_callB mo_c ca_len2 (dq_cons (db (de_var 0)) dq_nil) m_len rfl)) dq_nil) m_range) (blkOk_by (by kernel_rfl)) (by decide) (fun _ _ _ _ _ => (dg_name 3 hN)) (fun _ _ _ _ _ => (dts_one (dt_cmp (cm_eq u64) (db (de_ix u1 (db (de_var 0)) (db (de_var 3)))) (db (de_var 2))))) (fun _ _ _ _ _ => (de_call ih hr (by omega) tN0 (da_cons (de_var 0) (da_cons (de_var 1) (da_cons (de_var 3) da_nil)))))))) dq_nil) m_sum rfl)))))
theorem ok_tree_letters (m_range : mg "range" = none) (c_tos_of : CalD P w K mg base 4 "tos_of" 1 g_tos_of) (c_all_ways : CalD P w K mg base 3 "all_ways" 2 g_all_ways) (c_below_of : CalD P w K mg base 10 "below_of" 3 g_below_of) {fa : Addr} {fd : FuncData} (Fn : Fun K "tree_letters" "tree_letters" s_tree_letters fa fd) : FnOk P w K mg base (L2N.CX P w) 11 fa fd ["plan", "worths", "many"] (spD K mg 3 g_tree_letters) := by
  refine def_ok Fn sc_tree_letters fun cdv A outer s H E hr => ?_
  have u0 := hr.units0
  have u1 := hu_of hr
  have u64 := hr.units
  have u65 := u65_of hr
  have u10 := u10_of hr
  have u20 := u20_of hr
  have hN := sc_tree_letters.nd
  have tk := bX_takes (P := P) (w := w) (K := K) (mg := mg) (base := base) (N := ["plan", "worths", "many", "house", "ways", "tos", "made", "below"]) (qual := "tree_letters") (st := s_tree_letters) (f := fa) (cdv := cdv) (A := A) (outer := outer) (s := s) (H := H) (E := E)
  have hp := bX_pass (P := P) (w := w) (K := K) (mg := mg) (base := base) (N := ["plan", "worths", "many", "house", "ways", "tos", "made", "below"]) (qual := "tree_letters") (st := s_tree_letters) (f := fa) (cdv := cdv) (A := A) (outer := outer) (s := s) (H := H) (E := E)
  refine dss_cons (ds_par3 rfl hN (dm_sh (de_call c_all_ways hr (by decide) tk (da_cons (de_var 0) (da_cons de_int da_nil))) (dm_sh (de_call c_tos_of hr (by decide) tk (da_cons (de_var 0) da_nil)) (dm_ow (df_lst da_nil) dm_nil))) (by decide) (by decide) (by decide) rfl rfl rfl) ?_
  refine dss_cons (ds_for hp rfl (di_range1 (dq_cons (db (de_ix u1 (db (de_var 0)) (db de_int))) dq_nil) m_range) (dg_name 3 hN)
        (dss_cons (ds_set 7 hN (de_call c_below_of hr (by decide) tk (da_cons (de_var 5) (da_cons (de_var 1) (da_cons (de_var 3) da_nil)))))
        (dss_one (ds_append 6 (de_tup (da_cons (de_ix u1 (db (de_var 4)) (db (de_var 3))) (da_cons (de_ix u1 (db (de_var 5)) (db (de_var 3))) (da_cons (de_if (dt_cmp (cm_eq u64) (db (de_var 2)) (db de_int)) (de_var 7) (de_op op_modD (db (de_var 7)) (db (de_var 2)))) da_nil)))))))) ?_
  exact (dss_one (ds_frz 6 (ds_ret (de_var 6))))
theorem ok_joined_letters (m_range : mg "range" = none) (c_marked : CalD P w K mg base 1 "marked" 1 g_marked) (c_ways_from : CalD P w K mg base 2 "ways_from" 3 g_ways_from) (c_all_ways : CalD P w K mg base 3 "all_ways" 2 g_all_ways) {fa : Addr} {fd : FuncData} (Fn : Fun K "joined_letters" "joined_letters" s_joined_letters fa fd) : FnOk P w K mg base (L2N.CX P w) 4 fa fd ["plan", "marks"] (spD K mg 2 g_joined_letters) := by
  refine def_ok Fn sc_joined_letters fun cdv A outer s H E hr => ?_
  have u0 := hr.units0
  have u1 := hu_of hr
  have u64 := hr.units
  have u65 := u65_of hr
  have u10 := u10_of hr
  have u20 := u20_of hr
  have hN := sc_joined_letters.nd
  have tk := bX_takes (P := P) (w := w) (K := K) (mg := mg) (base := base) (N := ["plan", "marks", "some", "ways", "steps", "house"]) (qual := "joined_letters") (st := s_joined_letters) (f := fa) (cdv := cdv) (A := A) (outer := outer) (s := s) (H := H) (E := E)
  have hp := bX_pass (P := P) (w := w) (K := K) (mg := mg) (base := base) (N := ["plan", "marks", "some", "ways", "steps", "house"]) (qual := "joined_letters") (st := s_joined_letters) (f := fa) (cdv := cdv) (A := A) (outer := outer) (s := s) (H := H) (E := E)
  refine dss_cons (ds_set 2 hN (de_call c_marked hr (by decide) tk (da_cons (de_var 1) da_nil))) ?_
  refine dss_cons (ds_parT (is := [3, 4]) rfl (dm_sh (de_call c_all_ways hr (by decide) tk (da_cons (de_var 0) (da_cons (de_ix u1 (db (de_var 2)) (db de_int)) da_nil))) (dm_sh (de_call c_ways_from hr (by decide) tk (da_cons (de_var 0) (da_cons (de_ix u1 (db (de_var 2)) (db de_int)) (da_cons (de_var 2) da_nil)))) dm_nil)) (pgs_cons (pg_name (i := 3) hN rfl (by first | exact Or.inl rfl | exact Or.inr rfl)) (pgs_cons (pg_name (i := 4) hN rfl (by first | exact Or.inl rfl | exact Or.inr rfl)) pgs_nil)) (by decide)) ?_
  exact (dss_one (ds_ret (df (df_lc (own := [("house", 5)]) rfl hN (dj_range1 (dq_cons (db (de_ix u1 (db (de_var 0)) (db de_int))) dq_nil) m_range) (blkOk_by (by kernel_rfl)) (by decide) (fun _ _ _ _ _ => (dg_name 5 hN)) (fun _ _ _ _ _ => dts_nil) (fun _ _ _ _ _ => (de_tup (da_cons (de_ix u1 (db (de_var 2)) (db de_int)) (da_cons (de_ix u1 (db (de_var 3)) (db (de_var 5))) (da_cons (de_get u1 (db (de_var 4)) (db (de_var 5)) (de_neg (db de_int))) da_nil)))))))))
theorem ok_word_letters (m_range : mg "range" = none) (c_steps_by : CalD P w K mg base 1 "steps_by" 2 g_steps_by) (c_all_ways : CalD P w K mg base 3 "all_ways" 2 g_all_ways) (c_joined_letters : CalD P w K mg base 4 "joined_letters" 2 g_joined_letters) (c_tree_letters : CalD P w K mg base 11 "tree_letters" 3 g_tree_letters) {fa : Addr} {fd : FuncData} (Fn : Fun K "word_letters" "word_letters" s_word_letters fa fd) : FnOk P w K mg base (L2N.CX P w) 12 fa fd ["plan", "marks", "word"] (spD K mg 3 g_word_letters) := by
  refine def_ok Fn sc_word_letters fun cdv A outer s H E hr => ?_
  have u0 := hr.units0
  have u1 := hu_of hr
  have u64 := hr.units
  have u65 := u65_of hr
  have u10 := u10_of hr
  have u20 := u20_of hr
  have hN := sc_word_letters.nd
  have tk := bX_takes (P := P) (w := w) (K := K) (mg := mg) (base := base) (N := ["plan", "marks", "word", "many", "root", "house"]) (qual := "word_letters") (st := s_word_letters) (f := fa) (cdv := cdv) (A := A) (outer := outer) (s := s) (H := H) (E := E)
  have hp := bX_pass (P := P) (w := w) (K := K) (mg := mg) (base := base) (N := ["plan", "marks", "word", "many", "root", "house"]) (qual := "word_letters") (st := s_word_letters) (f := fa) (cdv := cdv) (A := A) (outer := outer) (s := s) (H := H) (E := E)
  refine dss_cons (ds_set 3 hN (de_ix u1 (db (de_var 0)) (db de_int))) ?_
  refine dss_cons (ds_if (dt_cmp (cm_in u65) (db (de_var 2)) (db (de_tup (da_cons de_str (da_cons de_str da_nil)))))
        (dss_one (ds_ret (de_op op_mulD (db (df (df_lst (da_cons (de_tup da_nil) da_nil)))) (db (de_var 3)))))
        dss_nil) ?_
  refine dss_cons (ds_if (dt_cmp (cm_eq u64) (db (de_var 2)) (db de_str))
        (dss_one (ds_ret (df (df_lc (own := [("house", 5)]) rfl hN (dj_range1 (dq_cons (db (de_var 3)) dq_nil) m_range) (blkOk_by (by kernel_rfl)) (by decide) (fun _ _ _ _ _ => (dg_name 5 hN)) (fun _ _ _ _ _ => dts_nil) (fun _ _ _ _ _ => (de_tup (da_cons (de_tindex (db (de_var 1)) (dq_cons (db (de_neg (db de_int))) dq_nil)) (da_cons (de_call c_steps_by hr (by decide) tN0 (da_cons (de_var 1) (da_cons (de_var 5) da_nil))) da_nil))))))))
        dss_nil) ?_
  refine dss_cons (ds_if (dt_cmp (cm_eq u64) (db (de_var 2)) (db de_str))
        (dss_cons (ds_set 4 hN (de_tindex (db (de_var 1)) (dq_cons (db de_int) dq_nil)))
        (dss_one (ds_ret (df (df_lc (own := [("house", 5)]) rfl hN (dj_range1 (dq_cons (db (de_var 3)) dq_nil) m_range) (blkOk_by (by kernel_rfl)) (by decide) (fun _ _ _ _ _ => (dg_name 5 hN)) (fun _ _ _ _ _ => dts_nil) (fun _ _ _ _ _ => (de_tup (da_cons (de_var 4) (da_cons (de_ix u1 (db (de_call c_all_ways hr (by decide) tN0 (da_cons (de_var 0) (da_cons (de_var 4) da_nil)))) (db (de_var 5))) da_nil)))))))))
        dss_nil) ?_
  refine dss_cons (ds_if (dt_cmp (cm_eq u64) (db (de_var 2)) (db de_str))
        (dss_one (ds_ret (df (df_lc (own := [("house", 5)]) rfl hN (dj_range1 (dq_cons (db (de_var 3)) dq_nil) m_range) (blkOk_by (by kernel_rfl)) (by decide) (fun _ _ _ _ _ => (dg_name 5 hN)) (fun _ _ _ _ _ => dts_nil) (fun _ _ _ _ _ => (de_tup (da_cons (de_ix u1 (db (de_call c_all_ways hr (by decide) tN0 (da_cons (de_var 0) (da_cons de_int da_nil)))) (db (de_var 5))) da_nil)))))))
        dss_nil) ?_
  refine dss_cons (ds_if (dt_cmp (cm_eq u64) (db (de_var 2)) (db de_str))
        (dss_one (ds_ret (de_call c_joined_letters hr (by decide) tk (da_cons (de_var 0) (da_cons (de_var 1) da_nil)))))
        dss_nil) ?_
  exact (dss_one (ds_ret (de_call c_tree_letters hr (by decide) tk (da_cons (de_var 0) (da_cons (de_if (dt_cmp (cm_eq u64) (db (de_var 2)) (db de_str)) (de_op op_mulD (db (df (df_lst (da_cons de_int da_nil)))) (db (de_var 3))) (de_var 1)) (da_cons (de_if (dt_cmp (cm_eq u64) (db (de_var 2)) (db de_str)) de_int de_int) da_nil))))))
theorem ok_letters_of (m_isinstance : mg "isinstance" = none) (m_str : mg "str" = none) (m_list : mg "list" = none) (m_zip : mg "zip" = none) (c_word_letters : CalD P w K mg base 12 "word_letters" 3 g_word_letters) (c_holds_of : CalD P w K mg base 9 "holds_of" 3 g_holds_of) {fa : Addr} {fd : FuncData} (Fn : Fun K "letters_of" "letters_of" s_letters_of fa fd) (gm : mg "letters_of" = some (.ref fa)) (bn : Binds K fd ["plan", "marks", "claim"] []) : ∀ k, CalD P w K mg base (12 + k) "letters_of" 3 (gr_letters_of k)
  | 0 => ⟨fa, fd, ["plan", "marks", "claim"], cal_no, gm, Fn.kp, bn⟩
  | k + 1 => by
    have ih := ok_letters_of m_isinstance m_str m_list m_zip c_word_letters c_holds_of Fn gm bn k
    refine ⟨fa, fd, _, def_ok (k := 12 + k) Fn sc_letters_of fun cdv A outer s H E hr => ?_, gm, Fn.kp, bn⟩
    have u0 := hr.units0
    have u1 := hu_of hr
    have u64 := hr.units
    have u65 := u65_of hr
    have u10 := u10_of hr
    have u20 := u20_of hr
    have hN := sc_letters_of.nd
    have tk := bX_takes (P := P) (w := w) (K := K) (mg := mg) (base := base) (N := ["plan", "marks", "claim", "at", "letter"]) (qual := "letters_of") (st := s_letters_of) (f := fa) (cdv := cdv) (A := A) (outer := outer) (s := s) (H := H) (E := E)
    have hp := bX_pass (P := P) (w := w) (K := K) (mg := mg) (base := base) (N := ["plan", "marks", "claim", "at", "letter"]) (qual := "letters_of") (st := s_letters_of) (f := fa) (cdv := cdv) (A := A) (outer := outer) (s := s) (H := H) (E := E)
    refine dss_cons (ds_if (dt_val (db (de_isi (db (de_var 2)) (kit_str _) m_isinstance m_str rfl)))
          (dss_one (ds_ret (de_call c_word_letters hr (by omega) tk (da_cons (de_var 0) (da_cons (de_var 1) (da_cons (de_var 2) da_nil))))))
          dss_nil) ?_
    refine dss_cons (ds_if (dt_cmp (cm_eq u64) (db (de_ix u1 (db (de_var 2)) (db de_int))) (db de_str))
          (dss_one (ds_ret (df (df_lzip (dq_cons (db (de_call ih hr (by omega) tk (da_cons (de_var 0) (da_cons (de_var 1) (da_cons (de_ix u1 (db (de_var 2)) (db de_int)) da_nil))))) (dq_cons (db (de_call ih hr (by omega) tk (da_cons (de_var 0) (da_cons (de_var 1) (da_cons (de_ix u1 (db (de_var 2)) (db de_int)) da_nil))))) dq_nil)) m_list m_zip))))
          dss_nil) ?_
    refine dss_cons (ds_set 3 hN (de_if (dt_val (db (de_call c_holds_of hr (by omega) tk (da_cons (de_var 0) (da_cons (de_var 1) (da_cons (de_ix u1 (db (de_var 2)) (db de_int)) da_nil)))))) de_int de_int)) ?_
    exact (dss_one (ds_ret (df (df_lc (own := [("letter", 4)]) rfl hN (dj_seq (db (de_call ih hr (by omega) tk (da_cons (de_var 0) (da_cons (de_var 1) (da_cons (de_ix u1 (db (de_var 2)) (db (de_op op_addD (db de_int) (db (de_var 3))))) da_nil)))))) (blkOk_by (by kernel_rfl)) (by decide) (fun _ _ _ _ _ => (dg_name 4 hN)) (fun _ _ _ _ _ => dts_nil) (fun _ _ _ _ _ => (de_tup (da_cons (de_var 3) (da_cons (de_var 4) da_nil))))))))
theorem ok_view_of (m_tuple : mg "tuple" = none) (c_doors_of : CalD P w K mg base 1 "doors_of" 2 g_doors_of) {fa : Addr} {fd : FuncData} (Fn : Fun K "view_of" "view_of" s_view_of fa fd) : FnOk P w K mg base (L2N.CX P w) 2 fa fd ["plan", "marks", "letters", "house"] (spD K mg 4 g_view_of) := by
  refine def_ok Fn sc_view_of fun cdv A outer s H E hr => ?_
  have u0 := hr.units0
  have u1 := hu_of hr
  have u64 := hr.units
  have u65 := u65_of hr
  have u10 := u10_of hr
  have u20 := u20_of hr
  have hN := sc_view_of.nd
  have tk := bX_takes (P := P) (w := w) (K := K) (mg := mg) (base := base) (N := ["plan", "marks", "letters", "house", "doors", "door"]) (qual := "view_of") (st := s_view_of) (f := fa) (cdv := cdv) (A := A) (outer := outer) (s := s) (H := H) (E := E)
  have hp := bX_pass (P := P) (w := w) (K := K) (mg := mg) (base := base) (N := ["plan", "marks", "letters", "house", "doors", "door"]) (qual := "view_of") (st := s_view_of) (f := fa) (cdv := cdv) (A := A) (outer := outer) (s := s) (H := H) (E := E)
  refine dss_cons (ds_set 4 hN (d_callTy mo_c ca_tuple (dq_cons (db (df (df_lc (own := [("door", 5)]) rfl hN (dj_seq (db (de_call c_doors_of hr (by decide) tk (da_cons (de_var 0) (da_cons (de_var 3) da_nil))))) (blkOk_by (by kernel_rfl)) (by decide) (fun _ _ _ _ _ => (dg_name 5 hN)) (fun _ _ _ _ _ => dts_nil) (fun _ _ _ _ _ => (de_tup (da_cons (de_var 5) (da_cons (de_ix u1 (db (de_var 1)) (db (de_var 5))) (da_cons (de_ix u1 (db (de_var 2)) (db (de_var 5))) da_nil)))))))) dq_nil) m_tuple rfl)) ?_
  exact (dss_one (ds_ret (de_tup (da_cons (de_var 3) (da_cons (de_ix u1 (db (de_var 1)) (db (de_var 3))) (da_cons (de_ix u1 (db (de_var 2)) (db (de_var 3))) (da_cons (de_var 4) da_nil)))))))
theorem ok_are_wholes (m_all : mg "all" = none) (m_len : mg "len" = none) (m_isinstance : mg "isinstance" = none) (m_tuple : mg "tuple" = none) (c_is_any_whole : CalD P w K mg base 1 "is_any_whole" 1 g_is_any_whole) {fa : Addr} {fd : FuncData} (Fn : Fun K "are_wholes" "are_wholes" s_are_wholes fa fd) : FnOk P w K mg base (L2N.CX P w) 2 fa fd ["letter", "many"] (spD K mg 2 g_are_wholes) := by
  refine def_ok Fn sc_are_wholes fun cdv A outer s H E hr => ?_
  have u0 := hr.units0
  have u1 := hu_of hr
  have u64 := hr.units
  have u65 := u65_of hr
  have u10 := u10_of hr
  have u20 := u20_of hr
  have hN := sc_are_wholes.nd
  have tk := bX_takes (P := P) (w := w) (K := K) (mg := mg) (base := base) (N := ["letter", "many", "one"]) (qual := "are_wholes") (st := s_are_wholes) (f := fa) (cdv := cdv) (A := A) (outer := outer) (s := s) (H := H) (E := E)
  have hp := bX_pass (P := P) (w := w) (K := K) (mg := mg) (base := base) (N := ["letter", "many", "one"]) (qual := "are_wholes") (st := s_are_wholes) (f := fa) (cdv := cdv) (A := A) (outer := outer) (s := s) (H := H) (E := E)
  exact (dss_one (ds_ret (de_and (db (de_isi (db (de_var 0)) (kit_tuple _) m_isinstance m_tuple rfl)) (de_and (db (de_cmp (cm_eq u64) (db (d_callB mo_c ca_len2 (dq_cons (db (de_var 0)) dq_nil) m_len rfl)) (db (de_var 1)))) (de_one (d_callB mo_c (ca_all rfl) (dq_cons (db (df (df_lc (own := [("one", 2)]) rfl hN (dj_seq (db (de_var 0))) (blkOk_by (by kernel_rfl)) (by decide) (fun _ _ _ _ _ => (dg_name 2 hN)) (fun _ _ _ _ _ => dts_nil) (fun _ _ _ _ _ => (de_call c_is_any_whole hr (by decide) tN0 (da_cons (de_var 2) da_nil)))))) dq_nil) m_all rfl))))))
theorem ok_says_leads (m_any : mg "any" = none) {fa : Addr} {fd : FuncData} (Fn : Fun K "says_leads" "says_leads" s_says_leads fa fd) : FnOk P w K mg base (L2N.CX P w) 1 fa fd ["here", "mark", "letter", "doors"] (spD K mg 4 g_says_leads) := by
  refine def_ok Fn sc_says_leads fun cdv A outer s H E hr => ?_
  have u0 := hr.units0
  have u1 := hu_of hr
  have u64 := hr.units
  have u65 := u65_of hr
  have u10 := u10_of hr
  have u20 := u20_of hr
  have hN := sc_says_leads.nd
  have tk := bX_takes (P := P) (w := w) (K := K) (mg := mg) (base := base) (N := ["here", "mark", "letter", "doors", "root", "far", "door"]) (qual := "says_leads") (st := s_says_leads) (f := fa) (cdv := cdv) (A := A) (outer := outer) (s := s) (H := H) (E := E)
  have hp := bX_pass (P := P) (w := w) (K := K) (mg := mg) (base := base) (N := ["here", "mark", "letter", "doors", "root", "far", "door"]) (qual := "says_leads") (st := s_says_leads) (f := fa) (cdv := cdv) (A := A) (outer := outer) (s := s) (H := H) (E := E)
  refine dss_cons (ds_asg (de_var 2) (dga_sq rfl (dgas_cons (dga_name 4 hN) (dgas_cons (dga_name 5 hN) dgas_nil)) (as_lenS (as_lenS as_len0)))) ?_
  refine dss_cons (ds_if (dt_val (db (d_callB mo_c (ca_any rfl) (dq_cons (db (df (df_lc (own := [("door", 6)]) rfl hN (dj_seq (db (de_var 3))) (blkOk_by (by kernel_rfl)) (by decide) (fun _ _ _ _ _ => (dg_name 6 hN)) (fun _ _ _ _ _ => dts_nil) (fun _ _ _ _ _ => (de_cmp (cm_ne u64) (db (de_ix u1 (db (de_ix u1 (db (de_var 6)) (db de_int))) (db de_int))) (db (de_var 4))))))) dq_nil) m_any rfl)))
        (dss_one (ds_ret de_bl))
        dss_nil) ?_
  refine dss_cons (ds_if (dt_cmp (cm_eq u64) (db (de_var 1)) (db (de_neg (db de_int))))
        (dss_one (ds_ret (de_and (db (de_cmp (cm_eq u64) (db (de_var 5)) (db de_int))) (de_one (de_cmp (cm_eq u64) (db (de_var 4)) (db (de_var 0)))))))
        dss_nil) ?_
  exact (dss_one (ds_ret (de_and (db (de_cmp cm_gt (db (de_var 5)) (db de_int))) (de_one (d_callB mo_c (ca_any rfl) (dq_cons (db (df (df_lc (own := [("door", 6)]) rfl hN (dj_seq (db (de_var 3))) (blkOk_by (by kernel_rfl)) (by decide) (fun _ _ _ _ _ => (dg_name 6 hN)) (fun _ _ _ _ _ => dts_nil) (fun _ _ _ _ _ => (de_and (db (de_cmp (cm_eq u64) (db (de_ix u1 (db (de_var 6)) (db de_int))) (db (de_var 1)))) (de_one (de_cmp (cm_eq u64) (db (de_ix u1 (db (de_ix u1 (db (de_var 6)) (db de_int))) (db de_int))) (db (de_op op_subD (db (de_var 5)) (db de_int)))))))))) dq_nil) m_any rfl)))))
theorem ok_says_one (m_any : mg "any" = none) {fa : Addr} {fd : FuncData} (Fn : Fun K "says_one" "says_one" s_says_one fa fd) : FnOk P w K mg base (L2N.CX P w) 1 fa fd ["here", "mark", "letter", "doors"] (spD K mg 4 g_says_one) := by
  refine def_ok Fn sc_says_one fun cdv A outer s H E hr => ?_
  have u0 := hr.units0
  have u1 := hu_of hr
  have u64 := hr.units
  have u65 := u65_of hr
  have u10 := u10_of hr
  have u20 := u20_of hr
  have hN := sc_says_one.nd
  have tk := bX_takes (P := P) (w := w) (K := K) (mg := mg) (base := base) (N := ["here", "mark", "letter", "doors", "root", "far", "door"]) (qual := "says_one") (st := s_says_one) (f := fa) (cdv := cdv) (A := A) (outer := outer) (s := s) (H := H) (E := E)
  have hp := bX_pass (P := P) (w := w) (K := K) (mg := mg) (base := base) (N := ["here", "mark", "letter", "doors", "root", "far", "door"]) (qual := "says_one") (st := s_says_one) (f := fa) (cdv := cdv) (A := A) (outer := outer) (s := s) (H := H) (E := E)
  refine dss_cons (ds_asg (de_var 2) (dga_sq rfl (dgas_cons (dga_name 4 hN) (dgas_cons (dga_name 5 hN) dgas_nil)) (as_lenS (as_lenS as_len0)))) ?_
  refine dss_cons (ds_if (dt_val (db (d_callB mo_c (ca_any rfl) (dq_cons (db (df (df_lc (own := [("door", 6)]) rfl hN (dj_seq (db (de_var 3))) (blkOk_by (by kernel_rfl)) (by decide) (fun _ _ _ _ _ => (dg_name 6 hN)) (fun _ _ _ _ _ => dts_nil) (fun _ _ _ _ _ => (de_cmp (cm_ne u64) (db (de_ix u1 (db (de_ix u1 (db (de_var 6)) (db de_int))) (db de_int))) (db (de_var 4))))))) dq_nil) m_any rfl)))
        (dss_one (ds_ret de_bl))
        dss_nil) ?_
  refine dss_cons (ds_if (dt_cmp (cm_eq u64) (db (de_var 1)) (db de_int))
        (dss_one (ds_ret (de_and (db (de_cmp (cm_eq u64) (db (de_var 5)) (db de_int))) (de_one (de_cmp (cm_eq u64) (db (de_var 4)) (db (de_var 0)))))))
        dss_nil) ?_
  exact (dss_one (ds_ret (de_and (db (de_cmp (cm_eq u64) (db (de_var 1)) (db de_int))) (de_and (db (de_cmp cm_gt (db (de_var 5)) (db de_int))) (de_one (d_callB mo_c (ca_any rfl) (dq_cons (db (df (df_lc (own := [("door", 6)]) rfl hN (dj_seq (db (de_var 3))) (blkOk_by (by kernel_rfl)) (by decide) (fun _ _ _ _ _ => (dg_name 6 hN)) (fun _ _ _ _ _ => dts_nil) (fun _ _ _ _ _ => (de_cmp (cm_eq u64) (db (de_ix u1 (db (de_ix u1 (db (de_var 6)) (db de_int))) (db de_int))) (db (de_op op_subD (db (de_var 5)) (db de_int)))))))) dq_nil) m_any rfl))))))
theorem ok_says_two (m_any : mg "any" = none) {fa : Addr} {fd : FuncData} (Fn : Fun K "says_two" "says_two" s_says_two fa fd) : FnOk P w K mg base (L2N.CX P w) 1 fa fd ["mark", "doors"] (spD K mg 2 g_says_two) := by
  refine def_ok Fn sc_says_two fun cdv A outer s H E hr => ?_
  have u0 := hr.units0
  have u1 := hu_of hr
  have u64 := hr.units
  have u65 := u65_of hr
  have u10 := u10_of hr
  have u20 := u20_of hr
  have hN := sc_says_two.nd
  have tk := bX_takes (P := P) (w := w) (K := K) (mg := mg) (base := base) (N := ["mark", "doors", "door"]) (qual := "says_two") (st := s_says_two) (f := fa) (cdv := cdv) (A := A) (outer := outer) (s := s) (H := H) (E := E)
  have hp := bX_pass (P := P) (w := w) (K := K) (mg := mg) (base := base) (N := ["mark", "doors", "door"]) (qual := "says_two") (st := s_says_two) (f := fa) (cdv := cdv) (A := A) (outer := outer) (s := s) (H := H) (E := E)
  exact (dss_one (ds_ret (de_and (db (de_cmp (cm_in u65) (db (de_var 0)) (db (de_tup (da_cons de_int (da_cons de_int da_nil)))))) (de_one (de_not (db (d_callB mo_c (ca_any rfl) (dq_cons (db (df (df_lc (own := [("door", 2)]) rfl hN (dj_seq (db (de_var 1))) (blkOk_by (by kernel_rfl)) (by decide) (fun _ _ _ _ _ => (dg_name 2 hN)) (fun _ _ _ _ _ => dts_nil) (fun _ _ _ _ _ => (de_cmp (cm_eq u64) (db (de_ix u1 (db (de_var 2)) (db de_int))) (db (de_var 0))))))) dq_nil) m_any rfl)))))))
theorem ok_says_wells (m_min : mg "min" = none) {fa : Addr} {fd : FuncData} (Fn : Fun K "says_wells" "says_wells" s_says_wells fa fd) : FnOk P w K mg base (L2N.CX P w) 1 fa fd ["mark", "doors"] (spD K mg 2 g_says_wells) := by
  refine def_ok Fn sc_says_wells fun cdv A outer s H E hr => ?_
  have u0 := hr.units0
  have u1 := hu_of hr
  have u64 := hr.units
  have u65 := u65_of hr
  have u10 := u10_of hr
  have u20 := u20_of hr
  have hN := sc_says_wells.nd
  have tk := bX_takes (P := P) (w := w) (K := K) (mg := mg) (base := base) (N := ["mark", "doors", "least", "door"]) (qual := "says_wells") (st := s_says_wells) (f := fa) (cdv := cdv) (A := A) (outer := outer) (s := s) (H := H) (E := E)
  have hp := bX_pass (P := P) (w := w) (K := K) (mg := mg) (base := base) (N := ["mark", "doors", "least", "door"]) (qual := "says_wells") (st := s_says_wells) (f := fa) (cdv := cdv) (A := A) (outer := outer) (s := s) (H := H) (E := E)
  refine dss_cons (ds_if (dt_w (dw_or (dt_cmp cm_le (db (de_var 0)) (db de_int)) (dw_or1 (dt_cmp (cm_eq u64) (db (de_var 1)) (db (de_tup da_nil))))))
        (dss_one (ds_ret (de_cmp (cm_eq u64) (db (de_var 0)) (db de_int))))
        dss_nil) ?_
  refine dss_cons (ds_set 2 hN (d_callB mo_c (ca_min rfl) (dq_cons (db (df (df_lc (own := [("door", 3)]) rfl hN (dj_seq (db (de_var 1))) (blkOk_by (by kernel_rfl)) (by decide) (fun _ _ _ _ _ => (dg_name 3 hN)) (fun _ _ _ _ _ => dts_nil) (fun _ _ _ _ _ => (de_ix u1 (db (de_var 3)) (db de_int)))))) dq_nil) m_min rfl)) ?_
  exact (dss_one (ds_ret (de_and (db (de_cmp cm_ge (db (de_var 2)) (db de_int))) (de_one (de_cmp (cm_eq u64) (db (de_var 0)) (db (de_op op_addD (db (de_var 2)) (db de_int))))))))
theorem ok_says_joined (m_any : mg "any" = none) {fa : Addr} {fd : FuncData} (Fn : Fun K "says_joined" "says_joined" s_says_joined fa fd) : FnOk P w K mg base (L2N.CX P w) 1 fa fd ["here", "mark", "letter", "doors"] (spD K mg 4 g_says_joined) := by
  refine def_ok Fn sc_says_joined fun cdv A outer s H E hr => ?_
  have u0 := hr.units0
  have u1 := hu_of hr
  have u64 := hr.units
  have u65 := u65_of hr
  have u10 := u10_of hr
  have u20 := u20_of hr
  have hN := sc_says_joined.nd
  have tk := bX_takes (P := P) (w := w) (K := K) (mg := mg) (base := base) (N := ["here", "mark", "letter", "doors", "root", "far", "steps", "door"]) (qual := "says_joined") (st := s_says_joined) (f := fa) (cdv := cdv) (A := A) (outer := outer) (s := s) (H := H) (E := E)
  have hp := bX_pass (P := P) (w := w) (K := K) (mg := mg) (base := base) (N := ["here", "mark", "letter", "doors", "root", "far", "steps", "door"]) (qual := "says_joined") (st := s_says_joined) (f := fa) (cdv := cdv) (A := A) (outer := outer) (s := s) (H := H) (E := E)
  refine dss_cons (ds_asg (de_var 2) (dga_sq rfl (dgas_cons (dga_name 4 hN) (dgas_cons (dga_name 5 hN) (dgas_cons (dga_name 6 hN) dgas_nil))) (as_lenS (as_lenS (as_lenS as_len0))))) ?_
  refine dss_cons (ds_if (dt_w (dw_or (dt_val (db (d_callB mo_c (ca_any rfl) (dq_cons (db (df (df_lc (own := [("door", 7)]) rfl hN (dj_seq (db (de_var 3))) (blkOk_by (by kernel_rfl)) (by decide) (fun _ _ _ _ _ => (dg_name 7 hN)) (fun _ _ _ _ _ => dts_nil) (fun _ _ _ _ _ => (de_cmp (cm_ne u64) (db (de_ix u1 (db (de_ix u1 (db (de_var 7)) (db de_int))) (db de_int))) (db (de_var 4))))))) dq_nil) m_any rfl))) (dw_or1 (dt_cmp (cm_ne u64) (db (de_cmp (cm_eq u64) (db (de_var 5)) (db de_int))) (db (de_cmp (cm_eq u64) (db (de_var 4)) (db (de_var 0))))))))
        (dss_one (ds_ret de_bl))
        dss_nil) ?_
  refine dss_cons (ds_if (dt_w (dw_and (dt_cmp (cm_ne u64) (db (de_var 5)) (db de_int)) (dw_and1 (dt_w (dw_or (dt_cmp (cm_lt u0) (db (de_var 5)) (db de_int)) (dw_or1 (dt_not (dt_val (db (d_callB mo_c (ca_any rfl) (dq_cons (db (df (df_lc (own := [("door", 7)]) rfl hN (dj_seq (db (de_var 3))) (blkOk_by (by kernel_rfl)) (by decide) (fun _ _ _ _ _ => (dg_name 7 hN)) (fun _ _ _ _ _ => dts_nil) (fun _ _ _ _ _ => (de_cmp (cm_eq u64) (db (de_ix u1 (db (de_ix u1 (db (de_var 7)) (db de_int))) (db de_int))) (db (de_op op_subD (db (de_var 5)) (db de_int)))))))) dq_nil) m_any rfl))))))))))
        (dss_one (ds_ret de_bl))
        dss_nil) ?_
  refine dss_cons (ds_if (dt_cmp (cm_eq u64) (db (de_var 1)) (db de_int))
        (dss_one (ds_ret (de_and (db (de_cmp (cm_eq u64) (db (de_var 6)) (db (de_neg (db de_int))))) (de_one (de_cmp (cm_ne u64) (db (de_var 4)) (db (de_var 0)))))))
        dss_nil) ?_
  refine dss_cons (ds_if (dt_w (dw_or (dt_cmp (cm_ne u64) (db (de_var 1)) (db de_int)) (dw_or1 (dt_cmp (cm_eq u64) (db (de_var 4)) (db (de_var 0))))))
        (dss_one (ds_ret (de_and (db (de_cmp (cm_eq u64) (db (de_var 1)) (db de_int))) (de_one (de_cmp (cm_eq u64) (db (de_var 6)) (db de_int))))))
        dss_nil) ?_
  exact (dss_one (ds_ret (de_and (db (de_cmp cm_gt (db (de_var 6)) (db de_int))) (de_one (d_callB mo_c (ca_any rfl) (dq_cons (db (df (df_lc (own := [("door", 7)]) rfl hN (dj_seq (db (de_var 3))) (blkOk_by (by kernel_rfl)) (by decide) (fun _ _ _ _ _ => (dg_name 7 hN)) (fun _ _ _ _ _ => dts_nil) (fun _ _ _ _ _ => (de_and (db (de_cmp (cm_eq u64) (db (de_ix u1 (db (de_var 7)) (db de_int))) (db de_int))) (de_one (de_cmp (cm_eq u64) (db (de_ix u1 (db (de_ix u1 (db (de_var 7)) (db de_int))) (db de_int))) (db (de_op op_subD (db (de_var 6)) (db de_int)))))))))) dq_nil) m_any rfl)))))
theorem ok_says_tree (m_any : mg "any" = none) {fa : Addr} {fd : FuncData} (Fn : Fun K "says_tree" "says_tree" s_says_tree fa fd) : FnOk P w K mg base (L2N.CX P w) 1 fa fd ["here", "letter", "doors"] (spD K mg 3 g_says_tree) := by
  refine def_ok Fn sc_says_tree fun cdv A outer s H E hr => ?_
  have u0 := hr.units0
  have u1 := hu_of hr
  have u64 := hr.units
  have u65 := u65_of hr
  have u10 := u10_of hr
  have u20 := u20_of hr
  have hN := sc_says_tree.nd
  have tk := bX_takes (P := P) (w := w) (K := K) (mg := mg) (base := base) (N := ["here", "letter", "doors", "far", "to", "below", "door"]) (qual := "says_tree") (st := s_says_tree) (f := fa) (cdv := cdv) (A := A) (outer := outer) (s := s) (H := H) (E := E)
  have hp := bX_pass (P := P) (w := w) (K := K) (mg := mg) (base := base) (N := ["here", "letter", "doors", "far", "to", "below", "door"]) (qual := "says_tree") (st := s_says_tree) (f := fa) (cdv := cdv) (A := A) (outer := outer) (s := s) (H := H) (E := E)
  refine dss_cons (ds_asg (de_var 1) (dga_sq rfl (dgas_cons (dga_name 3 hN) (dgas_cons (dga_name 4 hN) (dgas_cons (dga_name 5 hN) dgas_nil))) (as_lenS (as_lenS (as_lenS as_len0))))) ?_
  refine dss_cons (ds_if (dt_cmp (cm_eq u64) (db (de_var 0)) (db de_int))
        (dss_one (ds_ret (de_and (db (de_cmp (cm_eq u64) (db (de_var 3)) (db de_int))) (de_one (de_cmp (cm_eq u64) (db (de_var 4)) (db (de_neg (db de_int))))))))
        dss_nil) ?_
  exact (dss_one (ds_ret (de_and (db (de_cmp cm_gt (db (de_var 3)) (db de_int))) (de_one (d_callB mo_c (ca_any rfl) (dq_cons (db (df (df_lc (own := [("door", 6)]) rfl hN (dj_seq (db (de_var 2))) (blkOk_by (by kernel_rfl)) (by decide) (fun _ _ _ _ _ => (dg_name 6 hN)) (fun _ _ _ _ _ => dts_nil) (fun _ _ _ _ _ => (de_and (db (de_cmp (cm_eq u64) (db (de_ix u1 (db (de_var 6)) (db de_int))) (db (de_var 4)))) (de_one (de_cmp (cm_eq u64) (db (de_ix u1 (db (de_ix u1 (db (de_var 6)) (db de_int))) (db de_int))) (db (de_op op_subD (db (de_var 3)) (db de_int)))))))))) dq_nil) m_any rfl)))))
theorem ok_belows (m_sum : mg "sum" = none) {fa : Addr} {fd : FuncData} (Fn : Fun K "belows" "belows" s_belows fa fd) : FnOk P w K mg base (L2N.CX P w) 1 fa fd ["here", "doors"] (spD K mg 2 g_belows) := by
  refine def_ok Fn sc_belows fun cdv A outer s H E hr => ?_
  have u0 := hr.units0
  have u1 := hu_of hr
  have u64 := hr.units
  have u65 := u65_of hr
  have u10 := u10_of hr
  have u20 := u20_of hr
  have hN := sc_belows.nd
  have tk := bX_takes (P := P) (w := w) (K := K) (mg := mg) (base := base) (N := ["here", "doors", "door"]) (qual := "belows") (st := s_belows) (f := fa) (cdv := cdv) (A := A) (outer := outer) (s := s) (H := H) (E := E)
  have hp := bX_pass (P := P) (w := w) (K := K) (mg := mg) (base := base) (N := ["here", "doors", "door"]) (qual := "belows") (st := s_belows) (f := fa) (cdv := cdv) (A := A) (outer := outer) (s := s) (H := H) (E := E)
  exact (dss_one (ds_ret (d_callB mo_c (ca_sum2 rfl) (dq_cons (db (df (df_lc (own := [("door", 2)]) rfl hN (dj_seq (db (de_var 1))) (blkOk_by (by kernel_rfl)) (by decide) (fun _ _ _ _ _ => (dg_name 2 hN)) (fun _ _ _ _ _ => (dts_one (dt_cmp (cm_eq u64) (db (de_ix u1 (db (de_ix u1 (db (de_var 2)) (db de_int))) (db de_int))) (db (de_var 0))))) (fun _ _ _ _ _ => (de_ix u1 (db (de_ix u1 (db (de_var 2)) (db de_int))) (db de_int)))))) dq_nil) m_sum rfl)))
theorem ok_says_count (c_belows : CalD P w K mg base 1 "belows" 2 g_belows) (c_says_tree : CalD P w K mg base 1 "says_tree" 3 g_says_tree) {fa : Addr} {fd : FuncData} (Fn : Fun K "says_count" "says_count" s_says_count fa fd) : FnOk P w K mg base (L2N.CX P w) 2 fa fd ["here", "mark", "letter", "doors"] (spD K mg 4 g_says_count) := by
  refine def_ok Fn sc_says_count fun cdv A outer s H E hr => ?_
  have u0 := hr.units0
  have u1 := hu_of hr
  have u64 := hr.units
  have u65 := u65_of hr
  have u10 := u10_of hr
  have u20 := u20_of hr
  have hN := sc_says_count.nd
  have tk := bX_takes (P := P) (w := w) (K := K) (mg := mg) (base := base) (N := ["here", "mark", "letter", "doors"]) (qual := "says_count") (st := s_says_count) (f := fa) (cdv := cdv) (A := A) (outer := outer) (s := s) (H := H) (E := E)
  have hp := bX_pass (P := P) (w := w) (K := K) (mg := mg) (base := base) (N := ["here", "mark", "letter", "doors"]) (qual := "says_count") (st := s_says_count) (f := fa) (cdv := cdv) (A := A) (outer := outer) (s := s) (H := H) (E := E)
  refine dss_cons (ds_if (dt_w (dw_or (dt_not (dt_val (db (de_call c_says_tree hr (by decide) tk (da_cons (de_var 0) (da_cons (de_var 2) (da_cons (de_var 3) da_nil))))))) (dw_or1 (dt_cmp (cm_ne u64) (db (de_ix u1 (db (de_var 2)) (db de_int))) (db (de_op op_addD (db de_int) (db (de_call c_belows hr (by decide) tk (da_cons (de_var 0) (da_cons (de_var 3) da_nil))))))))))
        (dss_one (ds_ret de_bl))
        dss_nil) ?_
  exact (dss_one (ds_ret (de_or (db (de_cmp (cm_ne u64) (db (de_var 0)) (db de_int))) (de_one (de_cmp (cm_eq u64) (db (de_var 1)) (db (de_ix u1 (db (de_var 2)) (db de_int))))))))
theorem ok_says_even (c_belows : CalD P w K mg base 1 "belows" 2 g_belows) (c_says_tree : CalD P w K mg base 1 "says_tree" 3 g_says_tree) {fa : Addr} {fd : FuncData} (Fn : Fun K "says_even" "says_even" s_says_even fa fd) : FnOk P w K mg base (L2N.CX P w) 2 fa fd ["here", "mark", "letter", "doors"] (spD K mg 4 g_says_even) := by
  refine def_ok Fn sc_says_even fun cdv A outer s H E hr => ?_
  have u0 := hr.units0
  have u1 := hu_of hr
  have u64 := hr.units
  have u65 := u65_of hr
  have u10 := u10_of hr
  have u20 := u20_of hr
  have hN := sc_says_even.nd
  have tk := bX_takes (P := P) (w := w) (K := K) (mg := mg) (base := base) (N := ["here", "mark", "letter", "doors"]) (qual := "says_even") (st := s_says_even) (f := fa) (cdv := cdv) (A := A) (outer := outer) (s := s) (H := H) (E := E)
  have hp := bX_pass (P := P) (w := w) (K := K) (mg := mg) (base := base) (N := ["here", "mark", "letter", "doors"]) (qual := "says_even") (st := s_says_even) (f := fa) (cdv := cdv) (A := A) (outer := outer) (s := s) (H := H) (E := E)
  refine dss_cons (ds_if (dt_w (dw_or (dt_cmp (cm_nin u65) (db (de_var 1)) (db (de_tup (da_cons de_int (da_cons de_int da_nil))))) (dw_or (dt_not (dt_val (db (de_call c_says_tree hr (by decide) tk (da_cons (de_var 0) (da_cons (de_var 2) (da_cons (de_var 3) da_nil))))))) (dw_or1 (dt_cmp (cm_ne u64) (db (de_ix u1 (db (de_var 2)) (db de_int))) (db (de_op op_modD (db (de_op op_addD (db (de_var 1)) (db (de_call c_belows hr (by decide) tk (da_cons (de_var 0) (da_cons (de_var 3) da_nil)))))) (db de_int))))))))
        (dss_one (ds_ret de_bl))
        dss_nil) ?_
  exact (dss_one (ds_ret (de_or (db (de_cmp (cm_ne u64) (db (de_var 0)) (db de_int))) (de_one (de_cmp (cm_eq u64) (db (de_ix u1 (db (de_var 2)) (db de_int))) (db de_int))))))
theorem ok_says_ring (m_all : mg "all" = none) (m_len : mg "len" = none) {fa : Addr} {fd : FuncData} (Fn : Fun K "says_ring" "says_ring" s_says_ring fa fd) : FnOk P w K mg base (L2N.CX P w) 1 fa fd ["here", "letter", "doors"] (spD K mg 3 g_says_ring) := by
  refine def_ok Fn sc_says_ring fun cdv A outer s H E hr => ?_
  have u0 := hr.units0
  have u1 := hu_of hr
  have u64 := hr.units
  have u65 := u65_of hr
  have u10 := u10_of hr
  have u20 := u20_of hr
  have hN := sc_says_ring.nd
  have tk := bX_takes (P := P) (w := w) (K := K) (mg := mg) (base := base) (N := ["here", "letter", "doors", "far", "less", "more", "door"]) (qual := "says_ring") (st := s_says_ring) (f := fa) (cdv := cdv) (A := A) (outer := outer) (s := s) (H := H) (E := E)
  have hp := bX_pass (P := P) (w := w) (K := K) (mg := mg) (base := base) (N := ["here", "letter", "doors", "far", "less", "more", "door"]) (qual := "says_ring") (st := s_says_ring) (f := fa) (cdv := cdv) (A := A) (outer := outer) (s := s) (H := H) (E := E)
  refine dss_cons (ds_set 3 hN (de_ix u1 (db (de_var 1)) (db de_int))) ?_
  refine dss_cons (ds_if (dt_cmp (cm_eq u64) (db (de_var 0)) (db de_int))
        (dss_one (ds_ret (de_and (db (de_cmp (cm_eq u64) (db (de_var 3)) (db de_int))) (de_one (d_callB mo_c (ca_all rfl) (dq_cons (db (df (df_lc (own := [("door", 6)]) rfl hN (dj_seq (db (de_var 2))) (blkOk_by (by kernel_rfl)) (by decide) (fun _ _ _ _ _ => (dg_name 6 hN)) (fun _ _ _ _ _ => dts_nil) (fun _ _ _ _ _ => (de_cmp (cm_eq u64) (db (de_ix u1 (db (de_ix u1 (db (de_var 6)) (db de_int))) (db de_int))) (db de_int)))))) dq_nil) m_all rfl)))))
        dss_nil) ?_
  refine dss_cons (ds_ownLc 4 (own := [("door", 6)]) rfl hN rfl (dj_seq (db (de_var 2))) (blkOk_by (by kernel_rfl)) (by decide) (fun _ _ _ _ _ => (dg_name 6 hN)) (fun _ _ _ _ _ => (dts_one (dt_cmp (cm_eq u64) (db (de_ix u1 (db (de_ix u1 (db (de_var 6)) (db de_int))) (db de_int))) (db (de_op op_subD (db (de_var 3)) (db de_int)))))) (fun _ _ _ _ _ => (de_var 6))) ?_
  refine dss_cons (ds_ownLc 5 (own := [("door", 6)]) rfl hN rfl (dj_seq (db (de_var 2))) (blkOk_by (by kernel_rfl)) (by decide) (fun _ _ _ _ _ => (dg_name 6 hN)) (fun _ _ _ _ _ => (dts_one (dt_cmp (cm_eq u64) (db (de_ix u1 (db (de_ix u1 (db (de_var 6)) (db de_int))) (db de_int))) (db (de_op op_addD (db (de_var 3)) (db de_int)))))) (fun _ _ _ _ _ => (de_var 6))) ?_
  exact (dss_one (ds_ret (de_and (db (de_cmp cm_gt (db (de_var 3)) (db de_int))) (de_and (db (de_cmp (cm_eq u64) (db (d_callB mo_c ca_len2 (dq_cons (db_var 4) dq_nil) m_len rfl)) (db de_int))) (de_one (de_cmp (cm_eq u64) (db (de_op op_addD (db (d_callB mo_c ca_len2 (dq_cons (db_var 4) dq_nil) m_len rfl)) (db (d_callB mo_c ca_len2 (dq_cons (db_var 5) dq_nil) m_len rfl)))) (db (d_callB mo_c ca_len2 (dq_cons (db (de_var 2)) dq_nil) m_len rfl))))))))
theorem ok_says_word (m_all : mg "all" = none) (gl_SIZES : GDic w K mg "SIZES" c_SIZES) (c_are_wholes : CalD P w K mg base 2 "are_wholes" 2 g_are_wholes) (c_says_two : CalD P w K mg base 1 "says_two" 2 g_says_two) (c_says_wells : CalD P w K mg base 1 "says_wells" 2 g_says_wells) (c_says_leads : CalD P w K mg base 1 "says_leads" 4 g_says_leads) (c_says_one : CalD P w K mg base 1 "says_one" 4 g_says_one) (c_says_joined : CalD P w K mg base 1 "says_joined" 4 g_says_joined) (c_says_ring : CalD P w K mg base 1 "says_ring" 3 g_says_ring) (c_says_count : CalD P w K mg base 2 "says_count" 4 g_says_count) (c_says_even : CalD P w K mg base 2 "says_even" 4 g_says_even) {fa : Addr} {fd : FuncData} (Fn : Fun K "says_word" "says_word" s_says_word fa fd) : FnOk P w K mg base (L2N.CX P w) 3 fa fd ["word", "seen"] (spD K mg 2 g_says_word) := by
  refine def_ok Fn sc_says_word fun cdv A outer s H E hr => ?_
  have u0 := hr.units0
  have u1 := hu_of hr
  have u64 := hr.units
  have u65 := u65_of hr
  have u10 := u10_of hr
  have u20 := u20_of hr
  have hN := sc_says_word.nd
  have tk := bX_takes (P := P) (w := w) (K := K) (mg := mg) (base := base) (N := ["word", "seen", "here", "mark", "letter", "doors", "door"]) (qual := "says_word") (st := s_says_word) (f := fa) (cdv := cdv) (A := A) (outer := outer) (s := s) (H := H) (E := E)
  have hp := bX_pass (P := P) (w := w) (K := K) (mg := mg) (base := base) (N := ["word", "seen", "here", "mark", "letter", "doors", "door"]) (qual := "says_word") (st := s_says_word) (f := fa) (cdv := cdv) (A := A) (outer := outer) (s := s) (H := H) (E := E)
  refine dss_cons (ds_asg (de_var 1) (dga_sq rfl (dgas_cons (dga_name 2 hN) (dgas_cons (dga_name 3 hN) (dgas_cons (dga_name 4 hN) (dgas_cons (dga_name 5 hN) dgas_nil)))) (as_lenS (as_lenS (as_lenS (as_lenS as_len0)))))) ?_
  refine dss_cons (ds_if (dt_w (dw_or (dt_not (dt_val (db (de_call c_are_wholes hr (by decide) tk (da_cons (de_var 4) (da_cons (de_gd gl_SIZES (db (de_var 0))) da_nil)))))) (dw_or1 (dt_not (dt_val (db (d_callB mo_c (ca_all rfl) (dq_cons (db (df (df_lc (own := [("door", 6)]) rfl hN (dj_seq (db (de_var 5))) (blkOk_by (by kernel_rfl)) (by decide) (fun _ _ _ _ _ => (dg_name 6 hN)) (fun _ _ _ _ _ => dts_nil) (fun _ _ _ _ _ => (de_call c_are_wholes hr (by decide) tN0 (da_cons (de_ix u1 (db (de_var 6)) (db de_int)) (da_cons (de_gd gl_SIZES (db (de_var 0))) da_nil))))))) dq_nil) m_all rfl)))))))
        (dss_one (ds_ret de_bl))
        dss_nil) ?_
  refine dss_cons (ds_if (dt_cmp (cm_in u65) (db (de_var 0)) (db (de_tup (da_cons de_str (da_cons de_str da_nil)))))
        (dss_one (ds_ret (de_if (dt_cmp (cm_eq u64) (db (de_var 0)) (db de_str)) (de_call c_says_two hr (by decide) tk (da_cons (de_var 3) (da_cons (de_var 5) da_nil))) (de_call c_says_wells hr (by decide) tk (da_cons (de_var 3) (da_cons (de_var 5) da_nil))))))
        dss_nil) ?_
  refine dss_cons (ds_if (dt_cmp (cm_in u65) (db (de_var 0)) (db (de_tup (da_cons de_str (da_cons de_str da_nil)))))
        (dss_one (ds_ret (de_if (dt_cmp (cm_eq u64) (db (de_var 0)) (db de_str)) (de_call c_says_leads hr (by decide) tk (da_cons (de_var 2) (da_cons (de_var 3) (da_cons (de_var 4) (da_cons (de_var 5) da_nil))))) (de_call c_says_one hr (by decide) tk (da_cons (de_var 2) (da_cons (de_var 3) (da_cons (de_var 4) (da_cons (de_var 5) da_nil))))))))
        dss_nil) ?_
  refine dss_cons (ds_if (dt_cmp (cm_in u65) (db (de_var 0)) (db (de_tup (da_cons de_str (da_cons de_str da_nil)))))
        (dss_one (ds_ret (de_if (dt_cmp (cm_eq u64) (db (de_var 0)) (db de_str)) (de_call c_says_joined hr (by decide) tk (da_cons (de_var 2) (da_cons (de_var 3) (da_cons (de_var 4) (da_cons (de_var 5) da_nil))))) (de_call c_says_ring hr (by decide) tk (da_cons (de_var 2) (da_cons (de_var 4) (da_cons (de_var 5) da_nil)))))))
        dss_nil) ?_
  exact (dss_one (ds_ret (de_if (dt_cmp (cm_eq u64) (db (de_var 0)) (db de_str)) (de_call c_says_count hr (by decide) tk (da_cons (de_var 2) (da_cons (de_var 3) (da_cons (de_var 4) (da_cons (de_var 5) da_nil))))) (de_call c_says_even hr (by decide) tk (da_cons (de_var 2) (da_cons (de_var 3) (da_cons (de_var 4) (da_cons (de_var 5) da_nil))))))))
theorem ok_is_pair (m_len : mg "len" = none) (m_isinstance : mg "isinstance" = none) (m_tuple : mg "tuple" = none) {fa : Addr} {fd : FuncData} (Fn : Fun K "is_pair" "is_pair" s_is_pair fa fd) : FnOk P w K mg base (L2N.CX P w) 1 fa fd ["letter"] (spD K mg 1 g_is_pair) := by
  refine def_ok Fn sc_is_pair fun cdv A outer s H E hr => ?_
  have u0 := hr.units0
  have u1 := hu_of hr
  have u64 := hr.units
  have u65 := u65_of hr
  have u10 := u10_of hr
  have u20 := u20_of hr
  have hN := sc_is_pair.nd
  have tk := bX_takes (P := P) (w := w) (K := K) (mg := mg) (base := base) (N := ["letter"]) (qual := "is_pair") (st := s_is_pair) (f := fa) (cdv := cdv) (A := A) (outer := outer) (s := s) (H := H) (E := E)
  have hp := bX_pass (P := P) (w := w) (K := K) (mg := mg) (base := base) (N := ["letter"]) (qual := "is_pair") (st := s_is_pair) (f := fa) (cdv := cdv) (A := A) (outer := outer) (s := s) (H := H) (E := E)
  exact (dss_one (ds_ret (de_and (db (de_isi (db (de_var 0)) (kit_tuple _) m_isinstance m_tuple rfl)) (de_one (de_cmp (cm_eq u64) (db (d_callB mo_c ca_len2 (dq_cons (db (de_var 0)) dq_nil) m_len rfl)) (db de_int))))))
theorem ok_part_of (m_tuple : mg "tuple" = none) {fa : Addr} {fd : FuncData} (Fn : Fun K "part_of" "part_of" s_part_of fa fd) : FnOk P w K mg base (L2N.CX P w) 1 fa fd ["seen", "at"] (spD K mg 2 g_part_of) := by
  refine def_ok Fn sc_part_of fun cdv A outer s H E hr => ?_
  have u0 := hr.units0
  have u1 := hu_of hr
  have u64 := hr.units
  have u65 := u65_of hr
  have u10 := u10_of hr
  have u20 := u20_of hr
  have hN := sc_part_of.nd
  have tk := bX_takes (P := P) (w := w) (K := K) (mg := mg) (base := base) (N := ["seen", "at", "here", "mark", "letter", "doors", "door"]) (qual := "part_of") (st := s_part_of) (f := fa) (cdv := cdv) (A := A) (outer := outer) (s := s) (H := H) (E := E)
  have hp := bX_pass (P := P) (w := w) (K := K) (mg := mg) (base := base) (N := ["seen", "at", "here", "mark", "letter", "doors", "door"]) (qual := "part_of") (st := s_part_of) (f := fa) (cdv := cdv) (A := A) (outer := outer) (s := s) (H := H) (E := E)
  refine dss_cons (ds_asg (de_var 0) (dga_sq rfl (dgas_cons (dga_name 2 hN) (dgas_cons (dga_name 3 hN) (dgas_cons (dga_name 4 hN) (dgas_cons (dga_name 5 hN) dgas_nil)))) (as_lenS (as_lenS (as_lenS (as_lenS as_len0)))))) ?_
  exact (dss_one (ds_ret (de_tup (da_cons (de_var 2) (da_cons (de_var 3) (da_cons (de_ix u1 (db (de_var 4)) (db (de_var 1))) (da_cons (d_callTy mo_c ca_tuple (dq_cons (db (df (df_lc (own := [("door", 6)]) rfl hN (dj_seq (db (de_var 5))) (blkOk_by (by kernel_rfl)) (by decide) (fun _ _ _ _ _ => (dg_name 6 hN)) (fun _ _ _ _ _ => dts_nil) (fun _ _ _ _ _ => (de_tup (da_cons (de_ix u1 (db (de_var 6)) (db de_int)) (da_cons (de_ix u1 (db (de_var 6)) (db de_int)) (da_cons (de_ix u1 (db (de_ix u1 (db (de_var 6)) (db de_int))) (db (de_var 1))) da_nil)))))))) dq_nil) m_tuple rfl) da_nil)))))))
theorem ok_says_of (m_isinstance : mg "isinstance" = none) (m_str : mg "str" = none) (m_all : mg "all" = none) (c_says_word : CalD P w K mg base 3 "says_word" 2 g_says_word) (c_is_pair : CalD P w K mg base 1 "is_pair" 1 g_is_pair) (c_part_of : CalD P w K mg base 1 "part_of" 2 g_part_of) (c_is_whole : CalD P w K mg base 1 "is_whole" 3 g_is_whole) {fa : Addr} {fd : FuncData} (Fn : Fun K "says_of" "says_of" s_says_of fa fd) (gm : mg "says_of" = some (.ref fa)) (bn : Binds K fd ["claim", "seen"] []) : ∀ k, CalD P w K mg base (3 + k) "says_of" 2 (gr_says_of k)
  | 0 => ⟨fa, fd, ["claim", "seen"], cal_no, gm, Fn.kp, bn⟩
  | k + 1 => by
    have ih := ok_says_of m_isinstance m_str m_all c_says_word c_is_pair c_part_of c_is_whole Fn gm bn k
    refine ⟨fa, fd, _, def_ok (k := 3 + k) Fn sc_says_of fun cdv A outer s H E hr => ?_, gm, Fn.kp, bn⟩
    have u0 := hr.units0
    have u1 := hu_of hr
    have u64 := hr.units
    have u65 := u65_of hr
    have u10 := u10_of hr
    have u20 := u20_of hr
    have hN := sc_says_of.nd
    have tk := bX_takes (P := P) (w := w) (K := K) (mg := mg) (base := base) (N := ["claim", "seen", "at", "door"]) (qual := "says_of") (st := s_says_of) (f := fa) (cdv := cdv) (A := A) (outer := outer) (s := s) (H := H) (E := E)
    have hp := bX_pass (P := P) (w := w) (K := K) (mg := mg) (base := base) (N := ["claim", "seen", "at", "door"]) (qual := "says_of") (st := s_says_of) (f := fa) (cdv := cdv) (A := A) (outer := outer) (s := s) (H := H) (E := E)
    refine dss_cons (ds_if (dt_val (db (de_isi (db (de_var 0)) (kit_str _) m_isinstance m_str rfl)))
          (dss_one (ds_ret (de_call c_says_word hr (by omega) tk (da_cons (de_var 0) (da_cons (de_var 1) da_nil)))))
          dss_nil) ?_
    refine dss_cons (ds_if (dt_w (dw_or (dt_not (dt_val (db (de_call c_is_pair hr (by omega) tk (da_cons (de_ix u1 (db (de_var 1)) (db de_int)) da_nil))))) (dw_or1 (dt_not (dt_val (db (d_callB mo_c (ca_all rfl) (dq_cons (db (df (df_lc (own := [("door", 3)]) rfl hN (dj_seq (db (de_ix u1 (db (de_var 1)) (db de_int)))) (blkOk_by (by kernel_rfl)) (by decide) (fun _ _ _ _ _ => (dg_name 3 hN)) (fun _ _ _ _ _ => dts_nil) (fun _ _ _ _ _ => (de_call c_is_pair hr (by omega) tN0 (da_cons (de_ix u1 (db (de_var 3)) (db de_int)) da_nil)))))) dq_nil) m_all rfl)))))))
          (dss_one (ds_ret de_bl))
          dss_nil) ?_
    refine dss_cons (ds_if (dt_cmp (cm_eq u64) (db (de_ix u1 (db (de_var 0)) (db de_int))) (db de_str))
          (dss_one (ds_ret (de_and (db (de_call ih hr (by omega) tk (da_cons (de_ix u1 (db (de_var 0)) (db de_int)) (da_cons (de_call c_part_of hr (by omega) tk (da_cons (de_var 1) (da_cons de_int da_nil))) da_nil)))) (de_one (de_call ih hr (by omega) tk (da_cons (de_ix u1 (db (de_var 0)) (db de_int)) (da_cons (de_call c_part_of hr (by omega) tk (da_cons (de_var 1) (da_cons de_int da_nil))) da_nil)))))))
          dss_nil) ?_
    refine dss_cons (ds_set 2 hN (de_ix u1 (db (de_ix u1 (db (de_var 1)) (db de_int))) (db de_int))) ?_
    refine dss_cons (ds_if (dt_w (dw_or (dt_not (dt_val (db (de_call c_is_whole hr (by omega) tk (da_cons (de_var 2) (da_cons de_int (da_cons de_int da_nil))))))) (dw_or1 (dt_not (dt_val (db (d_callB mo_c (ca_all rfl) (dq_cons (db (df (df_lc (own := [("door", 3)]) rfl hN (dj_seq (db (de_ix u1 (db (de_var 1)) (db de_int)))) (blkOk_by (by kernel_rfl)) (by decide) (fun _ _ _ _ _ => (dg_name 3 hN)) (fun _ _ _ _ _ => dts_nil) (fun _ _ _ _ _ => (de_and (db (de_call c_is_whole hr (by omega) tN0 (da_cons (de_ix u1 (db (de_ix u1 (db (de_var 3)) (db de_int))) (db de_int)) (da_cons de_int (da_cons de_int da_nil))))) (de_one (de_cmp (cm_eq u64) (db (de_ix u1 (db (de_ix u1 (db (de_var 3)) (db de_int))) (db de_int))) (db (de_var 2))))))))) dq_nil) m_all rfl)))))))
          (dss_one (ds_ret de_bl))
          dss_nil) ?_
    exact (dss_one (ds_ret (de_call ih hr (by omega) tk (da_cons (de_ix u1 (db (de_var 0)) (db (de_op op_addD (db de_int) (db (de_var 2))))) (da_cons (de_call c_part_of hr (by omega) tk (da_cons (de_var 1) (da_cons de_int da_nil))) da_nil)))))
theorem ok_noes_of (m_range : mg "range" = none) (c_says_of : CalD P w K mg base 7 "says_of" 2 g_says_of) (c_view_of : CalD P w K mg base 2 "view_of" 4 g_view_of) {fa : Addr} {fd : FuncData} (Fn : Fun K "noes_of" "noes_of" s_noes_of fa fd) : FnOk P w K mg base (L2N.CX P w) 8 fa fd ["plan", "marks", "claim", "letters"] (spD K mg 4 g_noes_of) := by
  refine def_ok Fn sc_noes_of fun cdv A outer s H E hr => ?_
  have u0 := hr.units0
  have u1 := hu_of hr
  have u64 := hr.units
  have u65 := u65_of hr
  have u10 := u10_of hr
  have u20 := u20_of hr
  have hN := sc_noes_of.nd
  have tk := bX_takes (P := P) (w := w) (K := K) (mg := mg) (base := base) (N := ["plan", "marks", "claim", "letters", "house"]) (qual := "noes_of") (st := s_noes_of) (f := fa) (cdv := cdv) (A := A) (outer := outer) (s := s) (H := H) (E := E)
  have hp := bX_pass (P := P) (w := w) (K := K) (mg := mg) (base := base) (N := ["plan", "marks", "claim", "letters", "house"]) (qual := "noes_of") (st := s_noes_of) (f := fa) (cdv := cdv) (A := A) (outer := outer) (s := s) (H := H) (E := E)
  exact (dss_one (ds_ret (df (df_lc (own := [("house", 4)]) rfl hN (dj_range1 (dq_cons (db (de_ix u1 (db (de_var 0)) (db de_int))) dq_nil) m_range) (blkOk_by (by kernel_rfl)) (by decide) (fun _ _ _ _ _ => (dg_name 4 hN)) (fun _ _ _ _ _ => (dts_one (dt_not (dt_val (db (de_call c_says_of hr (by decide) tN0 (da_cons (de_var 2) (da_cons (de_call c_view_of hr (by decide) tN0 (da_cons (de_var 0) (da_cons (de_var 1) (da_cons (de_var 3) (da_cons (de_var 4) da_nil))))) da_nil)))))))) (fun _ _ _ _ _ => (de_var 4))))))
theorem ok_law_same_truth (m_isinstance : mg "isinstance" = none) (m_bool : mg "bool" = none) {fa : Addr} {fd : FuncData} (Fn : Fun K "_law_same_truth" "_law_same_truth" s_law_same_truth fa fd) : FnOk P w K mg base (L2N.CX P w) 1 fa fd ["got", "due"] (spD K mg 2 g_law_same_truth) := by
  refine def_ok Fn sc_law_same_truth fun cdv A outer s H E hr => ?_
  have u0 := hr.units0
  have u1 := hu_of hr
  have u64 := hr.units
  have u65 := u65_of hr
  have u10 := u10_of hr
  have u20 := u20_of hr
  have hN := sc_law_same_truth.nd
  have tk := bX_takes (P := P) (w := w) (K := K) (mg := mg) (base := base) (N := ["got", "due"]) (qual := "_law_same_truth") (st := s_law_same_truth) (f := fa) (cdv := cdv) (A := A) (outer := outer) (s := s) (H := H) (E := E)
  have hp := bX_pass (P := P) (w := w) (K := K) (mg := mg) (base := base) (N := ["got", "due"]) (qual := "_law_same_truth") (st := s_law_same_truth) (f := fa) (cdv := cdv) (A := A) (outer := outer) (s := s) (H := H) (E := E)
  exact (dss_one (ds_ret (de_and (db (de_isi (db (de_var 0)) (kit_bool _) m_isinstance m_bool rfl)) (de_one (de_cmp (cm_eq u64) (db (de_var 0)) (db (de_var 1)))))))
theorem ok_M_make {e_NotSo : Addr} (x_NotSo : ExK K mg "NotSo" e_NotSo) (c_holds_of : CalD P w K mg base 9 "holds_of" 3 g_holds_of) {fa : Addr} {fd : FuncData} (Fn : Fun K "make" "Town.make" s_M_make fa fd) : FnOk P w K mg base (L2N.CX P w) 10 fa fd ["self"] (spD K mg 1 g_M_make) := by
  refine def_ok Fn sc_M_make fun cdv A outer s H E hr => ?_
  have u0 := hr.units0
  have u1 := hu_of hr
  have u64 := hr.units
  have u65 := u65_of hr
  have u10 := u10_of hr
  have u20 := u20_of hr
  have hN := sc_M_make.nd
  have tk := bX_takes (P := P) (w := w) (K := K) (mg := mg) (base := base) (N := ["self", "plan", "marks", "letters"]) (qual := "Town.make") (st := s_M_make) (f := fa) (cdv := cdv) (A := A) (outer := outer) (s := s) (H := H) (E := E)
  have hp := bX_pass (P := P) (w := w) (K := K) (mg := mg) (base := base) (N := ["self", "plan", "marks", "letters"]) (qual := "Town.make") (st := s_M_make) (f := fa) (cdv := cdv) (A := A) (outer := outer) (s := s) (H := H) (E := E)
  refine dss_cons (ds_asg (de_how (db (de_var 0))) (dga_sq rfl (dgas_cons (dga_name 1 hN) (dgas_cons (dga_name 2 hN) (dgas_cons (dga_name 3 hN) dgas_nil))) (as_lenS (as_lenS (as_lenS as_len0))))) ?_
  refine dss_cons (ds_if (dt_not (dt_val (db (de_call c_holds_of hr (by decide) tk (da_cons (de_var 1) (da_cons (de_var 2) (da_cons (de_claim (db (de_var 0))) da_nil)))))))
        (dss_one (ds_raise x_NotSo rfl tk))
        dss_nil) ?_
  exact (dss_one (ds_expr (db de_no)))
theorem ok_M_turn {e_NoMarks : Addr} (x_NoMarks : ExK K mg "NoMarks" e_NoMarks) (c_need_house : CalD P w K mg base 2 "need_house" 2 g_need_house) (c_is_mark : CalD P w K mg base 2 "is_mark" 1 g_is_mark) {fa : Addr} {fd : FuncData} (Fn : Fun K "turn" "Town.turn" s_M_turn fa fd) : FnOk P w K mg base (L2N.CX P w) 3 fa fd ["self", "house", "mark"] (spD K mg 3 g_M_turn) := by
  refine def_ok Fn sc_M_turn fun cdv A outer s H E hr => ?_
  have u0 := hr.units0
  have u1 := hu_of hr
  have u64 := hr.units
  have u65 := u65_of hr
  have u10 := u10_of hr
  have u20 := u20_of hr
  have hN := sc_M_turn.nd
  have tk := bX_takes (P := P) (w := w) (K := K) (mg := mg) (base := base) (N := ["self", "house", "mark", "plan", "marks", "letters"]) (qual := "Town.turn") (st := s_M_turn) (f := fa) (cdv := cdv) (A := A) (outer := outer) (s := s) (H := H) (E := E)
  have hp := bX_pass (P := P) (w := w) (K := K) (mg := mg) (base := base) (N := ["self", "house", "mark", "plan", "marks", "letters"]) (qual := "Town.turn") (st := s_M_turn) (f := fa) (cdv := cdv) (A := A) (outer := outer) (s := s) (H := H) (E := E)
  refine dss_cons (ds_asg (de_how (db (de_var 0))) (dga_sq rfl (dgas_cons (dga_name 3 hN) (dgas_cons (dga_name 4 hN) (dgas_cons (dga_name 5 hN) dgas_nil))) (as_lenS (as_lenS (as_lenS as_len0))))) ?_
  refine dss_cons (ds_expr (db (de_call c_need_house hr (by decide) tk (da_cons (de_var 3) (da_cons (de_var 1) da_nil))))) ?_
  refine dss_cons (ds_if (dt_not (dt_val (db (de_call c_is_mark hr (by decide) tk (da_cons (de_var 2) da_nil)))))
        (dss_one (ds_raise x_NoMarks rfl tk))
        dss_nil) ?_
  exact (dss_one (ds_expr (db de_no)))
theorem ok_M_hand (c_need_house : CalD P w K mg base 2 "need_house" 2 g_need_house) {fa : Addr} {fd : FuncData} (Fn : Fun K "hand" "Town.hand" s_M_hand fa fd) : FnOk P w K mg base (L2N.CX P w) 3 fa fd ["self", "house", "letter"] (spD K mg 3 g_M_hand) := by
  refine def_ok Fn sc_M_hand fun cdv A outer s H E hr => ?_
  have u0 := hr.units0
  have u1 := hu_of hr
  have u64 := hr.units
  have u65 := u65_of hr
  have u10 := u10_of hr
  have u20 := u20_of hr
  have hN := sc_M_hand.nd
  have tk := bX_takes (P := P) (w := w) (K := K) (mg := mg) (base := base) (N := ["self", "house", "letter", "plan", "marks", "letters"]) (qual := "Town.hand") (st := s_M_hand) (f := fa) (cdv := cdv) (A := A) (outer := outer) (s := s) (H := H) (E := E)
  have hp := bX_pass (P := P) (w := w) (K := K) (mg := mg) (base := base) (N := ["self", "house", "letter", "plan", "marks", "letters"]) (qual := "Town.hand") (st := s_M_hand) (f := fa) (cdv := cdv) (A := A) (outer := outer) (s := s) (H := H) (E := E)
  refine dss_cons (ds_asg (de_how (db (de_var 0))) (dga_sq rfl (dgas_cons (dga_name 3 hN) (dgas_cons (dga_name 4 hN) (dgas_cons (dga_name 5 hN) dgas_nil))) (as_lenS (as_lenS (as_lenS as_len0))))) ?_
  refine dss_cons (ds_expr (db (de_call c_need_house hr (by decide) tk (da_cons (de_var 3) (da_cons (de_var 1) da_nil))))) ?_
  exact (dss_one (ds_expr (db de_no)))
theorem ok_M_with_streets (m_max : mg "max" = none) (m_min : mg "min" = none) (m_list : mg "list" = none) (m_tuple : mg "tuple" = none) (m_sorted : mg "sorted" = none) {e_NoStreet : Addr} (x_NoStreet : ExK K mg "NoStreet" e_NoStreet) (c_need_house : CalD P w K mg base 2 "need_house" 2 g_need_house) (c_good_plan : CalD P w K mg base 4 "good_plan" 1 g_good_plan) {fa : Addr} {fd : FuncData} (Fn : Fun K "with_streets" "Town.with_streets" s_M_with_streets fa fd) : FnOk P w K mg base (L2N.CX P w) 5 fa fd ["self", "name", "one", "other", "there"] (spD K mg 5 g_M_with_streets) := by
  refine def_ok Fn sc_M_with_streets fun cdv A outer s H E hr => ?_
  have u0 := hr.units0
  have u1 := hu_of hr
  have u64 := hr.units
  have u65 := u65_of hr
  have u10 := u10_of hr
  have u20 := u20_of hr
  have hN := sc_M_with_streets.nd
  have tk := bX_takes (P := P) (w := w) (K := K) (mg := mg) (base := base) (N := ["self", "name", "one", "other", "there", "plan", "street", "some", "made", "own"]) (qual := "Town.with_streets") (st := s_M_with_streets) (f := fa) (cdv := cdv) (A := A) (outer := outer) (s := s) (H := H) (E := E)
  have hp := bX_pass (P := P) (w := w) (K := K) (mg := mg) (base := base) (N := ["self", "name", "one", "other", "there", "plan", "street", "some", "made", "own"]) (qual := "Town.with_streets") (st := s_M_with_streets) (f := fa) (cdv := cdv) (A := A) (outer := outer) (s := s) (H := H) (E := E)
  refine dss_cons (ds_set 5 hN (de_ix u1 (db (de_how (db (de_var 0)))) (db de_int))) ?_
  refine dss_cons (ds_expr (db (de_call c_need_house hr (by decide) tk (da_cons (de_var 5) (da_cons (de_var 2) da_nil))))) ?_
  refine dss_cons (ds_expr (db (de_call c_need_house hr (by decide) tk (da_cons (de_var 5) (da_cons (de_var 3) da_nil))))) ?_
  refine dss_cons (ds_set 6 hN (de_tup (da_cons (d_callB mo_c (ca_min rfl) (dq_cons (db (de_var 2)) (dq_cons (db (de_var 3)) dq_nil)) m_min rfl) (da_cons (d_callB mo_c (ca_max rfl) (dq_cons (db (de_var 2)) (dq_cons (db (de_var 3)) dq_nil)) m_max rfl) da_nil)))) ?_
  refine dss_cons (ds_if (dt_cmp (cm_ne u64) (db (de_cmp (cm_in u65) (db (de_var 6)) (db (de_ix u1 (db (de_var 5)) (db de_int))))) (db (de_var 4)))
        (dss_one (ds_raise x_NoStreet rfl tk))
        dss_nil) ?_
  refine dss_cons (ds_set 7 hN (de_if (dt_val (db (de_var 4))) (df (df_lc (own := [("own", 9)]) rfl hN (dj_seq (db (de_ix u1 (db (de_var 5)) (db de_int)))) (blkOk_by (by kernel_rfl)) (by decide) (fun _ _ _ _ _ => (dg_name 9 hN)) (fun _ _ _ _ _ => (dts_one (dt_cmp (cm_ne u64) (db (de_var 9)) (db (de_var 6))))) (fun _ _ _ _ _ => (de_var 9)))) (de_op op_addD (db (df (d_callTy mo_f (ca_list2 rfl) (dq_cons (db (de_ix u1 (db (de_var 5)) (db de_int))) dq_nil) m_list rfl))) (db (df (df_lst (da_cons (de_var 6) da_nil))))))) ?_
  refine dss_cons (ds_set 8 hN (de_tup (da_cons (de_ix u1 (db (de_var 5)) (db de_int)) (da_cons (d_callTy mo_c ca_tuple (dq_cons (db (df (d_callB mo_f ca_sorted2 (dq_cons (db (de_var 7)) dq_nil) m_sorted rfl))) dq_nil) m_tuple rfl) da_nil)))) ?_
  refine dss_cons (ds_if (dt_not (dt_val (db (de_call c_good_plan hr (by decide) tk (da_cons (de_var 8) da_nil)))))
        (dss_one (ds_raise x_NoStreet rfl tk))
        dss_nil) ?_
  exact (dss_one (ds_expr (db de_no)))
theorem ok_M_build (c_M_with_streets : CalM P w K mg base 5 "with_streets" 4 g_M_with_streets) {fa : Addr} {fd : FuncData} (Fn : Fun K "build" "Town.build" s_M_build fa fd) : FnOk P w K mg base (L2N.CX P w) 6 fa fd ["self", "one", "other"] (spD K mg 3 g_M_build) := by
  refine def_ok Fn sc_M_build fun cdv A outer s H E hr => ?_
  have u0 := hr.units0
  have u1 := hu_of hr
  have u64 := hr.units
  have u65 := u65_of hr
  have u10 := u10_of hr
  have u20 := u20_of hr
  have hN := sc_M_build.nd
  have tk := bX_takes (P := P) (w := w) (K := K) (mg := mg) (base := base) (N := ["self", "one", "other"]) (qual := "Town.build") (st := s_M_build) (f := fa) (cdv := cdv) (A := A) (outer := outer) (s := s) (H := H) (E := E)
  have hp := bX_pass (P := P) (w := w) (K := K) (mg := mg) (base := base) (N := ["self", "one", "other"]) (qual := "Town.build") (st := s_M_build) (f := fa) (cdv := cdv) (A := A) (outer := outer) (s := s) (H := H) (E := E)
  exact (dss_one (ds_expr (db (de_met c_M_with_streets hr (by decide) tk (de_var 0) (da_cons de_str (da_cons (de_var 1) (da_cons (de_var 2) (da_cons de_bl da_nil))))))))
theorem ok_M_tear (c_M_with_streets : CalM P w K mg base 5 "with_streets" 4 g_M_with_streets) {fa : Addr} {fd : FuncData} (Fn : Fun K "tear" "Town.tear" s_M_tear fa fd) : FnOk P w K mg base (L2N.CX P w) 6 fa fd ["self", "one", "other"] (spD K mg 3 g_M_tear) := by
  refine def_ok Fn sc_M_tear fun cdv A outer s H E hr => ?_
  have u0 := hr.units0
  have u1 := hu_of hr
  have u64 := hr.units
  have u65 := u65_of hr
  have u10 := u10_of hr
  have u20 := u20_of hr
  have hN := sc_M_tear.nd
  have tk := bX_takes (P := P) (w := w) (K := K) (mg := mg) (base := base) (N := ["self", "one", "other"]) (qual := "Town.tear") (st := s_M_tear) (f := fa) (cdv := cdv) (A := A) (outer := outer) (s := s) (H := H) (E := E)
  have hp := bX_pass (P := P) (w := w) (K := K) (mg := mg) (base := base) (N := ["self", "one", "other"]) (qual := "Town.tear") (st := s_M_tear) (f := fa) (cdv := cdv) (A := A) (outer := outer) (s := s) (H := H) (E := E)
  exact (dss_one (ds_expr (db (de_met c_M_with_streets hr (by decide) tk (de_var 0) (da_cons de_str (da_cons (de_var 1) (da_cons (de_var 2) (da_cons de_bl da_nil))))))))
theorem ok_law_ask {E0 : Addr} {cs : List Addr} (wk : WhK K mg E0 cs) (wd : WhD P w K mg base cs "_law_which") (c_M_make : CalM P w K mg base 10 "make" 0 g_M_make) (c_M_turn : CalM P w K mg base 3 "turn" 2 g_M_turn) (c_M_hand : CalM P w K mg base 3 "hand" 2 g_M_hand) (c_M_build : CalM P w K mg base 6 "build" 2 g_M_build) (c_M_tear : CalM P w K mg base 6 "tear" 2 g_M_tear) {fa : Addr} {fd : FuncData} (Fn : Fun K "_law_ask" "_law_ask" s_law_ask fa fd) : FnOk P w K mg base (L2N.CX P w) 11 fa fd ["what", "place", "one", "two"] (spD K mg 4 g_law_ask) := by
  refine def_ok Fn sc_law_ask fun cdv A outer s H E hr => ?_
  have u0 := hr.units0
  have u1 := hu_of hr
  have u64 := hr.units
  have u65 := u65_of hr
  have u10 := u10_of hr
  have u20 := u20_of hr
  have hN := sc_law_ask.nd
  have tk := bX_takes (P := P) (w := w) (K := K) (mg := mg) (base := base) (N := ["what", "place", "one", "two", "e"]) (qual := "_law_ask") (st := s_law_ask) (f := fa) (cdv := cdv) (A := A) (outer := outer) (s := s) (H := H) (E := E)
  have hp := bX_pass (P := P) (w := w) (K := K) (mg := mg) (base := base) (N := ["what", "place", "one", "two", "e"]) (qual := "_law_ask") (st := s_law_ask) (f := fa) (cdv := cdv) (A := A) (outer := outer) (s := s) (H := H) (E := E)
  exact (dss_one (ds_try 4 wk wd hr hN rfl rfl tk (fun W pn xe tk hp =>
        (dss_cons (ds_if (dt_cmp (cm_lt u0) (db (de_var 0)) (db de_int))
        (dss_one (ds_ret (de_if (dt_cmp (cm_eq u64) (db (de_var 0)) (db de_int)) (de_met c_M_build hr (by decide) tk (de_var 1) (da_cons (de_var 2) (da_cons (de_var 3) da_nil))) (de_met c_M_tear hr (by decide) tk (de_var 1) (da_cons (de_var 2) (da_cons (de_var 3) da_nil))))))
        dss_nil)
        (dss_cons (ds_if (dt_cmp (cm_lt u0) (db (de_var 0)) (db de_int))
        (dss_one (ds_ret (de_if (dt_cmp (cm_eq u64) (db (de_var 0)) (db de_int)) (de_met c_M_turn hr (by decide) tk (de_var 1) (da_cons (de_var 2) (da_cons (de_var 3) da_nil))) (de_met c_M_hand hr (by decide) tk (de_var 1) (da_cons (de_var 2) (da_cons (de_var 3) da_nil))))))
        dss_nil)
        (dss_one (ds_ret (de_if (dt_cmp (cm_eq u64) (db (de_var 0)) (db de_int)) (de_met0 c_M_make hr (by decide) tk (de_var 1)) de_no))))))))
theorem ok_Town (tF : TwF K) (c_need_marks : CalD P w K mg base 6 "need_marks" 2 g_need_marks) (c_need_claim : CalD P w K mg base 6 "need_claim" 1 g_need_claim) {C fa : Addr} {fd : FuncData} (ck : TwK K C) (Fn : Fun K "__init__" "Town.__init__" s_Town fa fd) : FnOk P w K mg base (L2N.CX P w) 7 fa fd ["self", "plan", "marks", "claim"] (spN K mg C 3 g_Town) := by
  refine initT_ok ck Fn sc_Town rfl fun cdv A outer s H E hr => ?_
  have u0 := hr.units0
  have u1 := hu_of hr
  have u64 := hr.units
  have u65 := u65_of hr
  have u10 := u10_of hr
  have u20 := u20_of hr
  have hN := sc_Town.nd
  have tk := bX_takes (P := P) (w := w) (K := K) (mg := mg) (base := base) (N := ["self", "plan", "marks", "claim"]) (qual := "Town.__init__") (st := s_Town) (f := fa) (cdv := cdv) (A := A) (outer := outer) (s := s) (H := H) (E := E)
  have hp := bX_pass (P := P) (w := w) (K := K) (mg := mg) (base := base) (N := ["self", "plan", "marks", "claim"]) (qual := "Town.__init__") (st := s_Town) (f := fa) (cdv := cdv) (A := A) (outer := outer) (s := s) (H := H) (E := E)
  exact (pss_init tF (de_call c_need_marks hr (by decide) tk (da_cons (de_var 1) (da_cons (de_var 2) da_nil))) (de_call c_need_claim hr (by decide) tk (da_cons (de_var 3) da_nil)) (de_var 3) (de_tup (da_cons (de_var 1) (da_cons (de_var 2) (da_cons (de_op op_mulD (db (de_tup (da_cons (de_tup da_nil) da_nil))) (db (de_ix u1 (db (de_var 1)) (db de_int)))) da_nil)))))
theorem ok_T_call (tF : TwF K) {fa : Addr} {fd : FuncData} (Fn : Fun K "call" "Town.call" s_T_call fa fd) : FnOk P w K mg base (L2N.CX P w) 1 fa fd ["self", "name", "how"] (spT K mg 2 g_T_call) := by
  refine defT_ok Fn sc_T_call rfl fun cdv A outer s H E hr => ?_
  have u0 := hr.units0
  have u1 := hu_of hr
  have u64 := hr.units
  have u65 := u65_of hr
  have u10 := u10_of hr
  have u20 := u20_of hr
  have hN := sc_T_call.nd
  have tk := bX_takes (P := P) (w := w) (K := K) (mg := mg) (base := base) (N := ["self", "name", "how"]) (qual := "Town.call") (st := s_T_call) (f := fa) (cdv := cdv) (A := A) (outer := outer) (s := s) (H := H) (E := E)
  have hp := bX_pass (P := P) (w := w) (K := K) (mg := mg) (base := base) (N := ["self", "name", "how"]) (qual := "Town.call") (st := s_T_call) (f := fa) (cdv := cdv) (A := A) (outer := outer) (s := s) (H := H) (E := E)
  refine uss_cons (us_pushP 0 tF (te_view (de_how (db (de_var 0))))) ?_
  refine uss_cons (us_pushC 0 tF (te_view (de_var 1))) ?_
  exact (uss_one (us_setH 0 (te_view (de_var 2))))
theorem ok_T_make (m_tuple : mg "tuple" = none) {e_NotSo : Addr} (x_NotSo : ExK K mg "NotSo" e_NotSo) (c_holds_of : CalD P w K mg base 9 "holds_of" 3 g_holds_of) (c_T_call : CalTM P w K mg base 1 "call" 2 g_T_call) (c_letters_of : CalD P w K mg base 16 "letters_of" 3 g_letters_of) {fa : Addr} {fd : FuncData} (Fn : Fun K "make" "Town.make" s_T_make fa fd) : FnOk P w K mg base (L2N.CX P w) 17 fa fd ["self"] (spT K mg 0 g_T_make) := by
  refine defT_ok Fn sc_T_make rfl fun cdv A outer s H E hr => ?_
  have u0 := hr.units0
  have u1 := hu_of hr
  have u64 := hr.units
  have u65 := u65_of hr
  have u10 := u10_of hr
  have u20 := u20_of hr
  have hN := sc_T_make.nd
  have tk := bX_takes (P := P) (w := w) (K := K) (mg := mg) (base := base) (N := ["self", "plan", "marks", "letters"]) (qual := "Town.make") (st := s_T_make) (f := fa) (cdv := cdv) (A := A) (outer := outer) (s := s) (H := H) (E := E)
  have hp := bX_pass (P := P) (w := w) (K := K) (mg := mg) (base := base) (N := ["self", "plan", "marks", "letters"]) (qual := "Town.make") (st := s_T_make) (f := fa) (cdv := cdv) (A := A) (outer := outer) (s := s) (H := H) (E := E)
  refine uss_cons (us_asg (te_view (de_how (db (de_var 0)))) (dg_tup rfl (dgs_cons (dg_name 1 hN) (dgs_cons (dg_name 2 hN) (dgs_cons (dg_name 3 hN) dgs_nil))) (gs_lenS (gs_lenS (gs_lenS gs_len0)))) (by repeat (first | exact kt_next | exact kt_no | exact kt_ret | exact kt_drop | exact kt_app | exact kt_set | exact kt_own | exact kt_raise | exact kt_par | exact kta_name _ | exact ktas_nil | exact ktg_name _ | exact ktgs_nil | apply kt_seq | apply kt_if | apply kt_frz | apply kt_asg | apply kta_tup | apply kta_sq | apply ktas_cons | apply ktg_tup | apply ktgs_cons))) ?_
  refine uss_cons (us_if (tt_view (dt_not (dt_val (db (de_call c_holds_of hr (by decide) tk (da_cons (de_var 1) (da_cons (de_var 2) (da_cons (de_claim (db (de_var 0))) da_nil))))))))
        (uss_one (us_lift (ds_raise x_NotSo rfl tk) (by repeat (first | exact kt_next | exact kt_no | exact kt_ret | exact kt_drop | exact kt_app | exact kt_set | exact kt_own | exact kt_raise | exact kt_par | exact kta_name _ | exact ktas_nil | exact ktg_name _ | exact ktgs_nil | apply kt_seq | apply kt_if | apply kt_frz | apply kt_asg | apply kta_tup | apply kta_sq | apply ktas_cons | apply ktg_tup | apply ktgs_cons))))
        uss_nil) ?_
  exact (uss_one (us_expr (te_meth 0 c_T_call hr (by decide) tk (da_cons de_str (da_cons (de_tup (da_cons (de_var 1) (da_cons (de_var 2) (da_cons (d_callTy mo_c ca_tuple (dq_cons (db (de_call c_letters_of hr (by decide) tk (da_cons (de_var 1) (da_cons (de_var 2) (da_cons (de_claim (db (de_var 0))) da_nil))))) dq_nil) m_tuple rfl) da_nil)))) da_nil)))))
theorem ok_T_back {e_Nothing : Addr} (x_Nothing : ExK K mg "Nothing" e_Nothing) (tF : TwF K) {fa : Addr} {fd : FuncData} (Fn : Fun K "back" "Town.back" s_T_back fa fd) : FnOk P w K mg base (L2N.CX P w) 1 fa fd ["self"] (spT K mg 0 g_T_back) := by
  refine defT_ok Fn sc_T_back rfl fun cdv A outer s H E hr => ?_
  have u0 := hr.units0
  have u1 := hu_of hr
  have u64 := hr.units
  have u65 := u65_of hr
  have u10 := u10_of hr
  have u20 := u20_of hr
  have hN := sc_T_back.nd
  have tk := bX_takes (P := P) (w := w) (K := K) (mg := mg) (base := base) (N := ["self"]) (qual := "Town.back") (st := s_T_back) (f := fa) (cdv := cdv) (A := A) (outer := outer) (s := s) (H := H) (E := E)
  have hp := bX_pass (P := P) (w := w) (K := K) (mg := mg) (base := base) (N := ["self"]) (qual := "Town.back") (st := s_T_back) (f := fa) (cdv := cdv) (A := A) (outer := outer) (s := s) (H := H) (E := E)
  refine uss_cons (us_if (tt_pastNil 0 tF u64)
        (uss_one (us_lift (ds_raise x_Nothing rfl tk) (by repeat (first | exact kt_next | exact kt_no | exact kt_ret | exact kt_drop | exact kt_app | exact kt_set | exact kt_own | exact kt_raise | exact kt_par | exact kta_name _ | exact ktas_nil | exact ktg_name _ | exact ktgs_nil | apply kt_seq | apply kt_if | apply kt_frz | apply kt_asg | apply kta_tup | apply kta_sq | apply ktas_cons | apply ktg_tup | apply ktgs_cons))))
        uss_nil) ?_
  refine uss_cons (us_setH 0 (te_popP 0 tF)) ?_
  exact (uss_one (us_ret (te_popC 0 tF)))
theorem ok_T_turn {e_NoMarks : Addr} (x_NoMarks : ExK K mg "NoMarks" e_NoMarks) (c_need_house : CalD P w K mg base 2 "need_house" 2 g_need_house) (c_is_mark : CalD P w K mg base 2 "is_mark" 1 g_is_mark) (c_T_call : CalTM P w K mg base 1 "call" 2 g_T_call) {fa : Addr} {fd : FuncData} (Fn : Fun K "turn" "Town.turn" s_T_turn fa fd) : FnOk P w K mg base (L2N.CX P w) 3 fa fd ["self", "house", "mark"] (spT K mg 2 g_T_turn) := by
  refine defT_ok Fn sc_T_turn rfl fun cdv A outer s H E hr => ?_
  have u0 := hr.units0
  have u1 := hu_of hr
  have u64 := hr.units
  have u65 := u65_of hr
  have u10 := u10_of hr
  have u20 := u20_of hr
  have hN := sc_T_turn.nd
  have tk := bX_takes (P := P) (w := w) (K := K) (mg := mg) (base := base) (N := ["self", "house", "mark", "plan", "marks", "letters"]) (qual := "Town.turn") (st := s_T_turn) (f := fa) (cdv := cdv) (A := A) (outer := outer) (s := s) (H := H) (E := E)
  have hp := bX_pass (P := P) (w := w) (K := K) (mg := mg) (base := base) (N := ["self", "house", "mark", "plan", "marks", "letters"]) (qual := "Town.turn") (st := s_T_turn) (f := fa) (cdv := cdv) (A := A) (outer := outer) (s := s) (H := H) (E := E)
  refine uss_cons (us_asg (te_view (de_how (db (de_var 0)))) (dg_tup rfl (dgs_cons (dg_name 3 hN) (dgs_cons (dg_name 4 hN) (dgs_cons (dg_name 5 hN) dgs_nil))) (gs_lenS (gs_lenS (gs_lenS gs_len0)))) (by repeat (first | exact kt_next | exact kt_no | exact kt_ret | exact kt_drop | exact kt_app | exact kt_set | exact kt_own | exact kt_raise | exact kt_par | exact kta_name _ | exact ktas_nil | exact ktg_name _ | exact ktgs_nil | apply kt_seq | apply kt_if | apply kt_frz | apply kt_asg | apply kta_tup | apply kta_sq | apply ktas_cons | apply ktg_tup | apply ktgs_cons))) ?_
  refine uss_cons (us_lift (ds_expr (db (de_call c_need_house hr (by decide) tk (da_cons (de_var 3) (da_cons (de_var 1) da_nil))))) (by repeat (first | exact kt_next | exact kt_no | exact kt_ret | exact kt_drop | exact kt_app | exact kt_set | exact kt_own | exact kt_raise | exact kt_par | exact kta_name _ | exact ktas_nil | exact ktg_name _ | exact ktgs_nil | apply kt_seq | apply kt_if | apply kt_frz | apply kt_asg | apply kta_tup | apply kta_sq | apply ktas_cons | apply ktg_tup | apply ktgs_cons))) ?_
  refine uss_cons (us_lift (ds_if (dt_not (dt_val (db (de_call c_is_mark hr (by decide) tk (da_cons (de_var 2) da_nil)))))
        (dss_one (ds_raise x_NoMarks rfl tk))
        dss_nil) (by repeat (first | exact kt_next | exact kt_no | exact kt_ret | exact kt_drop | exact kt_app | exact kt_set | exact kt_own | exact kt_raise | exact kt_par | exact kta_name _ | exact ktas_nil | exact ktg_name _ | exact ktgs_nil | apply kt_seq | apply kt_if | apply kt_frz | apply kt_asg | apply kta_tup | apply kta_sq | apply ktas_cons | apply ktg_tup | apply ktgs_cons))) ?_
  exact (uss_one (us_expr (te_meth 0 c_T_call hr (by decide) tk (da_cons de_str (da_cons (de_tup (da_cons (de_var 3) (da_cons (de_op op_addD (db (de_op op_addD (db (de_sl (db (de_var 4)) do_none (do_some (db (de_var 1))))) (db (de_tup (da_cons (de_var 2) da_nil))))) (db (de_sl (db (de_var 4)) (do_some (db (de_op op_addD (db (de_var 1)) (db de_int)))) do_none))) (da_cons (de_var 5) da_nil)))) da_nil)))))
theorem ok_T_hand (c_need_house : CalD P w K mg base 2 "need_house" 2 g_need_house) (c_T_call : CalTM P w K mg base 1 "call" 2 g_T_call) {fa : Addr} {fd : FuncData} (Fn : Fun K "hand" "Town.hand" s_T_hand fa fd) : FnOk P w K mg base (L2N.CX P w) 3 fa fd ["self", "house", "letter"] (spT K mg 2 g_T_hand) := by
  refine defT_ok Fn sc_T_hand rfl fun cdv A outer s H E hr => ?_
  have u0 := hr.units0
  have u1 := hu_of hr
  have u64 := hr.units
  have u65 := u65_of hr
  have u10 := u10_of hr
  have u20 := u20_of hr
  have hN := sc_T_hand.nd
  have tk := bX_takes (P := P) (w := w) (K := K) (mg := mg) (base := base) (N := ["self", "house", "letter", "plan", "marks", "letters"]) (qual := "Town.hand") (st := s_T_hand) (f := fa) (cdv := cdv) (A := A) (outer := outer) (s := s) (H := H) (E := E)
  have hp := bX_pass (P := P) (w := w) (K := K) (mg := mg) (base := base) (N := ["self", "house", "letter", "plan", "marks", "letters"]) (qual := "Town.hand") (st := s_T_hand) (f := fa) (cdv := cdv) (A := A) (outer := outer) (s := s) (H := H) (E := E)
  refine uss_cons (us_asg (te_view (de_how (db (de_var 0)))) (dg_tup rfl (dgs_cons (dg_name 3 hN) (dgs_cons (dg_name 4 hN) (dgs_cons (dg_name 5 hN) dgs_nil))) (gs_lenS (gs_lenS (gs_lenS gs_len0)))) (by repeat (first | exact kt_next | exact kt_no | exact kt_ret | exact kt_drop | exact kt_app | exact kt_set | exact kt_own | exact kt_raise | exact kt_par | exact kta_name _ | exact ktas_nil | exact ktg_name _ | exact ktgs_nil | apply kt_seq | apply kt_if | apply kt_frz | apply kt_asg | apply kta_tup | apply kta_sq | apply ktas_cons | apply ktg_tup | apply ktgs_cons))) ?_
  refine uss_cons (us_lift (ds_expr (db (de_call c_need_house hr (by decide) tk (da_cons (de_var 3) (da_cons (de_var 1) da_nil))))) (by repeat (first | exact kt_next | exact kt_no | exact kt_ret | exact kt_drop | exact kt_app | exact kt_set | exact kt_own | exact kt_raise | exact kt_par | exact kta_name _ | exact ktas_nil | exact ktg_name _ | exact ktgs_nil | apply kt_seq | apply kt_if | apply kt_frz | apply kt_asg | apply kta_tup | apply kta_sq | apply ktas_cons | apply ktg_tup | apply ktgs_cons))) ?_
  exact (uss_one (us_expr (te_meth 0 c_T_call hr (by decide) tk (da_cons de_str (da_cons (de_tup (da_cons (de_var 3) (da_cons (de_var 4) (da_cons (de_op op_addD (db (de_op op_addD (db (de_sl (db (de_var 5)) do_none (do_some (db (de_var 1))))) (db (de_tup (da_cons (de_var 2) da_nil))))) (db (de_sl (db (de_var 5)) (do_some (db (de_op op_addD (db (de_var 1)) (db de_int)))) do_none))) da_nil)))) da_nil)))))
theorem ok_T_with_streets (m_max : mg "max" = none) (m_min : mg "min" = none) (m_list : mg "list" = none) (m_tuple : mg "tuple" = none) (m_sorted : mg "sorted" = none) {e_NoStreet : Addr} (x_NoStreet : ExK K mg "NoStreet" e_NoStreet) (c_need_house : CalD P w K mg base 2 "need_house" 2 g_need_house) (c_good_plan : CalD P w K mg base 4 "good_plan" 1 g_good_plan) (c_T_call : CalTM P w K mg base 1 "call" 2 g_T_call) {fa : Addr} {fd : FuncData} (Fn : Fun K "with_streets" "Town.with_streets" s_T_with_streets fa fd) : FnOk P w K mg base (L2N.CX P w) 5 fa fd ["self", "name", "one", "other", "there"] (spT K mg 4 g_T_with_streets) := by
  refine defT_ok Fn sc_T_with_streets rfl fun cdv A outer s H E hr => ?_
  have u0 := hr.units0
  have u1 := hu_of hr
  have u64 := hr.units
  have u65 := u65_of hr
  have u10 := u10_of hr
  have u20 := u20_of hr
  have hN := sc_T_with_streets.nd
  have tk := bX_takes (P := P) (w := w) (K := K) (mg := mg) (base := base) (N := ["self", "name", "one", "other", "there", "plan", "street", "some", "made", "own"]) (qual := "Town.with_streets") (st := s_T_with_streets) (f := fa) (cdv := cdv) (A := A) (outer := outer) (s := s) (H := H) (E := E)
  have hp := bX_pass (P := P) (w := w) (K := K) (mg := mg) (base := base) (N := ["self", "name", "one", "other", "there", "plan", "street", "some", "made", "own"]) (qual := "Town.with_streets") (st := s_T_with_streets) (f := fa) (cdv := cdv) (A := A) (outer := outer) (s := s) (H := H) (E := E)
  refine uss_cons (us_set 5 hN (te_view (de_ix u1 (db (de_how (db (de_var 0)))) (db de_int)))) ?_
  refine uss_cons (us_lift (ds_expr (db (de_call c_need_house hr (by decide) tk (da_cons (de_var 5) (da_cons (de_var 2) da_nil))))) (by repeat (first | exact kt_next | exact kt_no | exact kt_ret | exact kt_drop | exact kt_app | exact kt_set | exact kt_own | exact kt_raise | exact kt_par | exact kta_name _ | exact ktas_nil | exact ktg_name _ | exact ktgs_nil | apply kt_seq | apply kt_if | apply kt_frz | apply kt_asg | apply kta_tup | apply kta_sq | apply ktas_cons | apply ktg_tup | apply ktgs_cons))) ?_
  refine uss_cons (us_lift (ds_expr (db (de_call c_need_house hr (by decide) tk (da_cons (de_var 5) (da_cons (de_var 3) da_nil))))) (by repeat (first | exact kt_next | exact kt_no | exact kt_ret | exact kt_drop | exact kt_app | exact kt_set | exact kt_own | exact kt_raise | exact kt_par | exact kta_name _ | exact ktas_nil | exact ktg_name _ | exact ktgs_nil | apply kt_seq | apply kt_if | apply kt_frz | apply kt_asg | apply kta_tup | apply kta_sq | apply ktas_cons | apply ktg_tup | apply ktgs_cons))) ?_
  refine uss_cons (us_lift (ds_set 6 hN (de_tup (da_cons (d_callB mo_c (ca_min rfl) (dq_cons (db (de_var 2)) (dq_cons (db (de_var 3)) dq_nil)) m_min rfl) (da_cons (d_callB mo_c (ca_max rfl) (dq_cons (db (de_var 2)) (dq_cons (db (de_var 3)) dq_nil)) m_max rfl) da_nil)))) (by repeat (first | exact kt_next | exact kt_no | exact kt_ret | exact kt_drop | exact kt_app | exact kt_set | exact kt_own | exact kt_raise | exact kt_par | exact kta_name _ | exact ktas_nil | exact ktg_name _ | exact ktgs_nil | apply kt_seq | apply kt_if | apply kt_frz | apply kt_asg | apply kta_tup | apply kta_sq | apply ktas_cons | apply ktg_tup | apply ktgs_cons))) ?_
  refine uss_cons (us_lift (ds_if (dt_cmp (cm_ne u64) (db (de_cmp (cm_in u65) (db (de_var 6)) (db (de_ix u1 (db (de_var 5)) (db de_int))))) (db (de_var 4)))
        (dss_one (ds_raise x_NoStreet rfl tk))
        dss_nil) (by repeat (first | exact kt_next | exact kt_no | exact kt_ret | exact kt_drop | exact kt_app | exact kt_set | exact kt_own | exact kt_raise | exact kt_par | exact kta_name _ | exact ktas_nil | exact ktg_name _ | exact ktgs_nil | apply kt_seq | apply kt_if | apply kt_frz | apply kt_asg | apply kta_tup | apply kta_sq | apply ktas_cons | apply ktg_tup | apply ktgs_cons))) ?_
  refine uss_cons (us_lift (ds_set 7 hN (de_if (dt_val (db (de_var 4))) (df (df_lc (own := [("own", 9)]) rfl hN (dj_seq (db (de_ix u1 (db (de_var 5)) (db de_int)))) (blkOk_by (by kernel_rfl)) (by decide) (fun _ _ _ _ _ => (dg_name 9 hN)) (fun _ _ _ _ _ => (dts_one (dt_cmp (cm_ne u64) (db (de_var 9)) (db (de_var 6))))) (fun _ _ _ _ _ => (de_var 9)))) (de_op op_addD (db (df (d_callTy mo_f (ca_list2 rfl) (dq_cons (db (de_ix u1 (db (de_var 5)) (db de_int))) dq_nil) m_list rfl))) (db (df (df_lst (da_cons (de_var 6) da_nil))))))) (by repeat (first | exact kt_next | exact kt_no | exact kt_ret | exact kt_drop | exact kt_app | exact kt_set | exact kt_own | exact kt_raise | exact kt_par | exact kta_name _ | exact ktas_nil | exact ktg_name _ | exact ktgs_nil | apply kt_seq | apply kt_if | apply kt_frz | apply kt_asg | apply kta_tup | apply kta_sq | apply ktas_cons | apply ktg_tup | apply ktgs_cons))) ?_
  refine uss_cons (us_lift (ds_set 8 hN (de_tup (da_cons (de_ix u1 (db (de_var 5)) (db de_int)) (da_cons (d_callTy mo_c ca_tuple (dq_cons (db (df (d_callB mo_f ca_sorted2 (dq_cons (db (de_var 7)) dq_nil) m_sorted rfl))) dq_nil) m_tuple rfl) da_nil)))) (by repeat (first | exact kt_next | exact kt_no | exact kt_ret | exact kt_drop | exact kt_app | exact kt_set | exact kt_own | exact kt_raise | exact kt_par | exact kta_name _ | exact ktas_nil | exact ktg_name _ | exact ktgs_nil | apply kt_seq | apply kt_if | apply kt_frz | apply kt_asg | apply kta_tup | apply kta_sq | apply ktas_cons | apply ktg_tup | apply ktgs_cons))) ?_
  refine uss_cons (us_lift (ds_if (dt_not (dt_val (db (de_call c_good_plan hr (by decide) tk (da_cons (de_var 8) da_nil)))))
        (dss_one (ds_raise x_NoStreet rfl tk))
        dss_nil) (by repeat (first | exact kt_next | exact kt_no | exact kt_ret | exact kt_drop | exact kt_app | exact kt_set | exact kt_own | exact kt_raise | exact kt_par | exact kta_name _ | exact ktas_nil | exact ktg_name _ | exact ktgs_nil | apply kt_seq | apply kt_if | apply kt_frz | apply kt_asg | apply kta_tup | apply kta_sq | apply ktas_cons | apply ktg_tup | apply ktgs_cons))) ?_
  exact (uss_one (us_expr (te_meth 0 c_T_call hr (by decide) tk (da_cons (de_var 1) (da_cons (de_op op_addD (db (de_tup (da_cons (de_var 8) da_nil))) (db (de_sl (db (de_how (db (de_var 0)))) (do_some (db de_int)) do_none))) da_nil)))))
theorem ok_T_build (c_T_with_streets : CalTM P w K mg base 5 "with_streets" 4 g_T_with_streets) {fa : Addr} {fd : FuncData} (Fn : Fun K "build" "Town.build" s_T_build fa fd) : FnOk P w K mg base (L2N.CX P w) 6 fa fd ["self", "one", "other"] (spT K mg 2 g_T_build) := by
  refine defT_ok Fn sc_T_build rfl fun cdv A outer s H E hr => ?_
  have u0 := hr.units0
  have u1 := hu_of hr
  have u64 := hr.units
  have u65 := u65_of hr
  have u10 := u10_of hr
  have u20 := u20_of hr
  have hN := sc_T_build.nd
  have tk := bX_takes (P := P) (w := w) (K := K) (mg := mg) (base := base) (N := ["self", "one", "other"]) (qual := "Town.build") (st := s_T_build) (f := fa) (cdv := cdv) (A := A) (outer := outer) (s := s) (H := H) (E := E)
  have hp := bX_pass (P := P) (w := w) (K := K) (mg := mg) (base := base) (N := ["self", "one", "other"]) (qual := "Town.build") (st := s_T_build) (f := fa) (cdv := cdv) (A := A) (outer := outer) (s := s) (H := H) (E := E)
  exact (uss_one (us_expr (te_meth 0 c_T_with_streets hr (by decide) tk (da_cons de_str (da_cons (de_var 1) (da_cons (de_var 2) (da_cons de_bl da_nil)))))))
theorem ok_T_tear (c_T_with_streets : CalTM P w K mg base 5 "with_streets" 4 g_T_with_streets) {fa : Addr} {fd : FuncData} (Fn : Fun K "tear" "Town.tear" s_T_tear fa fd) : FnOk P w K mg base (L2N.CX P w) 6 fa fd ["self", "one", "other"] (spT K mg 2 g_T_tear) := by
  refine defT_ok Fn sc_T_tear rfl fun cdv A outer s H E hr => ?_
  have u0 := hr.units0
  have u1 := hu_of hr
  have u64 := hr.units
  have u65 := u65_of hr
  have u10 := u10_of hr
  have u20 := u20_of hr
  have hN := sc_T_tear.nd
  have tk := bX_takes (P := P) (w := w) (K := K) (mg := mg) (base := base) (N := ["self", "one", "other"]) (qual := "Town.tear") (st := s_T_tear) (f := fa) (cdv := cdv) (A := A) (outer := outer) (s := s) (H := H) (E := E)
  have hp := bX_pass (P := P) (w := w) (K := K) (mg := mg) (base := base) (N := ["self", "one", "other"]) (qual := "Town.tear") (st := s_T_tear) (f := fa) (cdv := cdv) (A := A) (outer := outer) (s := s) (H := H) (E := E)
  exact (uss_one (us_expr (te_meth 0 c_T_with_streets hr (by decide) tk (da_cons de_str (da_cons (de_var 1) (da_cons (de_var 2) (da_cons de_bl da_nil)))))))
theorem ok_T_law_ask {E0 : Addr} {cs : List Addr} (wk : WhK K mg E0 cs) (wd : WhD P w K mg base cs "_law_which") (c_T_make : CalTM P w K mg base 17 "make" 0 g_T_make) (c_T_back : CalTM P w K mg base 1 "back" 0 g_T_back) (c_T_turn : CalTM P w K mg base 3 "turn" 2 g_T_turn) (c_T_hand : CalTM P w K mg base 3 "hand" 2 g_T_hand) (c_T_build : CalTM P w K mg base 6 "build" 2 g_T_build) (c_T_tear : CalTM P w K mg base 6 "tear" 2 g_T_tear) {fa : Addr} {fd : FuncData} (Fn : Fun K "_law_ask" "_law_ask" s_T_law_ask fa fd) : FnOk P w K mg base (L2N.CX P w) 18 fa fd ["what", "place", "one", "two"] (spT1 K mg 3 g_T_law_ask) := by
  refine defT1_ok Fn sc_T_law_ask rfl (by decide) fun cdv A outer s H E hr => ?_
  have u0 := hr.units0
  have u1 := hu_of hr
  have u64 := hr.units
  have u65 := u65_of hr
  have u10 := u10_of hr
  have u20 := u20_of hr
  have hN := sc_T_law_ask.nd
  have tk := bX_takes (P := P) (w := w) (K := K) (mg := mg) (base := base) (N := ["what", "place", "one", "two", "e"]) (qual := "_law_ask") (st := s_T_law_ask) (f := fa) (cdv := cdv) (A := A) (outer := outer) (s := s) (H := H) (E := E)
  have hp := bX_pass (P := P) (w := w) (K := K) (mg := mg) (base := base) (N := ["what", "place", "one", "two", "e"]) (qual := "_law_ask") (st := s_T_law_ask) (f := fa) (cdv := cdv) (A := A) (outer := outer) (s := s) (H := H) (E := E)
  exact (uss_one (us_try 4 wk wd hr hN rfl rfl tk (fun W pn xe tk hp =>
        (uss_cons (us_if (tt_view (dt_cmp (cm_lt u0) (db (de_var 0)) (db de_int)))
        (uss_one (us_ret (te_if (tt_view (dt_cmp (cm_eq u64) (db (de_var 0)) (db de_int))) (te_meth 1 c_T_build hr (by decide) tk (da_cons (de_var 2) (da_cons (de_var 3) da_nil))) (te_meth 1 c_T_tear hr (by decide) tk (da_cons (de_var 2) (da_cons (de_var 3) da_nil))))))
        uss_nil)
        (uss_cons (us_if (tt_view (dt_cmp (cm_lt u0) (db (de_var 0)) (db de_int)))
        (uss_one (us_ret (te_if (tt_view (dt_cmp (cm_eq u64) (db (de_var 0)) (db de_int))) (te_meth 1 c_T_turn hr (by decide) tk (da_cons (de_var 2) (da_cons (de_var 3) da_nil))) (te_meth 1 c_T_hand hr (by decide) tk (da_cons (de_var 2) (da_cons (de_var 3) da_nil))))))
        uss_nil)
        (uss_one (us_ret (te_if (tt_view (dt_cmp (cm_eq u64) (db (de_var 0)) (db de_int))) (te_meth0 1 c_T_make hr (by decide) tk) (te_meth0 1 c_T_back hr (by decide) tk)))))))))
theorem ok_M___eq__ (m_isinstance : mg "isinstance" = none) {CT : Addr} (tI : TwI K CT) (gT : mg "Town" = some (.ref CT)) {fa : Addr} {fd : FuncData} (Fn : Fun K "__eq__" "Town.__eq__" s_M___eq__ fa fd) : FnOk P w K mg base (L2N.CX P w) 1 fa fd ["self", "other"] (spD K mg 2 g_M___eq__) := by
  refine def_ok Fn sc_M___eq__ fun cdv A outer s H E hr => ?_
  have u0 := hr.units0
  have u1 := hu_of hr
  have u64 := hr.units
  have u65 := u65_of hr
  have u10 := u10_of hr
  have u20 := u20_of hr
  have hN := sc_M___eq__.nd
  have tk := bX_takes (P := P) (w := w) (K := K) (mg := mg) (base := base) (N := ["self", "other"]) (qual := "Town.__eq__") (st := s_M___eq__) (f := fa) (cdv := cdv) (A := A) (outer := outer) (s := s) (H := H) (E := E)
  have hp := bX_pass (P := P) (w := w) (K := K) (mg := mg) (base := base) (N := ["self", "other"]) (qual := "Town.__eq__") (st := s_M___eq__) (f := fa) (cdv := cdv) (A := A) (outer := outer) (s := s) (H := H) (E := E)
  exact (dss_one (ds_ret (de_and (db (de_isT tI gT (db (de_var 1)) m_isinstance)) (de_and (db (de_cmp (cm_eq u64) (db (de_claim (db (de_var 0)))) (db (de_claim (db (de_var 1)))))) (de_one (de_cmp (cm_eq u64) (db (de_how (db (de_var 0)))) (db (de_how (db (de_var 1))))))))))
theorem ok_M___str__ (m_str : mg "str" = none) {fa : Addr} {fd : FuncData} (Fn : Fun K "__str__" "Town.__str__" s_M___str__ fa fd) : FnOk P w K mg base (L2N.CX P w) 1 fa fd ["self"] (spD K mg 1 g_M___str__) := by
  refine def_ok Fn sc_M___str__ fun cdv A outer s H E hr => ?_
  have u0 := hr.units0
  have u1 := hu_of hr
  have u64 := hr.units
  have u65 := u65_of hr
  have u10 := u10_of hr
  have u20 := u20_of hr
  have hN := sc_M___str__.nd
  have tk := bX_takes (P := P) (w := w) (K := K) (mg := mg) (base := base) (N := ["self", "one"]) (qual := "Town.__str__") (st := s_M___str__) (f := fa) (cdv := cdv) (A := A) (outer := outer) (s := s) (H := H) (E := E)
  have hp := bX_pass (P := P) (w := w) (K := K) (mg := mg) (base := base) (N := ["self", "one"]) (qual := "Town.__str__") (st := s_M___str__) (f := fa) (cdv := cdv) (A := A) (outer := outer) (s := s) (H := H) (E := E)
  exact (dss_one (ds_ret (de_join (db de_str) (db (df (df_lc (own := [("one", 1)]) rfl hN (dj_seq (db (de_ix u1 (db (de_how (db (de_var 0)))) (db de_int)))) (blkOk_by (by kernel_rfl)) (by decide) (fun _ _ _ _ _ => (dg_name 1 hN)) (fun _ _ _ _ _ => dts_nil) (fun _ _ _ _ _ => (d_callTy mo_c ca_str (dq_cons (db (de_var 1)) dq_nil) m_str rfl))))))))
theorem ok_M_noes (c_noes_of : CalD P w K mg base 8 "noes_of" 4 g_noes_of) {fa : Addr} {fd : FuncData} (Fn : Fun K "noes" "Town.noes" s_M_noes fa fd) : FnOk P w K mg base (L2N.CX P w) 9 fa fd ["self"] (spD K mg 1 g_M_noes) := by
  refine def_ok Fn sc_M_noes fun cdv A outer s H E hr => ?_
  have u0 := hr.units0
  have u1 := hu_of hr
  have u64 := hr.units
  have u65 := u65_of hr
  have u10 := u10_of hr
  have u20 := u20_of hr
  have hN := sc_M_noes.nd
  have tk := bX_takes (P := P) (w := w) (K := K) (mg := mg) (base := base) (N := ["self"]) (qual := "Town.noes") (st := s_M_noes) (f := fa) (cdv := cdv) (A := A) (outer := outer) (s := s) (H := H) (E := E)
  have hp := bX_pass (P := P) (w := w) (K := K) (mg := mg) (base := base) (N := ["self"]) (qual := "Town.noes") (st := s_M_noes) (f := fa) (cdv := cdv) (A := A) (outer := outer) (s := s) (H := H) (E := E)
  exact (dss_one (ds_ret (de_call c_noes_of hr (by decide) tk (da_cons (de_ix u1 (db (de_how (db (de_var 0)))) (db de_int)) (da_cons (de_ix u1 (db (de_how (db (de_var 0)))) (db de_int)) (da_cons (de_claim (db (de_var 0))) (da_cons (de_ix u1 (db (de_how (db (de_var 0)))) (db de_int)) da_nil)))))))
theorem ok_M___len__ (m_len : mg "len" = none) (c_M_noes : CalM P w K mg base 9 "noes" 0 g_M_noes) {fa : Addr} {fd : FuncData} (Fn : Fun K "__len__" "Town.__len__" s_M___len__ fa fd) : FnOk P w K mg base (L2N.CX P w) 10 fa fd ["self"] (spD K mg 1 g_M___len__) := by
  refine def_ok Fn sc_M___len__ fun cdv A outer s H E hr => ?_
  have u0 := hr.units0
  have u1 := hu_of hr
  have u64 := hr.units
  have u65 := u65_of hr
  have u10 := u10_of hr
  have u20 := u20_of hr
  have hN := sc_M___len__.nd
  have tk := bX_takes (P := P) (w := w) (K := K) (mg := mg) (base := base) (N := ["self"]) (qual := "Town.__len__") (st := s_M___len__) (f := fa) (cdv := cdv) (A := A) (outer := outer) (s := s) (H := H) (E := E)
  have hp := bX_pass (P := P) (w := w) (K := K) (mg := mg) (base := base) (N := ["self"]) (qual := "Town.__len__") (st := s_M___len__) (f := fa) (cdv := cdv) (A := A) (outer := outer) (s := s) (H := H) (E := E)
  exact (dss_one (ds_ret (d_callB mo_c ca_len2 (dq_cons (db (de_met0 c_M_noes hr (by decide) tk (de_var 0))) dq_nil) m_len rfl)))
theorem ok_M_plan  {fa : Addr} {fd : FuncData} (Fn : Fun K "plan" "Town.plan" s_M_plan fa fd) : FnOk P w K mg base (L2N.CX P w) 1 fa fd ["self"] (spD K mg 1 g_M_plan) := by
  refine def_ok Fn sc_M_plan fun cdv A outer s H E hr => ?_
  have u0 := hr.units0
  have u1 := hu_of hr
  have u64 := hr.units
  have u65 := u65_of hr
  have u10 := u10_of hr
  have u20 := u20_of hr
  have hN := sc_M_plan.nd
  have tk := bX_takes (P := P) (w := w) (K := K) (mg := mg) (base := base) (N := ["self"]) (qual := "Town.plan") (st := s_M_plan) (f := fa) (cdv := cdv) (A := A) (outer := outer) (s := s) (H := H) (E := E)
  have hp := bX_pass (P := P) (w := w) (K := K) (mg := mg) (base := base) (N := ["self"]) (qual := "Town.plan") (st := s_M_plan) (f := fa) (cdv := cdv) (A := A) (outer := outer) (s := s) (H := H) (E := E)
  exact (dss_one (ds_ret (de_ix u1 (db (de_how (db (de_var 0)))) (db de_int))))
theorem ok_law (m_range : mg "range" = none) (m_str : mg "str" = none) (m_len : mg "len" = none) (c_Town : MkT P w K mg base 7 "Town" 3 g_Town) (c_T_law_ask : CalT1 P w K mg base 18 "_law_ask" 3 g_T_law_ask) (c_law_ask : CalD P w K mg base 11 "_law_ask" 4 g_law_ask) (c_law_same_truth : CalD P w K mg base 1 "_law_same_truth" 2 g_law_same_truth) (k_M___eq__ : CalE P w K mg base 1 "__eq__" 2 g_M___eq__) (k_M___str__ : CalE P w K mg base 1 "__str__" 1 g_M___str__) (k_M___len__ : CalE P w K mg base 10 "__len__" 1 g_M___len__) (c_T_build : CalTM P w K mg base 6 "build" 2 g_T_build) (c_T_tear : CalTM P w K mg base 6 "tear" 2 g_T_tear) (c_M_plan : CalM P w K mg base 1 "plan" 0 g_M_plan) (c_T_back : CalTM P w K mg base 1 "back" 0 g_T_back) {fa : Addr} {fd : FuncData} (Fn : Fun K "law" "law" s_law fa fd) (run : ∀ ns : List Int, ns.length ≤ 63 → lawRunT 9 F_law ns) : FnOk P w K mg base (L2N.CX P w) 19 fa fd ["script"] (spLaw K) := by
  refine lawT_ok Fn sc_law (by decide) rfl (by first | exact Or.inl rfl | exact Or.inr rfl) rfl (fun cdv A outer s H E hr => ?_) rfl run
  have u0 := hr.units0
  have u1 := hu_of hr
  have u64 := hr.units
  have u65 := u65_of hr
  have u10 := u10_of hr
  have u20 := u20_of hr
  have hN := sc_law.nd
  have tk := bX_takes (P := P) (w := w) (K := K) (mg := mg) (base := base) (N := ["script", "town", "place", "off", "plan", "marks", "a", "b", "what"]) (qual := "law") (st := s_law) (f := fa) (cdv := cdv) (A := A) (outer := outer) (s := s) (H := H) (E := E)
  have hp := bX_pass (P := P) (w := w) (K := K) (mg := mg) (base := base) (N := ["script", "town", "place", "off", "plan", "marks", "a", "b", "what"]) (qual := "law") (st := s_law) (f := fa) (cdv := cdv) (A := A) (outer := outer) (s := s) (H := H) (E := E)
  refine uss_cons (us_lift (ds_parT (is := [4, 5]) rfl (dm_sh (de_tup (da_cons de_int (da_cons (de_tup (da_cons (de_tup (da_cons de_int (da_cons de_int da_nil))) (da_cons (de_tup (da_cons de_int (da_cons de_int da_nil))) (da_cons (de_tup (da_cons de_int (da_cons de_int da_nil))) (da_cons (de_tup (da_cons de_int (da_cons de_int da_nil))) da_nil))))) da_nil))) (dm_sh (de_tup (da_cons de_int (da_cons de_int (da_cons de_int (da_cons de_int da_nil))))) dm_nil)) (pgs_cons (pg_name (i := 4) hN rfl (by first | exact Or.inl rfl | exact Or.inr rfl)) (pgs_cons (pg_name (i := 5) hN rfl (by first | exact Or.inl rfl | exact Or.inr rfl)) pgs_nil)) (by decide)) (by repeat (first | exact kt_next | exact kt_no | exact kt_ret | exact kt_drop | exact kt_app | exact kt_set | exact kt_own | exact kt_raise | exact kt_par | exact kta_name _ | exact ktas_nil | exact ktg_name _ | exact ktgs_nil | apply kt_seq | apply kt_if | apply kt_frz | apply kt_asg | apply kta_tup | apply kta_sq | apply ktas_cons | apply ktg_tup | apply ktgs_cons))) ?_
  refine uss_cons (us_new 2 c_Town hr (by decide) tk hN (da_cons (de_var 4) (da_cons (de_var 5) (da_cons de_str da_nil)))) ?_
  refine uss_cons (us_if (tt_w (tw_or (tt_cmp (cm_ne u64) (te_call1 2 c_T_law_ask hr (by decide) tk de_int (da_cons de_non (da_cons de_non da_nil))) (te_view (de_tup (da_cons de_str (da_cons de_int da_nil))))) (tw_or1 (tt_cmp (cm_ne u64) (te_call1 2 c_T_law_ask hr (by decide) tk de_int (da_cons de_non (da_cons de_non da_nil))) (te_view (de_tup (da_cons de_str (da_cons de_int da_nil))))))))
        (uss_one (us_lift (ds_ret de_bl) (by repeat (first | exact kt_next | exact kt_no | exact kt_ret | exact kt_drop | exact kt_app | exact kt_set | exact kt_own | exact kt_raise | exact kt_par | exact kta_name _ | exact ktas_nil | exact ktg_name _ | exact ktgs_nil | apply kt_seq | apply kt_if | apply kt_frz | apply kt_asg | apply kta_tup | apply kta_sq | apply ktas_cons | apply ktg_tup | apply ktgs_cons))))
        uss_nil) ?_
  refine uss_cons (us_for hp rfl (di_seq (df (df_lst (da_cons de_non (da_cons (de_neg (db de_int)) (da_cons de_int (da_cons de_str (da_cons de_bl (da_cons (df (df_lst da_nil)) da_nil))))))))) (dg_name 3 hN) (by repeat (first | exact kt_next | exact kt_no | exact kt_ret | exact kt_drop | exact kt_app | exact kt_set | exact kt_own | exact kt_raise | exact kt_par | exact kta_name _ | exact ktas_nil | exact ktg_name _ | exact ktgs_nil | apply kt_seq | apply kt_if | apply kt_frz | apply kt_asg | apply kta_tup | apply kta_sq | apply ktas_cons | apply ktg_tup | apply ktgs_cons))
        (uss_cons (us_if (tt_view (dt_cmp (cm_ne u64) (db (df (df_lc (own := [("what", 8)]) rfl hN (dj_range1 (dq_cons (db de_int) dq_nil) m_range) (blkOk_by (by kernel_rfl)) (by decide) (fun _ _ _ _ _ => (dg_name 8 hN)) (fun _ _ _ _ _ => dts_nil) (fun _ _ _ _ _ => (de_call c_law_ask hr (by decide) tN0 (da_cons (de_var 8) (da_cons (de_var 2) (da_cons (de_var 3) (da_cons de_int da_nil))))))))) (db (de_op op_mulD (db (df (df_lst (da_cons (de_tup (da_cons de_str (da_cons de_int da_nil))) da_nil)))) (db de_int)))))
        (uss_one (us_lift (ds_ret de_bl) (by repeat (first | exact kt_next | exact kt_no | exact kt_ret | exact kt_drop | exact kt_app | exact kt_set | exact kt_own | exact kt_raise | exact kt_par | exact kta_name _ | exact ktas_nil | exact ktg_name _ | exact ktgs_nil | apply kt_seq | apply kt_if | apply kt_frz | apply kt_asg | apply kta_tup | apply kta_sq | apply ktas_cons | apply ktg_tup | apply ktgs_cons))))
        uss_nil)
        (uss_one (us_if (tt_view (dt_cmp (cm_ne u64) (db (df (df_lc (own := [("what", 8)]) rfl hN (dj_range1 (dq_cons (db de_int) dq_nil) m_range) (blkOk_by (by kernel_rfl)) (by decide) (fun _ _ _ _ _ => (dg_name 8 hN)) (fun _ _ _ _ _ => dts_nil) (fun _ _ _ _ _ => (de_call c_law_ask hr (by decide) tN0 (da_cons (de_var 8) (da_cons (de_var 2) (da_cons de_int (da_cons (de_var 3) da_nil))))))))) (db (de_op op_mulD (db (df (df_lst (da_cons (de_tup (da_cons de_str (da_cons de_int da_nil))) da_nil)))) (db de_int)))))
        (uss_one (us_lift (ds_ret de_bl) (by repeat (first | exact kt_next | exact kt_no | exact kt_ret | exact kt_drop | exact kt_app | exact kt_set | exact kt_own | exact kt_raise | exact kt_par | exact kta_name _ | exact ktas_nil | exact ktg_name _ | exact ktgs_nil | apply kt_seq | apply kt_if | apply kt_frz | apply kt_asg | apply kta_tup | apply kta_sq | apply ktas_cons | apply ktg_tup | apply ktgs_cons))))
        uss_nil)))) ?_
  refine uss_cons (us_for hp rfl (di_seq (df (df_lst (da_cons de_non (da_cons (de_neg (db de_int)) (da_cons de_int (da_cons de_str (da_cons de_bl da_nil)))))))) (dg_name 3 hN) (by repeat (first | exact kt_next | exact kt_no | exact kt_ret | exact kt_drop | exact kt_app | exact kt_set | exact kt_own | exact kt_raise | exact kt_par | exact kta_name _ | exact ktas_nil | exact ktg_name _ | exact ktgs_nil | apply kt_seq | apply kt_if | apply kt_frz | apply kt_asg | apply kta_tup | apply kta_sq | apply ktas_cons | apply ktg_tup | apply ktgs_cons))
        (uss_one (us_if (tt_cmp (cm_ne u64) (te_call1 2 c_T_law_ask hr (by decide) tk de_int (da_cons de_int (da_cons (de_var 3) da_nil))) (te_view (de_tup (da_cons de_str (da_cons de_int da_nil)))))
        (uss_one (us_lift (ds_ret de_bl) (by repeat (first | exact kt_next | exact kt_no | exact kt_ret | exact kt_drop | exact kt_app | exact kt_set | exact kt_own | exact kt_raise | exact kt_par | exact kta_name _ | exact ktas_nil | exact ktg_name _ | exact ktgs_nil | apply kt_seq | apply kt_if | apply kt_frz | apply kt_asg | apply kta_tup | apply kta_sq | apply ktas_cons | apply ktg_tup | apply ktgs_cons))))
        uss_nil))) ?_
  refine uss_cons (us_for hp rfl (di_seq (df (df_lst (da_cons (de_tup (da_cons de_int (da_cons de_int da_nil))) (da_cons (de_tup (da_cons de_int (da_cons de_int da_nil))) (da_cons (de_tup (da_cons de_int (da_cons de_int da_nil))) (da_cons (de_tup (da_cons de_int (da_cons de_int da_nil))) (da_cons (de_tup (da_cons de_int (da_cons de_int da_nil))) da_nil)))))))) (dg_tup rfl (dgs_cons (dg_name 6 hN) (dgs_cons (dg_name 7 hN) dgs_nil)) (gs_lenS (gs_lenS gs_len0))) (by repeat (first | exact kt_next | exact kt_no | exact kt_ret | exact kt_drop | exact kt_app | exact kt_set | exact kt_own | exact kt_raise | exact kt_par | exact kta_name _ | exact ktas_nil | exact ktg_name _ | exact ktgs_nil | apply kt_seq | apply kt_if | apply kt_frz | apply kt_asg | apply kta_tup | apply kta_sq | apply ktas_cons | apply ktg_tup | apply ktgs_cons))
        (uss_one (us_if (tt_cmp (cm_ne u64) (te_call1 2 c_T_law_ask hr (by decide) tk de_int (da_cons (de_var 6) (da_cons (de_var 7) da_nil))) (te_view (de_tup (da_cons de_str (da_cons de_int da_nil)))))
        (uss_one (us_lift (ds_ret de_bl) (by repeat (first | exact kt_next | exact kt_no | exact kt_ret | exact kt_drop | exact kt_app | exact kt_set | exact kt_own | exact kt_raise | exact kt_par | exact kta_name _ | exact ktas_nil | exact ktg_name _ | exact ktgs_nil | apply kt_seq | apply kt_if | apply kt_frz | apply kt_asg | apply kta_tup | apply kta_sq | apply ktas_cons | apply ktg_tup | apply ktgs_cons))))
        uss_nil))) ?_
  refine uss_cons (us_for hp rfl (di_seq (df (df_lst (da_cons (de_tup (da_cons de_int (da_cons de_int da_nil))) (da_cons (de_tup (da_cons de_int (da_cons de_int da_nil))) (da_cons (de_tup (da_cons de_int (da_cons de_int da_nil))) (da_cons (de_tup (da_cons de_int (da_cons de_int da_nil))) (da_cons (de_tup (da_cons de_int (da_cons de_int da_nil))) da_nil)))))))) (dg_tup rfl (dgs_cons (dg_name 6 hN) (dgs_cons (dg_name 7 hN) dgs_nil)) (gs_lenS (gs_lenS gs_len0))) (by repeat (first | exact kt_next | exact kt_no | exact kt_ret | exact kt_drop | exact kt_app | exact kt_set | exact kt_own | exact kt_raise | exact kt_par | exact kta_name _ | exact ktas_nil | exact ktg_name _ | exact ktgs_nil | apply kt_seq | apply kt_if | apply kt_frz | apply kt_asg | apply kta_tup | apply kta_sq | apply ktas_cons | apply ktg_tup | apply ktgs_cons))
        (uss_one (us_if (tt_cmp (cm_ne u64) (te_call1 2 c_T_law_ask hr (by decide) tk de_int (da_cons (de_var 6) (da_cons (de_var 7) da_nil))) (te_view (de_tup (da_cons de_str (da_cons de_int da_nil)))))
        (uss_one (us_lift (ds_ret de_bl) (by repeat (first | exact kt_next | exact kt_no | exact kt_ret | exact kt_drop | exact kt_app | exact kt_set | exact kt_own | exact kt_raise | exact kt_par | exact kta_name _ | exact ktas_nil | exact ktg_name _ | exact ktgs_nil | apply kt_seq | apply kt_if | apply kt_frz | apply kt_asg | apply kta_tup | apply kta_sq | apply ktas_cons | apply ktg_tup | apply ktgs_cons))))
        uss_nil))) ?_
  refine uss_cons (us_if (tt_view (dt_w (dw_or (dt_not (dt_val (db (de_call c_law_same_truth hr (by decide) tk (da_cons (de_eqR k_M___eq__ hr (by decide) (de_var 2) (de_new c_Town hr (by decide) tk (da_cons (de_var 4) (da_cons (de_var 5) (da_cons de_str da_nil))))) (da_cons de_bl da_nil)))))) (dw_or1 (dt_not (dt_val (db (de_call c_law_same_truth hr (by decide) tk (da_cons (de_eqR k_M___eq__ hr (by decide) (de_var 2) (de_strR k_M___str__ hr (by decide) (de_var 2) m_str)) (da_cons de_bl da_nil))))))))))
        (uss_one (us_lift (ds_ret de_bl) (by repeat (first | exact kt_next | exact kt_no | exact kt_ret | exact kt_drop | exact kt_app | exact kt_set | exact kt_own | exact kt_raise | exact kt_par | exact kta_name _ | exact ktas_nil | exact ktg_name _ | exact ktgs_nil | apply kt_seq | apply kt_if | apply kt_frz | apply kt_asg | apply kta_tup | apply kta_sq | apply ktas_cons | apply ktg_tup | apply ktgs_cons))))
        uss_nil) ?_
  refine uss_cons (us_if (tt_view (dt_w (dw_or (dt_not (dt_val (db (de_call c_law_same_truth hr (by decide) tk (da_cons (de_eqR k_M___eq__ hr (by decide) (de_var 2) (de_new c_Town hr (by decide) tk (da_cons (de_var 4) (da_cons (de_var 5) (da_cons de_str da_nil))))) (da_cons de_bl da_nil)))))) (dw_or1 (dt_cmp (cm_ne u64) (db (de_lenR k_M___len__ hr (by decide) (de_var 2) m_len)) (db de_int))))))
        (uss_one (us_lift (ds_ret de_bl) (by repeat (first | exact kt_next | exact kt_no | exact kt_ret | exact kt_drop | exact kt_app | exact kt_set | exact kt_own | exact kt_raise | exact kt_par | exact kta_name _ | exact ktas_nil | exact ktg_name _ | exact ktgs_nil | apply kt_seq | apply kt_if | apply kt_frz | apply kt_asg | apply kta_tup | apply kta_sq | apply ktas_cons | apply ktg_tup | apply ktgs_cons))))
        uss_nil) ?_
  refine uss_cons (us_if (tt_w (tw_or (tt_cmp cm_isn (te_meth 2 c_T_tear hr (by decide) tk (da_cons de_int (da_cons de_int da_nil))) (te_view de_non)) (tw_or1 (tt_cmp cm_isn (te_meth 2 c_T_build hr (by decide) tk (da_cons de_int (da_cons de_int da_nil))) (te_view de_non)))))
        (uss_one (us_lift (ds_ret de_bl) (by repeat (first | exact kt_next | exact kt_no | exact kt_ret | exact kt_drop | exact kt_app | exact kt_set | exact kt_own | exact kt_raise | exact kt_par | exact kta_name _ | exact ktas_nil | exact ktg_name _ | exact ktgs_nil | apply kt_seq | apply kt_if | apply kt_frz | apply kt_asg | apply kta_tup | apply kta_sq | apply ktas_cons | apply ktg_tup | apply ktgs_cons))))
        uss_nil) ?_
  refine uss_cons (us_if (tt_w (tw_or (tt_view (dt_cmp (cm_ne u64) (db (de_met0 c_M_plan hr (by decide) tk (de_var 2))) (db (de_tup (da_cons de_int (da_cons (de_tup (da_cons (de_tup (da_cons de_int (da_cons de_int da_nil))) (da_cons (de_tup (da_cons de_int (da_cons de_int da_nil))) (da_cons (de_tup (da_cons de_int (da_cons de_int da_nil))) (da_cons (de_tup (da_cons de_int (da_cons de_int da_nil))) da_nil))))) da_nil)))))) (tw_or1 (tt_cmp (cm_ne u64) (te_call1 2 c_T_law_ask hr (by decide) tk de_int (da_cons de_int (da_cons de_int da_nil))) (te_view (de_tup (da_cons de_str (da_cons de_int da_nil))))))))
        (uss_one (us_lift (ds_ret de_bl) (by repeat (first | exact kt_next | exact kt_no | exact kt_ret | exact kt_drop | exact kt_app | exact kt_set | exact kt_own | exact kt_raise | exact kt_par | exact kta_name _ | exact ktas_nil | exact ktg_name _ | exact ktgs_nil | apply kt_seq | apply kt_if | apply kt_frz | apply kt_asg | apply kta_tup | apply kta_sq | apply ktas_cons | apply ktg_tup | apply ktgs_cons))))
        uss_nil) ?_
  refine uss_cons (us_if (tt_w (tw_or (tt_cmp (cm_ne u64) (te_meth0 2 c_T_back hr (by decide) tk) (te_view de_str)) (tw_or1 (tt_cmp (cm_ne u64) (te_meth0 2 c_T_back hr (by decide) tk) (te_view de_str)))))
        (uss_one (us_lift (ds_ret de_bl) (by repeat (first | exact kt_next | exact kt_no | exact kt_ret | exact kt_drop | exact kt_app | exact kt_set | exact kt_own | exact kt_raise | exact kt_par | exact kta_name _ | exact ktas_nil | exact ktg_name _ | exact ktgs_nil | apply kt_seq | apply kt_if | apply kt_frz | apply kt_asg | apply kta_tup | apply kta_sq | apply ktas_cons | apply ktg_tup | apply ktgs_cons))))
        uss_nil) ?_
  exact (uss_one (us_ret (te_view (de_call c_law_same_truth hr (by decide) tk (da_cons (de_eqR k_M___eq__ hr (by decide) (de_var 2) (de_new c_Town hr (by decide) tk (da_cons (de_var 4) (da_cons (de_var 5) (da_cons de_str da_nil))))) (da_cons de_bl da_nil))))))
theorem ok_M_holds (c_holds_of : CalD P w K mg base 9 "holds_of" 3 g_holds_of) {fa : Addr} {fd : FuncData} (Fn : Fun K "holds" "Town.holds" s_M_holds fa fd) : FnOk P w K mg base (L2N.CX P w) 10 fa fd ["self"] (spD K mg 1 g_M_holds) := by
  refine def_ok Fn sc_M_holds fun cdv A outer s H E hr => ?_
  have u0 := hr.units0
  have u1 := hu_of hr
  have u64 := hr.units
  have u65 := u65_of hr
  have u10 := u10_of hr
  have u20 := u20_of hr
  have hN := sc_M_holds.nd
  have tk := bX_takes (P := P) (w := w) (K := K) (mg := mg) (base := base) (N := ["self"]) (qual := "Town.holds") (st := s_M_holds) (f := fa) (cdv := cdv) (A := A) (outer := outer) (s := s) (H := H) (E := E)
  have hp := bX_pass (P := P) (w := w) (K := K) (mg := mg) (base := base) (N := ["self"]) (qual := "Town.holds") (st := s_M_holds) (f := fa) (cdv := cdv) (A := A) (outer := outer) (s := s) (H := H) (E := E)
  exact (dss_one (ds_ret (de_call c_holds_of hr (by decide) tk (da_cons (de_ix u1 (db (de_how (db (de_var 0)))) (db de_int)) (da_cons (de_ix u1 (db (de_how (db (de_var 0)))) (db de_int)) (da_cons (de_claim (db (de_var 0))) da_nil))))))
theorem ok_M_marks  {fa : Addr} {fd : FuncData} (Fn : Fun K "marks" "Town.marks" s_M_marks fa fd) : FnOk P w K mg base (L2N.CX P w) 1 fa fd ["self"] (spD K mg 1 g_M_marks) := by
  refine def_ok Fn sc_M_marks fun cdv A outer s H E hr => ?_
  have u0 := hr.units0
  have u1 := hu_of hr
  have u64 := hr.units
  have u65 := u65_of hr
  have u10 := u10_of hr
  have u20 := u20_of hr
  have hN := sc_M_marks.nd
  have tk := bX_takes (P := P) (w := w) (K := K) (mg := mg) (base := base) (N := ["self"]) (qual := "Town.marks") (st := s_M_marks) (f := fa) (cdv := cdv) (A := A) (outer := outer) (s := s) (H := H) (E := E)
  have hp := bX_pass (P := P) (w := w) (K := K) (mg := mg) (base := base) (N := ["self"]) (qual := "Town.marks") (st := s_M_marks) (f := fa) (cdv := cdv) (A := A) (outer := outer) (s := s) (H := H) (E := E)
  exact (dss_one (ds_ret (de_ix u1 (db (de_how (db (de_var 0)))) (db de_int))))
theorem ok_M_letters  {fa : Addr} {fd : FuncData} (Fn : Fun K "letters" "Town.letters" s_M_letters fa fd) : FnOk P w K mg base (L2N.CX P w) 1 fa fd ["self"] (spD K mg 1 g_M_letters) := by
  refine def_ok Fn sc_M_letters fun cdv A outer s H E hr => ?_
  have u0 := hr.units0
  have u1 := hu_of hr
  have u64 := hr.units
  have u65 := u65_of hr
  have u10 := u10_of hr
  have u20 := u20_of hr
  have hN := sc_M_letters.nd
  have tk := bX_takes (P := P) (w := w) (K := K) (mg := mg) (base := base) (N := ["self"]) (qual := "Town.letters") (st := s_M_letters) (f := fa) (cdv := cdv) (A := A) (outer := outer) (s := s) (H := H) (E := E)
  have hp := bX_pass (P := P) (w := w) (K := K) (mg := mg) (base := base) (N := ["self"]) (qual := "Town.letters") (st := s_M_letters) (f := fa) (cdv := cdv) (A := A) (outer := outer) (s := s) (H := H) (E := E)
  exact (dss_one (ds_ret (de_ix u1 (db (de_how (db (de_var 0)))) (db de_int))))
abbrev s_law_which : Stmt := topS 77
theorem sc_law_which : FnScope ["e", "own"] ["e"] (defScope s_law_which) := ⟨rfl, rfl, rfl, by decide +kernel, rfl, by decide +kernel, by decide +kernel⟩
theorem ok_law_which (m_isinstance : mg "isinstance" = none) (m_ValueError : mg "ValueError" = none) {E0 c0 c1 c2 c3 c4 c5 c6 c7 c8 c9 c10 c11 c12 : Addr} (wk : WhK K mg E0 [c0, c1, c2, c3, c4, c5, c6, c7, c8, c9, c10, c11, c12]) {fa : Addr} {fd : FuncData} (Fn : Fun K "_law_which" "_law_which" s_law_which fa fd) (gm : mg "_law_which" = some (.ref fa)) (bn : Binds K fd ["e"] []) : WhD P w K mg base [c0, c1, c2, c3, c4, c5, c6, c7, c8, c9, c10, c11, c12] "_law_which" := by
  refine ⟨fa, fd, _, _, Fn, gm, Fn.kp, bn, sc_law_which, fun k C hk cv A o z G Z a oe rm hz hf => ?_⟩
  have hu := rm.un
  have hu : (A.deeper (envOfC "_law_which" (defScope s_law_which) z.heap.objs.size fa cv)).units + 65 < cLine := by omega
  obtain ⟨q1, q2, q3, q4⟩ := wk.at hk
  have hk13 : k < 13 := (List.getElem?_eq_some_iff.mp hk).1
  have ci := call_isP (X := L2H.cxH (L2N.CX P w) P w K mg base ["e", "own"] "_law_which" (defScope s_law_which) fa cv A o z G Z (a, oe)) q1 (List.mem_singleton.mpr rfl) hz hf
  exact PSs.imp (pss_cons (ps_isSet (pa_is1 (pe_is ci (q4 0 _ rfl) (wk.g 0 _ _ rfl rfl) m_isinstance) (pa_is1 (pe_is ci (q4 1 _ rfl) (wk.g 1 _ _ rfl rfl) m_isinstance) (pa_is1 (pe_is ci (q4 2 _ rfl) (wk.g 2 _ _ rfl rfl) m_isinstance) (pa_is1 (pe_is ci (q4 3 _ rfl) (wk.g 3 _ _ rfl rfl) m_isinstance) pa_is0)))) sc_law_which.nd rfl (Or.inl rfl)) (pss_cons (ps_isExt (pa_is1 (pe_is ci (q4 4 _ rfl) (wk.g 4 _ _ rfl rfl) m_isinstance) (pa_is1 (pe_is ci (q4 5 _ rfl) (wk.g 5 _ _ rfl rfl) m_isinstance) (pa_is1 (pe_is ci (q4 6 _ rfl) (wk.g 6 _ _ rfl rfl) m_isinstance) (pa_is1 (pe_is ci (q4 7 _ rfl) (wk.g 7 _ _ rfl rfl) m_isinstance) pa_is0))))) (pss_cons (ps_isExt (pa_is1 (pe_is ci (q4 8 _ rfl) (wk.g 8 _ _ rfl rfl) m_isinstance) (pa_is1 (pe_is ci (q4 9 _ rfl) (wk.g 9 _ _ rfl rfl) m_isinstance) (pa_is1 (pe_is ci (q4 10 _ rfl) (wk.g 10 _ _ rfl rfl) m_isinstance) (pa_is1 (pe_is ci (q4 11 _ rfl) (wk.g 11 _ _ rfl rfl) m_isinstance) pa_is0))))) (pss_cons (ps_isApp (pe_is ci (q4 12 _ rfl) (wk.g 12 _ _ rfl rfl) m_isinstance)) (pss_cons (ps_isIf (pe_isCount hu) (pe_isB ci q3 m_ValueError rfl m_isinstance)) (pss_one (ps_isRet (pe_isIndex hu)))))))) fun D σ H h => wh_read hk13 h
end
theorem all_mk {l : PySem.W.OpenLaw} {w : World} {K : PySem.W.Frag} {h : Heap} {mg : Str → Option Value} {fa : Addr} (X : K.In h) (G : h.Ns mainGlobals mg) (hfa : mg "law" = some (.ref fa)) (run : ∀ ns : List Int, ns.length ≤ 63 → lawRunT 9 F_law ns)
    {t_HOUSES : Tok}
    {t_HIGH : Tok}
    {t_LOW : Tok}
    {a_WORDS : Addr} {d_WORDS : Option Addr} {n_WORDS : Nat} {sl_WORDS : Array (Option Value)}
    {t_WORDS_0 t_WORDS_1 t_WORDS_2 t_WORDS_3 t_WORDS_4 t_WORDS_5 t_WORDS_6 t_WORDS_7 : Tok}
    {a_BONDS : Addr} {d_BONDS : Option Addr} {n_BONDS : Nat} {sl_BONDS : Array (Option Value)}
    {t_BONDS_0 t_BONDS_1 : Tok}
    {t_MOST : Tok}
    {a_SIZES : Addr} {n_SIZES : Nat} {t_SIZES_0 t_SIZES_1 t_SIZES_2 t_SIZES_3 t_SIZES_4 t_SIZES_5 t_SIZES_6 t_SIZES_7 t_SIZES_8 t_SIZES_9 t_SIZES_10 t_SIZES_11 t_SIZES_12 t_SIZES_13 t_SIZES_14 t_SIZES_15 : Tok}
    {e_DoorError : Addr}
    {e_NoPlan : Addr}
    {e_NoMarks : Addr}
    {e_NoClaim : Addr}
    {e_NotSo : Addr}
    {e_NoLetters : Addr}
    {e_NoHouse : Addr}
    {e_NoView : Addr}
    {e_NoRule : Addr}
    {e_NoCount : Addr}
    {e_TooMany : Addr}
    {e_NoText : Addr}
    {e_NoStreet : Addr}
    {e_Nothing : Addr}
    {fW : Addr} {odW anW : Option Addr} {slW : Array (Option Value)} {ocW kVW dcW pmW cdW ctW : Value}
    {CT : Addr}
    {f0 : Addr} {od0 an0 : Option Addr} {sl0 : Array (Option Value)} {oc0 kV0 dc0 pm0 cd0 ct0 : Value}
    {f1 : Addr} {od1 an1 : Option Addr} {sl1 : Array (Option Value)} {oc1 kV1 dc1 pm1 cd1 ct1 : Value}
    {f2 : Addr} {od2 an2 : Option Addr} {sl2 : Array (Option Value)} {oc2 kV2 dc2 pm2 cd2 ct2 : Value}
    {f3 : Addr} {od3 an3 : Option Addr} {sl3 : Array (Option Value)} {oc3 kV3 dc3 pm3 cd3 ct3 : Value}
    {f4 : Addr} {od4 an4 : Option Addr} {sl4 : Array (Option Value)} {oc4 kV4 dc4 pm4 cd4 ct4 : Value}
    {f5 : Addr} {od5 an5 : Option Addr} {sl5 : Array (Option Value)} {oc5 kV5 dc5 pm5 cd5 ct5 : Value}
    {f6 : Addr} {od6 an6 : Option Addr} {sl6 : Array (Option Value)} {oc6 kV6 dc6 pm6 cd6 ct6 : Value}
    {f7 : Addr} {od7 an7 : Option Addr} {sl7 : Array (Option Value)} {oc7 kV7 dc7 pm7 cd7 ct7 : Value}
    {f8 : Addr} {od8 an8 : Option Addr} {sl8 : Array (Option Value)} {oc8 kV8 dc8 pm8 cd8 ct8 : Value}
    {f9 : Addr} {od9 an9 : Option Addr} {sl9 : Array (Option Value)} {oc9 kV9 dc9 pm9 cd9 ct9 : Value}
    {f10 : Addr} {od10 an10 : Option Addr} {sl10 : Array (Option Value)} {oc10 kV10 dc10 pm10 cd10 ct10 : Value}
    {f11 : Addr} {od11 an11 : Option Addr} {sl11 : Array (Option Value)} {oc11 kV11 dc11 pm11 cd11 ct11 : Value}
    {f12 : Addr} {od12 an12 : Option Addr} {sl12 : Array (Option Value)} {oc12 kV12 dc12 pm12 cd12 ct12 : Value}
    {f13 : Addr} {od13 an13 : Option Addr} {sl13 : Array (Option Value)} {oc13 kV13 dc13 pm13 cd13 ct13 : Value}
    {f14 : Addr} {od14 an14 : Option Addr} {sl14 : Array (Option Value)} {oc14 kV14 dc14 pm14 cd14 ct14 : Value}
    {f15 : Addr} {od15 an15 : Option Addr} {sl15 : Array (Option Value)} {oc15 kV15 dc15 pm15 cd15 ct15 : Value}
    {f16 : Addr} {od16 an16 : Option Addr} {sl16 : Array (Option Value)} {oc16 kV16 dc16 pm16 cd16 ct16 : Value}
    {f17 : Addr} {od17 an17 : Option Addr} {sl17 : Array (Option Value)} {oc17 kV17 dc17 pm17 cd17 ct17 : Value}
    {f18 : Addr} {od18 an18 : Option Addr} {sl18 : Array (Option Value)} {oc18 kV18 dc18 pm18 cd18 ct18 : Value}
    {f19 : Addr} {od19 an19 : Option Addr} {sl19 : Array (Option Value)} {oc19 kV19 dc19 pm19 cd19 ct19 : Value}
    {f20 : Addr} {od20 an20 : Option Addr} {sl20 : Array (Option Value)} {oc20 kV20 dc20 pm20 cd20 ct20 : Value}
    {f21 : Addr} {od21 an21 : Option Addr} {sl21 : Array (Option Value)} {oc21 kV21 dc21 pm21 cd21 ct21 : Value}
    {f22 : Addr} {od22 an22 : Option Addr} {sl22 : Array (Option Value)} {oc22 kV22 dc22 pm22 cd22 ct22 : Value}
    {f23 : Addr} {od23 an23 : Option Addr} {sl23 : Array (Option Value)} {oc23 kV23 dc23 pm23 cd23 ct23 : Value}
    {f24 : Addr} {od24 an24 : Option Addr} {sl24 : Array (Option Value)} {oc24 kV24 dc24 pm24 cd24 ct24 : Value}
    {f25 : Addr} {od25 an25 : Option Addr} {sl25 : Array (Option Value)} {oc25 kV25 dc25 pm25 cd25 ct25 : Value}
    {f26 : Addr} {od26 an26 : Option Addr} {sl26 : Array (Option Value)} {oc26 kV26 dc26 pm26 cd26 ct26 : Value}
    {f27 : Addr} {od27 an27 : Option Addr} {sl27 : Array (Option Value)} {oc27 kV27 dc27 pm27 cd27 ct27 : Value}
    {f28 : Addr} {od28 an28 : Option Addr} {sl28 : Array (Option Value)} {oc28 kV28 dc28 pm28 cd28 ct28 : Value}
    {f29 : Addr} {od29 an29 : Option Addr} {sl29 : Array (Option Value)} {oc29 kV29 dc29 pm29 cd29 ct29 : Value}
    {f30 : Addr} {od30 an30 : Option Addr} {sl30 : Array (Option Value)} {oc30 kV30 dc30 pm30 cd30 ct30 : Value}
    {f31 : Addr} {od31 an31 : Option Addr} {sl31 : Array (Option Value)} {oc31 kV31 dc31 pm31 cd31 ct31 : Value}
    {f32 : Addr} {od32 an32 : Option Addr} {sl32 : Array (Option Value)} {oc32 kV32 dc32 pm32 cd32 ct32 : Value}
    {f33 : Addr} {od33 an33 : Option Addr} {sl33 : Array (Option Value)} {oc33 kV33 dc33 pm33 cd33 ct33 : Value}
    {f34 : Addr} {od34 an34 : Option Addr} {sl34 : Array (Option Value)} {oc34 kV34 dc34 pm34 cd34 ct34 : Value}
    {f35 : Addr} {od35 an35 : Option Addr} {sl35 : Array (Option Value)} {oc35 kV35 dc35 pm35 cd35 ct35 : Value}
    {f36 : Addr} {od36 an36 : Option Addr} {sl36 : Array (Option Value)} {oc36 kV36 dc36 pm36 cd36 ct36 : Value}
    {f37 : Addr} {od37 an37 : Option Addr} {sl37 : Array (Option Value)} {oc37 kV37 dc37 pm37 cd37 ct37 : Value}
    {f38 : Addr} {od38 an38 : Option Addr} {sl38 : Array (Option Value)} {oc38 kV38 dc38 pm38 cd38 ct38 : Value}
    {f39 : Addr} {od39 an39 : Option Addr} {sl39 : Array (Option Value)} {oc39 kV39 dc39 pm39 cd39 ct39 : Value}
    {f40 : Addr} {od40 an40 : Option Addr} {sl40 : Array (Option Value)} {oc40 kV40 dc40 pm40 cd40 ct40 : Value}
    {f41 : Addr} {od41 an41 : Option Addr} {sl41 : Array (Option Value)} {oc41 kV41 dc41 pm41 cd41 ct41 : Value}
    {f42 : Addr} {od42 an42 : Option Addr} {sl42 : Array (Option Value)} {oc42 kV42 dc42 pm42 cd42 ct42 : Value}
    {f43 : Addr} {od43 an43 : Option Addr} {sl43 : Array (Option Value)} {oc43 kV43 dc43 pm43 cd43 ct43 : Value}
    {f44 : Addr} {od44 an44 : Option Addr} {sl44 : Array (Option Value)} {oc44 kV44 dc44 pm44 cd44 ct44 : Value}
    {f45 : Addr} {od45 an45 : Option Addr} {sl45 : Array (Option Value)} {oc45 kV45 dc45 pm45 cd45 ct45 : Value}
    {f46 : Addr} {od46 an46 : Option Addr} {sl46 : Array (Option Value)} {oc46 kV46 dc46 pm46 cd46 ct46 : Value}
    {f47 : Addr} {od47 an47 : Option Addr} {sl47 : Array (Option Value)} {oc47 kV47 dc47 pm47 cd47 ct47 : Value}
    {f48 : Addr} {od48 an48 : Option Addr} {sl48 : Array (Option Value)} {oc48 kV48 dc48 pm48 cd48 ct48 : Value}
    {f49 : Addr} {od49 an49 : Option Addr} {sl49 : Array (Option Value)} {oc49 kV49 dc49 pm49 cd49 ct49 : Value}
    {f50 : Addr} {od50 an50 : Option Addr} {sl50 : Array (Option Value)} {oc50 kV50 dc50 pm50 cd50 ct50 : Value}
    {f51 : Addr} {od51 an51 : Option Addr} {sl51 : Array (Option Value)} {oc51 kV51 dc51 pm51 cd51 ct51 : Value}
    {f52 : Addr} {od52 an52 : Option Addr} {sl52 : Array (Option Value)} {oc52 kV52 dc52 pm52 cd52 ct52 : Value}
    {f53 : Addr} {od53 an53 : Option Addr} {sl53 : Array (Option Value)} {oc53 kV53 dc53 pm53 cd53 ct53 : Value}
    {f54 : Addr} {od54 an54 : Option Addr} {sl54 : Array (Option Value)} {oc54 kV54 dc54 pm54 cd54 ct54 : Value}
    {f55 : Addr} {od55 an55 : Option Addr} {sl55 : Array (Option Value)} {oc55 kV55 dc55 pm55 cd55 ct55 : Value}
    {f56 : Addr} {od56 an56 : Option Addr} {sl56 : Array (Option Value)} {oc56 kV56 dc56 pm56 cd56 ct56 : Value}
    {f58 : Addr} {od58 an58 : Option Addr} {sl58 : Array (Option Value)} {oc58 kV58 dc58 pm58 cd58 ct58 : Value}
    {f65 : Addr} {od65 an65 : Option Addr} {sl65 : Array (Option Value)} {oc65 kV65 dc65 pm65 cd65 ct65 : Value}
    {f66 : Addr} {od66 an66 : Option Addr} {sl66 : Array (Option Value)} {oc66 kV66 dc66 pm66 cd66 ct66 : Value}
    {f67 : Addr} {od67 an67 : Option Addr} {sl67 : Array (Option Value)} {oc67 kV67 dc67 pm67 cd67 ct67 : Value}
    {f68 : Addr} {od68 an68 : Option Addr} {sl68 : Array (Option Value)} {oc68 kV68 dc68 pm68 cd68 ct68 : Value}
    {f69 : Addr} {od69 an69 : Option Addr} {sl69 : Array (Option Value)} {oc69 kV69 dc69 pm69 cd69 ct69 : Value}
    {f70 : Addr} {od70 an70 : Option Addr} {sl70 : Array (Option Value)} {oc70 kV70 dc70 pm70 cd70 ct70 : Value}
    {f71 : Addr} {od71 an71 : Option Addr} {sl71 : Array (Option Value)} {oc71 kV71 dc71 pm71 cd71 ct71 : Value}
    {f72 : Addr} {od72 an72 : Option Addr} {sl72 : Array (Option Value)} {oc72 kV72 dc72 pm72 cd72 ct72 : Value}
    {f73 : Addr} {od73 an73 : Option Addr} {sl73 : Array (Option Value)} {oc73 kV73 dc73 pm73 cd73 ct73 : Value}
    (z_isinstance : PySem.W.nsIn K mainGlobals "isinstance" = some none)
    (z_bool : PySem.W.nsIn K mainGlobals "bool" = some none)
    (z_int : PySem.W.nsIn K mainGlobals "int" = some none)
    (z_all : PySem.W.nsIn K mainGlobals "all" = some none)
    (z_len : PySem.W.nsIn K mainGlobals "len" = some none)
    (z_tuple : PySem.W.nsIn K mainGlobals "tuple" = some none)
    (z_sorted : PySem.W.nsIn K mainGlobals "sorted" = some none)
    (z_list : PySem.W.nsIn K mainGlobals "list" = some none)
    (z_range : PySem.W.nsIn K mainGlobals "range" = some none)
    (z_zip : PySem.W.nsIn K mainGlobals "zip" = some none)
    (z_str : PySem.W.nsIn K mainGlobals "str" = some none)
    (z_enumerate : PySem.W.nsIn K mainGlobals "enumerate" = some none)
    (z_min : PySem.W.nsIn K mainGlobals "min" = some none)
    (z_sum : PySem.W.nsIn K mainGlobals "sum" = some none)
    (z_any : PySem.W.nsIn K mainGlobals "any" = some none)
    (z_max : PySem.W.nsIn K mainGlobals "max" = some none)
    (z_ValueError : PySem.W.nsIn K mainGlobals "ValueError" = some none)
    (v_HOUSES : PySem.W.nsIn K mainGlobals "HOUSES" = some (some (.int 8 t_HOUSES)))
    (v_HIGH : PySem.W.nsIn K mainGlobals "HIGH" = some (some (.int 9 t_HIGH)))
    (v_LOW : PySem.W.nsIn K mainGlobals "LOW" = some (some (.int (-1) t_LOW)))
    (v_WORDS : PySem.W.nsIn K mainGlobals "WORDS" = some (some (.ref a_WORDS)))
    (l_WORDS : K.lookup a_WORDS = some ⟨.type "tuple", d_WORDS, .seq #[.str "leads" t_WORDS_0, .str "one" t_WORDS_1, .str "two" t_WORDS_2, .str "joined" t_WORDS_3, .str "wells" t_WORDS_4, .str "count" t_WORDS_5, .str "ring" t_WORDS_6, .str "even" t_WORDS_7] n_WORDS, sl_WORDS⟩)
    (v_BONDS : PySem.W.nsIn K mainGlobals "BONDS" = some (some (.ref a_BONDS)))
    (l_BONDS : K.lookup a_BONDS = some ⟨.type "tuple", d_BONDS, .seq #[.str "both" t_BONDS_0, .str "either" t_BONDS_1] n_BONDS, sl_BONDS⟩)
    (v_MOST : PySem.W.nsIn K mainGlobals "MOST" = some (some (.int 3 t_MOST)))
    (v_SIZES : PySem.W.nsIn K mainGlobals "SIZES" = some (some (.ref a_SIZES)))
    (l_SIZES : K.lookup a_SIZES = some ⟨.type "dict", none, .dict #[⟨PyData.keyHash w.params ("leads" : Str), .str ("leads" : Str) t_SIZES_0, .int 2 t_SIZES_1⟩, ⟨PyData.keyHash w.params ("one" : Str), .str ("one" : Str) t_SIZES_2, .int 2 t_SIZES_3⟩, ⟨PyData.keyHash w.params ("two" : Str), .str ("two" : Str) t_SIZES_4, .int 0 t_SIZES_5⟩, ⟨PyData.keyHash w.params ("joined" : Str), .str ("joined" : Str) t_SIZES_6, .int 3 t_SIZES_7⟩, ⟨PyData.keyHash w.params ("wells" : Str), .str ("wells" : Str) t_SIZES_8, .int 0 t_SIZES_9⟩, ⟨PyData.keyHash w.params ("count" : Str), .str ("count" : Str) t_SIZES_10, .int 3 t_SIZES_11⟩, ⟨PyData.keyHash w.params ("ring" : Str), .str ("ring" : Str) t_SIZES_12, .int 1 t_SIZES_13⟩, ⟨PyData.keyHash w.params ("even" : Str), .str ("even" : Str) t_SIZES_14, .int 3 t_SIZES_15⟩] n_SIZES, #[]⟩)
    (y_DoorError : PySem.W.nsIn K mainGlobals "DoorError" = some (some (.ref e_DoorError)))
    (y_NoPlan : PySem.W.nsIn K mainGlobals "NoPlan" = some (some (.ref e_NoPlan)))
    (y_NoMarks : PySem.W.nsIn K mainGlobals "NoMarks" = some (some (.ref e_NoMarks)))
    (y_NoClaim : PySem.W.nsIn K mainGlobals "NoClaim" = some (some (.ref e_NoClaim)))
    (y_NotSo : PySem.W.nsIn K mainGlobals "NotSo" = some (some (.ref e_NotSo)))
    (y_NoLetters : PySem.W.nsIn K mainGlobals "NoLetters" = some (some (.ref e_NoLetters)))
    (y_NoHouse : PySem.W.nsIn K mainGlobals "NoHouse" = some (some (.ref e_NoHouse)))
    (y_NoView : PySem.W.nsIn K mainGlobals "NoView" = some (some (.ref e_NoView)))
    (y_NoRule : PySem.W.nsIn K mainGlobals "NoRule" = some (some (.ref e_NoRule)))
    (y_NoCount : PySem.W.nsIn K mainGlobals "NoCount" = some (some (.ref e_NoCount)))
    (y_TooMany : PySem.W.nsIn K mainGlobals "TooMany" = some (some (.ref e_TooMany)))
    (y_NoText : PySem.W.nsIn K mainGlobals "NoText" = some (some (.ref e_NoText)))
    (y_NoStreet : PySem.W.nsIn K mainGlobals "NoStreet" = some (some (.ref e_NoStreet)))
    (y_Nothing : PySem.W.nsIn K mainGlobals "Nothing" = some (some (.ref e_Nothing)))
    (yx_NoPlan : PySem.W.excIn K e_NoPlan [.type "ValueError", .type "Exception", .type "BaseException", .type "object"] "ValueError.__new__" = true)
    (yk_NoPlan : PySem.W.keepIn K (.ref e_NoPlan) = true)
    (yb_NoPlan : PySem.W.subIn K (.ref e_NoPlan) (.type "BaseException") = some true)
    (yt_NoPlan : PySem.W.typeIn K (.ref e_NoPlan) = some (.type "type"))
    (yx_NoHouse : PySem.W.excIn K e_NoHouse [.type "ValueError", .type "Exception", .type "BaseException", .type "object"] "ValueError.__new__" = true)
    (yk_NoHouse : PySem.W.keepIn K (.ref e_NoHouse) = true)
    (yb_NoHouse : PySem.W.subIn K (.ref e_NoHouse) (.type "BaseException") = some true)
    (yt_NoHouse : PySem.W.typeIn K (.ref e_NoHouse) = some (.type "type"))
    (yx_NoMarks : PySem.W.excIn K e_NoMarks [.type "ValueError", .type "Exception", .type "BaseException", .type "object"] "ValueError.__new__" = true)
    (yk_NoMarks : PySem.W.keepIn K (.ref e_NoMarks) = true)
    (yb_NoMarks : PySem.W.subIn K (.ref e_NoMarks) (.type "BaseException") = some true)
    (yt_NoMarks : PySem.W.typeIn K (.ref e_NoMarks) = some (.type "type"))
    (yx_NoClaim : PySem.W.excIn K e_NoClaim [.type "ValueError", .type "Exception", .type "BaseException", .type "object"] "ValueError.__new__" = true)
    (yk_NoClaim : PySem.W.keepIn K (.ref e_NoClaim) = true)
    (yb_NoClaim : PySem.W.subIn K (.ref e_NoClaim) (.type "BaseException") = some true)
    (yt_NoClaim : PySem.W.typeIn K (.ref e_NoClaim) = some (.type "type"))
    (yx_NotSo : PySem.W.excIn K e_NotSo [.type "ValueError", .type "Exception", .type "BaseException", .type "object"] "ValueError.__new__" = true)
    (yk_NotSo : PySem.W.keepIn K (.ref e_NotSo) = true)
    (yb_NotSo : PySem.W.subIn K (.ref e_NotSo) (.type "BaseException") = some true)
    (yt_NotSo : PySem.W.typeIn K (.ref e_NotSo) = some (.type "type"))
    (yx_NoStreet : PySem.W.excIn K e_NoStreet [.type "ValueError", .type "Exception", .type "BaseException", .type "object"] "ValueError.__new__" = true)
    (yk_NoStreet : PySem.W.keepIn K (.ref e_NoStreet) = true)
    (yb_NoStreet : PySem.W.subIn K (.ref e_NoStreet) (.type "BaseException") = some true)
    (yt_NoStreet : PySem.W.typeIn K (.ref e_NoStreet) = some (.type "type"))
    (yx_Nothing : PySem.W.excIn K e_Nothing [.type "ValueError", .type "Exception", .type "BaseException", .type "object"] "ValueError.__new__" = true)
    (yk_Nothing : PySem.W.keepIn K (.ref e_Nothing) = true)
    (yb_Nothing : PySem.W.subIn K (.ref e_Nothing) (.type "BaseException") = some true)
    (yt_Nothing : PySem.W.typeIn K (.ref e_Nothing) = some (.type "type"))
    (ywh : whOk K e_DoorError [e_NoPlan, e_NoMarks, e_NoClaim, e_NotSo, e_NoLetters, e_NoHouse, e_NoView, e_NoRule, e_NoCount, e_TooMany, e_NoText, e_NoStreet, e_Nothing] = true)
    (aW : PySem.W.nsIn K mainGlobals "_law_which" = some (some (.ref fW)))
    (lW : K.lookup fW = some ⟨ocW, odW, .func (PySem.W.fnOf "_law_which" "_law_which" (defArgs s_law_which) (defBody s_law_which) (defScope s_law_which) .none kVW dcW pmW anW cdW ctW), slW⟩)
    (cW : PySem.W.codeIn K cdW "_law_which" = true)
    (kW : PySem.W.keepIn K (.ref fW) = true)
    (tOwn : PySem.W.nsIn K mainGlobals "Town" = some (some (.ref CT)))
    (tPg : PySem.W.plainGet K CT Str.empty = true)
    (tHd : PySem.W.hasDictIn K CT = true)
    (tPo : PySem.W.plainOver K CT = true)
    (tSa : PySem.W.findIn K (.ref CT) "__setattr__" = some (some (.builtin "object.__setattr__")))
    (tNc : PySem.W.findIn K (.ref CT) "claim" = some none)
    (tNh : PySem.W.findIn K (.ref CT) "how" = some none)
    (tNp : PySem.W.findIn K (.ref CT) "past" = some none)
    (tNq : PySem.W.findIn K (.ref CT) "calls" = some none)
    (tHa : PySem.W.findIn K (.ref CT) "__class__" = some (some (.builtin "object.__class__")))
    (tHn : PySem.W.specialIn K (.builtin "object.__class__") "__get__" = some (some (.builtin "getset_descriptor.__get__")))
    (tHk : PySem.W.takesIn K (.builtin "object.__class__") = some true)
    (tHm : PySem.W.mroIn K CT (.type "object") = some true)
    (tKi : PySem.W.kitOne K (.ref CT) (.type "int") = some false)
    (tKb : PySem.W.kitOne K (.ref CT) (.type "bool") = some false)
    (tKs : PySem.W.kitOne K (.ref CT) (.type "str") = some false)
    (tKt : PySem.W.kitOne K (.ref CT) (.type "tuple") = some false)
    (tMk : PySem.W.makesIn K CT = true)
    (tKp : PySem.W.keepIn K (.ref CT) = true)
    (tSf : PySem.W.kitOne K (.ref CT) (.ref CT) = some true)
    (tOt : (["NoneType", "bool", "int", "str", "tuple", "list", "dict"].all fun T => (PySem.W.kitOne K (.type T) (.ref CT) == some false) && PySem.W.notFirst K CT (.type T)) = true)
    (a0 : PySem.W.nsIn K mainGlobals "_wall" = some (some (.ref f0)))
    (l0 : K.lookup f0 = some ⟨oc0, od0, .func (PySem.W.fnOf "_wall" "_wall" (defArgs s_wall) (defBody s_wall) (defScope s_wall) .none kV0 dc0 pm0 an0 cd0 ct0), sl0⟩)
    (c0 : PySem.W.codeIn K cd0 "_wall" = true)
    (k0 : PySem.W.keepIn K (.ref f0) = true)
    (a1 : PySem.W.nsIn K mainGlobals "is_whole" = some (some (.ref f1)))
    (l1 : K.lookup f1 = some ⟨oc1, od1, .func (PySem.W.fnOf "is_whole" "is_whole" (defArgs s_is_whole) (defBody s_is_whole) (defScope s_is_whole) .none kV1 dc1 pm1 an1 cd1 ct1), sl1⟩)
    (c1 : PySem.W.codeIn K cd1 "is_whole" = true)
    (k1 : PySem.W.keepIn K (.ref f1) = true)
    (a2 : PySem.W.nsIn K mainGlobals "is_any_whole" = some (some (.ref f2)))
    (l2 : K.lookup f2 = some ⟨oc2, od2, .func (PySem.W.fnOf "is_any_whole" "is_any_whole" (defArgs s_is_any_whole) (defBody s_is_any_whole) (defScope s_is_any_whole) .none kV2 dc2 pm2 an2 cd2 ct2), sl2⟩)
    (c2 : PySem.W.codeIn K cd2 "is_any_whole" = true)
    (k2 : PySem.W.keepIn K (.ref f2) = true)
    (a3 : PySem.W.nsIn K mainGlobals "is_street" = some (some (.ref f3)))
    (l3 : K.lookup f3 = some ⟨oc3, od3, .func (PySem.W.fnOf "is_street" "is_street" (defArgs s_is_street) (defBody s_is_street) (defScope s_is_street) .none kV3 dc3 pm3 an3 cd3 ct3), sl3⟩)
    (c3 : PySem.W.codeIn K cd3 "is_street" = true)
    (k3 : PySem.W.keepIn K (.ref f3) = true)
    (a4 : PySem.W.nsIn K mainGlobals "doors_of" = some (some (.ref f4)))
    (l4 : K.lookup f4 = some ⟨oc4, od4, .func (PySem.W.fnOf "doors_of" "doors_of" (defArgs s_doors_of) (defBody s_doors_of) (defScope s_doors_of) .none kV4 dc4 pm4 an4 cd4 ct4), sl4⟩)
    (c4 : PySem.W.codeIn K cd4 "doors_of" = true)
    (k4 : PySem.W.keepIn K (.ref f4) = true)
    (a5 : PySem.W.nsIn K mainGlobals "ways_from" = some (some (.ref f5)))
    (l5 : K.lookup f5 = some ⟨oc5, od5, .func (PySem.W.fnOf "ways_from" "ways_from" (defArgs s_ways_from) (defBody s_ways_from) (defScope s_ways_from) .none kV5 dc5 pm5 an5 cd5 ct5), sl5⟩)
    (c5 : PySem.W.codeIn K cd5 "ways_from" = true)
    (k5 : PySem.W.keepIn K (.ref f5) = true)
    (a6 : PySem.W.nsIn K mainGlobals "all_ways" = some (some (.ref f6)))
    (l6 : K.lookup f6 = some ⟨oc6, od6, .func (PySem.W.fnOf "all_ways" "all_ways" (defArgs s_all_ways) (defBody s_all_ways) (defScope s_all_ways) .none kV6 dc6 pm6 an6 cd6 ct6), sl6⟩)
    (c6 : PySem.W.codeIn K cd6 "all_ways" = true)
    (k6 : PySem.W.keepIn K (.ref f6) = true)
    (a7 : PySem.W.nsIn K mainGlobals "good_plan" = some (some (.ref f7)))
    (l7 : K.lookup f7 = some ⟨oc7, od7, .func (PySem.W.fnOf "good_plan" "good_plan" (defArgs s_good_plan) (defBody s_good_plan) (defScope s_good_plan) .none kV7 dc7 pm7 an7 cd7 ct7), sl7⟩)
    (c7 : PySem.W.codeIn K cd7 "good_plan" = true)
    (k7 : PySem.W.keepIn K (.ref f7) = true)
    (a8 : PySem.W.nsIn K mainGlobals "need_plan" = some (some (.ref f8)))
    (l8 : K.lookup f8 = some ⟨oc8, od8, .func (PySem.W.fnOf "need_plan" "need_plan" (defArgs s_need_plan) (defBody s_need_plan) (defScope s_need_plan) .none kV8 dc8 pm8 an8 cd8 ct8), sl8⟩)
    (c8 : PySem.W.codeIn K cd8 "need_plan" = true)
    (k8 : PySem.W.keepIn K (.ref f8) = true)
    (a9 : PySem.W.nsIn K mainGlobals "need_house" = some (some (.ref f9)))
    (l9 : K.lookup f9 = some ⟨oc9, od9, .func (PySem.W.fnOf "need_house" "need_house" (defArgs s_need_house) (defBody s_need_house) (defScope s_need_house) .none kV9 dc9 pm9 an9 cd9 ct9), sl9⟩)
    (c9 : PySem.W.codeIn K cd9 "need_house" = true)
    (k9 : PySem.W.keepIn K (.ref f9) = true)
    (a10 : PySem.W.nsIn K mainGlobals "is_mark" = some (some (.ref f10)))
    (l10 : K.lookup f10 = some ⟨oc10, od10, .func (PySem.W.fnOf "is_mark" "is_mark" (defArgs s_is_mark) (defBody s_is_mark) (defScope s_is_mark) .none kV10 dc10 pm10 an10 cd10 ct10), sl10⟩)
    (c10 : PySem.W.codeIn K cd10 "is_mark" = true)
    (k10 : PySem.W.keepIn K (.ref f10) = true)
    (a11 : PySem.W.nsIn K mainGlobals "good_marks" = some (some (.ref f11)))
    (l11 : K.lookup f11 = some ⟨oc11, od11, .func (PySem.W.fnOf "good_marks" "good_marks" (defArgs s_good_marks) (defBody s_good_marks) (defScope s_good_marks) .none kV11 dc11 pm11 an11 cd11 ct11), sl11⟩)
    (c11 : PySem.W.codeIn K cd11 "good_marks" = true)
    (k11 : PySem.W.keepIn K (.ref f11) = true)
    (a12 : PySem.W.nsIn K mainGlobals "need_marks" = some (some (.ref f12)))
    (l12 : K.lookup f12 = some ⟨oc12, od12, .func (PySem.W.fnOf "need_marks" "need_marks" (defArgs s_need_marks) (defBody s_need_marks) (defScope s_need_marks) .none kV12 dc12 pm12 an12 cd12 ct12), sl12⟩)
    (c12 : PySem.W.codeIn K cd12 "need_marks" = true)
    (k12 : PySem.W.keepIn K (.ref f12) = true)
    (a13 : PySem.W.nsIn K mainGlobals "words_in" = some (some (.ref f13)))
    (l13 : K.lookup f13 = some ⟨oc13, od13, .func (PySem.W.fnOf "words_in" "words_in" (defArgs s_words_in) (defBody s_words_in) (defScope s_words_in) .none kV13 dc13 pm13 an13 cd13 ct13), sl13⟩)
    (c13 : PySem.W.codeIn K cd13 "words_in" = true)
    (k13 : PySem.W.keepIn K (.ref f13) = true)
    (a14 : PySem.W.nsIn K mainGlobals "good_claim" = some (some (.ref f14)))
    (l14 : K.lookup f14 = some ⟨oc14, od14, .func (PySem.W.fnOf "good_claim" "good_claim" (defArgs s_good_claim) (defBody s_good_claim) (defScope s_good_claim) .none kV14 dc14 pm14 an14 cd14 ct14), sl14⟩)
    (c14 : PySem.W.codeIn K cd14 "good_claim" = true)
    (k14 : PySem.W.keepIn K (.ref f14) = true)
    (a15 : PySem.W.nsIn K mainGlobals "need_claim" = some (some (.ref f15)))
    (l15 : K.lookup f15 = some ⟨oc15, od15, .func (PySem.W.fnOf "need_claim" "need_claim" (defArgs s_need_claim) (defBody s_need_claim) (defScope s_need_claim) .none kV15 dc15 pm15 an15 cd15 ct15), sl15⟩)
    (c15 : PySem.W.codeIn K cd15 "need_claim" = true)
    (k15 : PySem.W.keepIn K (.ref f15) = true)
    (a16 : PySem.W.nsIn K mainGlobals "are_bits" = some (some (.ref f16)))
    (l16 : K.lookup f16 = some ⟨oc16, od16, .func (PySem.W.fnOf "are_bits" "are_bits" (defArgs s_are_bits) (defBody s_are_bits) (defScope s_are_bits) .none kV16 dc16 pm16 an16 cd16 ct16), sl16⟩)
    (c16 : PySem.W.codeIn K cd16 "are_bits" = true)
    (k16 : PySem.W.keepIn K (.ref f16) = true)
    (a17 : PySem.W.nsIn K mainGlobals "steps_by" = some (some (.ref f17)))
    (l17 : K.lookup f17 = some ⟨oc17, od17, .func (PySem.W.fnOf "steps_by" "steps_by" (defArgs s_steps_by) (defBody s_steps_by) (defScope s_steps_by) .none kV17 dc17 pm17 an17 cd17 ct17), sl17⟩)
    (c17 : PySem.W.codeIn K cd17 "steps_by" = true)
    (k17 : PySem.W.keepIn K (.ref f17) = true)
    (a18 : PySem.W.nsIn K mainGlobals "leads" = some (some (.ref f18)))
    (l18 : K.lookup f18 = some ⟨oc18, od18, .func (PySem.W.fnOf "leads" "leads" (defArgs s_leads) (defBody s_leads) (defScope s_leads) .none kV18 dc18 pm18 an18 cd18 ct18), sl18⟩)
    (c18 : PySem.W.codeIn K cd18 "leads" = true)
    (k18 : PySem.W.keepIn K (.ref f18) = true)
    (a19 : PySem.W.nsIn K mainGlobals "marked" = some (some (.ref f19)))
    (l19 : K.lookup f19 = some ⟨oc19, od19, .func (PySem.W.fnOf "marked" "marked" (defArgs s_marked) (defBody s_marked) (defScope s_marked) .none kV19 dc19 pm19 an19 cd19 ct19), sl19⟩)
    (c19 : PySem.W.codeIn K cd19 "marked" = true)
    (k19 : PySem.W.keepIn K (.ref f19) = true)
    (a20 : PySem.W.nsIn K mainGlobals "joined" = some (some (.ref f20)))
    (l20 : K.lookup f20 = some ⟨oc20, od20, .func (PySem.W.fnOf "joined" "joined" (defArgs s_joined) (defBody s_joined) (defScope s_joined) .none kV20 dc20 pm20 an20 cd20 ct20), sl20⟩)
    (c20 : PySem.W.codeIn K cd20 "joined" = true)
    (k20 : PySem.W.keepIn K (.ref f20) = true)
    (a21 : PySem.W.nsIn K mainGlobals "wells" = some (some (.ref f21)))
    (l21 : K.lookup f21 = some ⟨oc21, od21, .func (PySem.W.fnOf "wells" "wells" (defArgs s_wells) (defBody s_wells) (defScope s_wells) .none kV21 dc21 pm21 an21 cd21 ct21), sl21⟩)
    (c21 : PySem.W.codeIn K cd21 "wells" = true)
    (k21 : PySem.W.keepIn K (.ref f21) = true)
    (a22 : PySem.W.nsIn K mainGlobals "holds_word" = some (some (.ref f22)))
    (l22 : K.lookup f22 = some ⟨oc22, od22, .func (PySem.W.fnOf "holds_word" "holds_word" (defArgs s_holds_word) (defBody s_holds_word) (defScope s_holds_word) .none kV22 dc22 pm22 an22 cd22 ct22), sl22⟩)
    (c22 : PySem.W.codeIn K cd22 "holds_word" = true)
    (k22 : PySem.W.keepIn K (.ref f22) = true)
    (a23 : PySem.W.nsIn K mainGlobals "holds_of" = some (some (.ref f23)))
    (l23 : K.lookup f23 = some ⟨oc23, od23, .func (PySem.W.fnOf "holds_of" "holds_of" (defArgs s_holds_of) (defBody s_holds_of) (defScope s_holds_of) .none kV23 dc23 pm23 an23 cd23 ct23), sl23⟩)
    (c23 : PySem.W.codeIn K cd23 "holds_of" = true)
    (k23 : PySem.W.keepIn K (.ref f23) = true)
    (a24 : PySem.W.nsIn K mainGlobals "tos_of" = some (some (.ref f24)))
    (l24 : K.lookup f24 = some ⟨oc24, od24, .func (PySem.W.fnOf "tos_of" "tos_of" (defArgs s_tos_of) (defBody s_tos_of) (defScope s_tos_of) .none kV24 dc24 pm24 an24 cd24 ct24), sl24⟩)
    (c24 : PySem.W.codeIn K cd24 "tos_of" = true)
    (k24 : PySem.W.keepIn K (.ref f24) = true)
    (a25 : PySem.W.nsIn K mainGlobals "below_of" = some (some (.ref f25)))
    (l25 : K.lookup f25 = some ⟨oc25, od25, .func (PySem.W.fnOf "below_of" "below_of" (defArgs s_below_of) (defBody s_below_of) (defScope s_below_of) .none kV25 dc25 pm25 an25 cd25 ct25), sl25⟩)
    (c25 : PySem.W.codeIn K cd25 "below_of" = true)
    (k25 : PySem.W.keepIn K (.ref f25) = true)
    (a26 : PySem.W.nsIn K mainGlobals "tree_letters" = some (some (.ref f26)))
    (l26 : K.lookup f26 = some ⟨oc26, od26, .func (PySem.W.fnOf "tree_letters" "tree_letters" (defArgs s_tree_letters) (defBody s_tree_letters) (defScope s_tree_letters) .none kV26 dc26 pm26 an26 cd26 ct26), sl26⟩)
    (c26 : PySem.W.codeIn K cd26 "tree_letters" = true)
    (k26 : PySem.W.keepIn K (.ref f26) = true)
    (a27 : PySem.W.nsIn K mainGlobals "joined_letters" = some (some (.ref f27)))
    (l27 : K.lookup f27 = some ⟨oc27, od27, .func (PySem.W.fnOf "joined_letters" "joined_letters" (defArgs s_joined_letters) (defBody s_joined_letters) (defScope s_joined_letters) .none kV27 dc27 pm27 an27 cd27 ct27), sl27⟩)
    (c27 : PySem.W.codeIn K cd27 "joined_letters" = true)
    (k27 : PySem.W.keepIn K (.ref f27) = true)
    (a28 : PySem.W.nsIn K mainGlobals "word_letters" = some (some (.ref f28)))
    (l28 : K.lookup f28 = some ⟨oc28, od28, .func (PySem.W.fnOf "word_letters" "word_letters" (defArgs s_word_letters) (defBody s_word_letters) (defScope s_word_letters) .none kV28 dc28 pm28 an28 cd28 ct28), sl28⟩)
    (c28 : PySem.W.codeIn K cd28 "word_letters" = true)
    (k28 : PySem.W.keepIn K (.ref f28) = true)
    (a29 : PySem.W.nsIn K mainGlobals "letters_of" = some (some (.ref f29)))
    (l29 : K.lookup f29 = some ⟨oc29, od29, .func (PySem.W.fnOf "letters_of" "letters_of" (defArgs s_letters_of) (defBody s_letters_of) (defScope s_letters_of) .none kV29 dc29 pm29 an29 cd29 ct29), sl29⟩)
    (c29 : PySem.W.codeIn K cd29 "letters_of" = true)
    (k29 : PySem.W.keepIn K (.ref f29) = true)
    (a30 : PySem.W.nsIn K mainGlobals "view_of" = some (some (.ref f30)))
    (l30 : K.lookup f30 = some ⟨oc30, od30, .func (PySem.W.fnOf "view_of" "view_of" (defArgs s_view_of) (defBody s_view_of) (defScope s_view_of) .none kV30 dc30 pm30 an30 cd30 ct30), sl30⟩)
    (c30 : PySem.W.codeIn K cd30 "view_of" = true)
    (k30 : PySem.W.keepIn K (.ref f30) = true)
    (a31 : PySem.W.nsIn K mainGlobals "are_wholes" = some (some (.ref f31)))
    (l31 : K.lookup f31 = some ⟨oc31, od31, .func (PySem.W.fnOf "are_wholes" "are_wholes" (defArgs s_are_wholes) (defBody s_are_wholes) (defScope s_are_wholes) .none kV31 dc31 pm31 an31 cd31 ct31), sl31⟩)
    (c31 : PySem.W.codeIn K cd31 "are_wholes" = true)
    (k31 : PySem.W.keepIn K (.ref f31) = true)
    (a32 : PySem.W.nsIn K mainGlobals "says_leads" = some (some (.ref f32)))
    (l32 : K.lookup f32 = some ⟨oc32, od32, .func (PySem.W.fnOf "says_leads" "says_leads" (defArgs s_says_leads) (defBody s_says_leads) (defScope s_says_leads) .none kV32 dc32 pm32 an32 cd32 ct32), sl32⟩)
    (c32 : PySem.W.codeIn K cd32 "says_leads" = true)
    (k32 : PySem.W.keepIn K (.ref f32) = true)
    (a33 : PySem.W.nsIn K mainGlobals "says_one" = some (some (.ref f33)))
    (l33 : K.lookup f33 = some ⟨oc33, od33, .func (PySem.W.fnOf "says_one" "says_one" (defArgs s_says_one) (defBody s_says_one) (defScope s_says_one) .none kV33 dc33 pm33 an33 cd33 ct33), sl33⟩)
    (c33 : PySem.W.codeIn K cd33 "says_one" = true)
    (k33 : PySem.W.keepIn K (.ref f33) = true)
    (a34 : PySem.W.nsIn K mainGlobals "says_two" = some (some (.ref f34)))
    (l34 : K.lookup f34 = some ⟨oc34, od34, .func (PySem.W.fnOf "says_two" "says_two" (defArgs s_says_two) (defBody s_says_two) (defScope s_says_two) .none kV34 dc34 pm34 an34 cd34 ct34), sl34⟩)
    (c34 : PySem.W.codeIn K cd34 "says_two" = true)
    (k34 : PySem.W.keepIn K (.ref f34) = true)
    (a35 : PySem.W.nsIn K mainGlobals "says_wells" = some (some (.ref f35)))
    (l35 : K.lookup f35 = some ⟨oc35, od35, .func (PySem.W.fnOf "says_wells" "says_wells" (defArgs s_says_wells) (defBody s_says_wells) (defScope s_says_wells) .none kV35 dc35 pm35 an35 cd35 ct35), sl35⟩)
    (c35 : PySem.W.codeIn K cd35 "says_wells" = true)
    (k35 : PySem.W.keepIn K (.ref f35) = true)
    (a36 : PySem.W.nsIn K mainGlobals "says_joined" = some (some (.ref f36)))
    (l36 : K.lookup f36 = some ⟨oc36, od36, .func (PySem.W.fnOf "says_joined" "says_joined" (defArgs s_says_joined) (defBody s_says_joined) (defScope s_says_joined) .none kV36 dc36 pm36 an36 cd36 ct36), sl36⟩)
    (c36 : PySem.W.codeIn K cd36 "says_joined" = true)
    (k36 : PySem.W.keepIn K (.ref f36) = true)
    (a37 : PySem.W.nsIn K mainGlobals "says_tree" = some (some (.ref f37)))
    (l37 : K.lookup f37 = some ⟨oc37, od37, .func (PySem.W.fnOf "says_tree" "says_tree" (defArgs s_says_tree) (defBody s_says_tree) (defScope s_says_tree) .none kV37 dc37 pm37 an37 cd37 ct37), sl37⟩)
    (c37 : PySem.W.codeIn K cd37 "says_tree" = true)
    (k37 : PySem.W.keepIn K (.ref f37) = true)
    (a38 : PySem.W.nsIn K mainGlobals "belows" = some (some (.ref f38)))
    (l38 : K.lookup f38 = some ⟨oc38, od38, .func (PySem.W.fnOf "belows" "belows" (defArgs s_belows) (defBody s_belows) (defScope s_belows) .none kV38 dc38 pm38 an38 cd38 ct38), sl38⟩)
    (c38 : PySem.W.codeIn K cd38 "belows" = true)
    (k38 : PySem.W.keepIn K (.ref f38) = true)
    (a39 : PySem.W.nsIn K mainGlobals "says_count" = some (some (.ref f39)))
    (l39 : K.lookup f39 = some ⟨oc39, od39, .func (PySem.W.fnOf "says_count" "says_count" (defArgs s_says_count) (defBody s_says_count) (defScope s_says_count) .none kV39 dc39 pm39 an39 cd39 ct39), sl39⟩)
    (c39 : PySem.W.codeIn K cd39 "says_count" = true)
    (k39 : PySem.W.keepIn K (.ref f39) = true)
    (a40 : PySem.W.nsIn K mainGlobals "says_even" = some (some (.ref f40)))
    (l40 : K.lookup f40 = some ⟨oc40, od40, .func (PySem.W.fnOf "says_even" "says_even" (defArgs s_says_even) (defBody s_says_even) (defScope s_says_even) .none kV40 dc40 pm40 an40 cd40 ct40), sl40⟩)
    (c40 : PySem.W.codeIn K cd40 "says_even" = true)
    (k40 : PySem.W.keepIn K (.ref f40) = true)
    (a41 : PySem.W.nsIn K mainGlobals "says_ring" = some (some (.ref f41)))
    (l41 : K.lookup f41 = some ⟨oc41, od41, .func (PySem.W.fnOf "says_ring" "says_ring" (defArgs s_says_ring) (defBody s_says_ring) (defScope s_says_ring) .none kV41 dc41 pm41 an41 cd41 ct41), sl41⟩)
    (c41 : PySem.W.codeIn K cd41 "says_ring" = true)
    (k41 : PySem.W.keepIn K (.ref f41) = true)
    (a42 : PySem.W.nsIn K mainGlobals "says_word" = some (some (.ref f42)))
    (l42 : K.lookup f42 = some ⟨oc42, od42, .func (PySem.W.fnOf "says_word" "says_word" (defArgs s_says_word) (defBody s_says_word) (defScope s_says_word) .none kV42 dc42 pm42 an42 cd42 ct42), sl42⟩)
    (c42 : PySem.W.codeIn K cd42 "says_word" = true)
    (k42 : PySem.W.keepIn K (.ref f42) = true)
    (a43 : PySem.W.nsIn K mainGlobals "is_pair" = some (some (.ref f43)))
    (l43 : K.lookup f43 = some ⟨oc43, od43, .func (PySem.W.fnOf "is_pair" "is_pair" (defArgs s_is_pair) (defBody s_is_pair) (defScope s_is_pair) .none kV43 dc43 pm43 an43 cd43 ct43), sl43⟩)
    (c43 : PySem.W.codeIn K cd43 "is_pair" = true)
    (k43 : PySem.W.keepIn K (.ref f43) = true)
    (a44 : PySem.W.nsIn K mainGlobals "part_of" = some (some (.ref f44)))
    (l44 : K.lookup f44 = some ⟨oc44, od44, .func (PySem.W.fnOf "part_of" "part_of" (defArgs s_part_of) (defBody s_part_of) (defScope s_part_of) .none kV44 dc44 pm44 an44 cd44 ct44), sl44⟩)
    (c44 : PySem.W.codeIn K cd44 "part_of" = true)
    (k44 : PySem.W.keepIn K (.ref f44) = true)
    (a45 : PySem.W.nsIn K mainGlobals "says_of" = some (some (.ref f45)))
    (l45 : K.lookup f45 = some ⟨oc45, od45, .func (PySem.W.fnOf "says_of" "says_of" (defArgs s_says_of) (defBody s_says_of) (defScope s_says_of) .none kV45 dc45 pm45 an45 cd45 ct45), sl45⟩)
    (c45 : PySem.W.codeIn K cd45 "says_of" = true)
    (k45 : PySem.W.keepIn K (.ref f45) = true)
    (a46 : PySem.W.nsIn K mainGlobals "noes_of" = some (some (.ref f46)))
    (l46 : K.lookup f46 = some ⟨oc46, od46, .func (PySem.W.fnOf "noes_of" "noes_of" (defArgs s_noes_of) (defBody s_noes_of) (defScope s_noes_of) .none kV46 dc46 pm46 an46 cd46 ct46), sl46⟩)
    (c46 : PySem.W.codeIn K cd46 "noes_of" = true)
    (k46 : PySem.W.keepIn K (.ref f46) = true)
    (a47 : PySem.W.nsIn K mainGlobals "_law_same_truth" = some (some (.ref f47)))
    (l47 : K.lookup f47 = some ⟨oc47, od47, .func (PySem.W.fnOf "_law_same_truth" "_law_same_truth" (defArgs s_law_same_truth) (defBody s_law_same_truth) (defScope s_law_same_truth) .none kV47 dc47 pm47 an47 cd47 ct47), sl47⟩)
    (c47 : PySem.W.codeIn K cd47 "_law_same_truth" = true)
    (k47 : PySem.W.keepIn K (.ref f47) = true)
    (i48 : PySem.W.findIn K (.ref CT) "make" = some (some (.ref f48)))
    (l48 : K.lookup f48 = some ⟨oc48, od48, .func (PySem.W.fnOf "make" "Town.make" (defArgs s_M_make) (defBody s_M_make) (defScope s_M_make) .none kV48 dc48 pm48 an48 cd48 ct48), sl48⟩)
    (c48 : PySem.W.codeIn K cd48 "Town.make" = true)
    (k48 : PySem.W.keepIn K (.ref f48) = true)
    (n48 : PySem.W.isFn K (.ref f48) = true)
    (i49 : PySem.W.findIn K (.ref CT) "turn" = some (some (.ref f49)))
    (l49 : K.lookup f49 = some ⟨oc49, od49, .func (PySem.W.fnOf "turn" "Town.turn" (defArgs s_M_turn) (defBody s_M_turn) (defScope s_M_turn) .none kV49 dc49 pm49 an49 cd49 ct49), sl49⟩)
    (c49 : PySem.W.codeIn K cd49 "Town.turn" = true)
    (k49 : PySem.W.keepIn K (.ref f49) = true)
    (n49 : PySem.W.isFn K (.ref f49) = true)
    (i50 : PySem.W.findIn K (.ref CT) "hand" = some (some (.ref f50)))
    (l50 : K.lookup f50 = some ⟨oc50, od50, .func (PySem.W.fnOf "hand" "Town.hand" (defArgs s_M_hand) (defBody s_M_hand) (defScope s_M_hand) .none kV50 dc50 pm50 an50 cd50 ct50), sl50⟩)
    (c50 : PySem.W.codeIn K cd50 "Town.hand" = true)
    (k50 : PySem.W.keepIn K (.ref f50) = true)
    (n50 : PySem.W.isFn K (.ref f50) = true)
    (i51 : PySem.W.findIn K (.ref CT) "with_streets" = some (some (.ref f51)))
    (l51 : K.lookup f51 = some ⟨oc51, od51, .func (PySem.W.fnOf "with_streets" "Town.with_streets" (defArgs s_M_with_streets) (defBody s_M_with_streets) (defScope s_M_with_streets) .none kV51 dc51 pm51 an51 cd51 ct51), sl51⟩)
    (c51 : PySem.W.codeIn K cd51 "Town.with_streets" = true)
    (k51 : PySem.W.keepIn K (.ref f51) = true)
    (n51 : PySem.W.isFn K (.ref f51) = true)
    (i52 : PySem.W.findIn K (.ref CT) "build" = some (some (.ref f52)))
    (l52 : K.lookup f52 = some ⟨oc52, od52, .func (PySem.W.fnOf "build" "Town.build" (defArgs s_M_build) (defBody s_M_build) (defScope s_M_build) .none kV52 dc52 pm52 an52 cd52 ct52), sl52⟩)
    (c52 : PySem.W.codeIn K cd52 "Town.build" = true)
    (k52 : PySem.W.keepIn K (.ref f52) = true)
    (n52 : PySem.W.isFn K (.ref f52) = true)
    (i53 : PySem.W.findIn K (.ref CT) "tear" = some (some (.ref f53)))
    (l53 : K.lookup f53 = some ⟨oc53, od53, .func (PySem.W.fnOf "tear" "Town.tear" (defArgs s_M_tear) (defBody s_M_tear) (defScope s_M_tear) .none kV53 dc53 pm53 an53 cd53 ct53), sl53⟩)
    (c53 : PySem.W.codeIn K cd53 "Town.tear" = true)
    (k53 : PySem.W.keepIn K (.ref f53) = true)
    (n53 : PySem.W.isFn K (.ref f53) = true)
    (a54 : PySem.W.nsIn K mainGlobals "_law_ask" = some (some (.ref f54)))
    (l54 : K.lookup f54 = some ⟨oc54, od54, .func (PySem.W.fnOf "_law_ask" "_law_ask" (defArgs s_law_ask) (defBody s_law_ask) (defScope s_law_ask) .none kV54 dc54 pm54 an54 cd54 ct54), sl54⟩)
    (c54 : PySem.W.codeIn K cd54 "_law_ask" = true)
    (k54 : PySem.W.keepIn K (.ref f54) = true)
    (i55 : PySem.W.findIn K (.ref CT) "__init__" = some (some (.ref f55)))
    (l55 : K.lookup f55 = some ⟨oc55, od55, .func (PySem.W.fnOf "__init__" "Town.__init__" (defArgs s_Town) (defBody s_Town) (defScope s_Town) .none kV55 dc55 pm55 an55 cd55 ct55), sl55⟩)
    (c55 : PySem.W.codeIn K cd55 "Town.__init__" = true)
    (k55 : PySem.W.keepIn K (.ref f55) = true)
    (n55 : PySem.W.isFn K (.ref f55) = true)
    (i56 : PySem.W.findIn K (.ref CT) "call" = some (some (.ref f56)))
    (l56 : K.lookup f56 = some ⟨oc56, od56, .func (PySem.W.fnOf "call" "Town.call" (defArgs s_T_call) (defBody s_T_call) (defScope s_T_call) .none kV56 dc56 pm56 an56 cd56 ct56), sl56⟩)
    (c56 : PySem.W.codeIn K cd56 "Town.call" = true)
    (k56 : PySem.W.keepIn K (.ref f56) = true)
    (n56 : PySem.W.isFn K (.ref f56) = true)
    (i58 : PySem.W.findIn K (.ref CT) "back" = some (some (.ref f58)))
    (l58 : K.lookup f58 = some ⟨oc58, od58, .func (PySem.W.fnOf "back" "Town.back" (defArgs s_T_back) (defBody s_T_back) (defScope s_T_back) .none kV58 dc58 pm58 an58 cd58 ct58), sl58⟩)
    (c58 : PySem.W.codeIn K cd58 "Town.back" = true)
    (k58 : PySem.W.keepIn K (.ref f58) = true)
    (n58 : PySem.W.isFn K (.ref f58) = true)
    (i65 : PySem.W.findIn K (.ref CT) "__eq__" = some (some (.ref f65)))
    (l65 : K.lookup f65 = some ⟨oc65, od65, .func (PySem.W.fnOf "__eq__" "Town.__eq__" (defArgs s_M___eq__) (defBody s_M___eq__) (defScope s_M___eq__) .none kV65 dc65 pm65 an65 cd65 ct65), sl65⟩)
    (c65 : PySem.W.codeIn K cd65 "Town.__eq__" = true)
    (k65 : PySem.W.keepIn K (.ref f65) = true)
    (n65 : PySem.W.isFn K (.ref f65) = true)
    (i66 : PySem.W.findIn K (.ref CT) "__str__" = some (some (.ref f66)))
    (l66 : K.lookup f66 = some ⟨oc66, od66, .func (PySem.W.fnOf "__str__" "Town.__str__" (defArgs s_M___str__) (defBody s_M___str__) (defScope s_M___str__) .none kV66 dc66 pm66 an66 cd66 ct66), sl66⟩)
    (c66 : PySem.W.codeIn K cd66 "Town.__str__" = true)
    (k66 : PySem.W.keepIn K (.ref f66) = true)
    (n66 : PySem.W.isFn K (.ref f66) = true)
    (i67 : PySem.W.findIn K (.ref CT) "noes" = some (some (.ref f67)))
    (l67 : K.lookup f67 = some ⟨oc67, od67, .func (PySem.W.fnOf "noes" "Town.noes" (defArgs s_M_noes) (defBody s_M_noes) (defScope s_M_noes) .none kV67 dc67 pm67 an67 cd67 ct67), sl67⟩)
    (c67 : PySem.W.codeIn K cd67 "Town.noes" = true)
    (k67 : PySem.W.keepIn K (.ref f67) = true)
    (n67 : PySem.W.isFn K (.ref f67) = true)
    (i68 : PySem.W.findIn K (.ref CT) "__len__" = some (some (.ref f68)))
    (l68 : K.lookup f68 = some ⟨oc68, od68, .func (PySem.W.fnOf "__len__" "Town.__len__" (defArgs s_M___len__) (defBody s_M___len__) (defScope s_M___len__) .none kV68 dc68 pm68 an68 cd68 ct68), sl68⟩)
    (c68 : PySem.W.codeIn K cd68 "Town.__len__" = true)
    (k68 : PySem.W.keepIn K (.ref f68) = true)
    (n68 : PySem.W.isFn K (.ref f68) = true)
    (i69 : PySem.W.findIn K (.ref CT) "plan" = some (some (.ref f69)))
    (l69 : K.lookup f69 = some ⟨oc69, od69, .func (PySem.W.fnOf "plan" "Town.plan" (defArgs s_M_plan) (defBody s_M_plan) (defScope s_M_plan) .none kV69 dc69 pm69 an69 cd69 ct69), sl69⟩)
    (c69 : PySem.W.codeIn K cd69 "Town.plan" = true)
    (k69 : PySem.W.keepIn K (.ref f69) = true)
    (n69 : PySem.W.isFn K (.ref f69) = true)
    (a70 : PySem.W.nsIn K mainGlobals "law" = some (some (.ref f70)))
    (l70 : K.lookup f70 = some ⟨oc70, od70, .func (PySem.W.fnOf "law" "law" (defArgs s_law) (defBody s_law) (defScope s_law) .none kV70 dc70 pm70 an70 cd70 ct70), sl70⟩)
    (c70 : PySem.W.codeIn K cd70 "law" = true)
    (k70 : PySem.W.keepIn K (.ref f70) = true)
    (i71 : PySem.W.findIn K (.ref CT) "holds" = some (some (.ref f71)))
    (l71 : K.lookup f71 = some ⟨oc71, od71, .func (PySem.W.fnOf "holds" "Town.holds" (defArgs s_M_holds) (defBody s_M_holds) (defScope s_M_holds) .none kV71 dc71 pm71 an71 cd71 ct71), sl71⟩)
    (c71 : PySem.W.codeIn K cd71 "Town.holds" = true)
    (k71 : PySem.W.keepIn K (.ref f71) = true)
    (n71 : PySem.W.isFn K (.ref f71) = true)
    (i72 : PySem.W.findIn K (.ref CT) "marks" = some (some (.ref f72)))
    (l72 : K.lookup f72 = some ⟨oc72, od72, .func (PySem.W.fnOf "marks" "Town.marks" (defArgs s_M_marks) (defBody s_M_marks) (defScope s_M_marks) .none kV72 dc72 pm72 an72 cd72 ct72), sl72⟩)
    (c72 : PySem.W.codeIn K cd72 "Town.marks" = true)
    (k72 : PySem.W.keepIn K (.ref f72) = true)
    (n72 : PySem.W.isFn K (.ref f72) = true)
    (i73 : PySem.W.findIn K (.ref CT) "letters" = some (some (.ref f73)))
    (l73 : K.lookup f73 = some ⟨oc73, od73, .func (PySem.W.fnOf "letters" "Town.letters" (defArgs s_M_letters) (defBody s_M_letters) (defScope s_M_letters) .none kV73 dc73 pm73 an73 cd73 ct73), sl73⟩)
    (c73 : PySem.W.codeIn K cd73 "Town.letters" = true)
    (k73 : PySem.W.keepIn K (.ref f73) = true)
    (n73 : PySem.W.isFn K (.ref f73) = true) :
    ∃ fd : FuncData, (∀ (s : Shared) (v : Value), BindsTo s fd ⟨[v], []⟩ [("script", v)]) ∧ ∀ base : Heap, K.In base → base.Ns mainGlobals mg → FnOk l.prog w K mg base (L2N.CX l.prog w) 19 fa fd ["script"] (spLaw K) := by
  have e := hfa.symm.trans (PySem.W.mg_of X G a70)
  cases e
  refine ⟨PySem.W.fnOf "law" "law" (defArgs s_law) (defBody s_law) (defScope s_law) .none kV70 dc70 pm70 an70 cd70 ct70, fun s v => .of_eq rfl, fun base _ _ => ?_⟩
  have m_isinstance := PySem.W.mg_none_of X G z_isinstance
  have m_bool := PySem.W.mg_none_of X G z_bool
  have m_int := PySem.W.mg_none_of X G z_int
  have m_all := PySem.W.mg_none_of X G z_all
  have m_len := PySem.W.mg_none_of X G z_len
  have m_tuple := PySem.W.mg_none_of X G z_tuple
  have m_sorted := PySem.W.mg_none_of X G z_sorted
  have m_list := PySem.W.mg_none_of X G z_list
  have m_range := PySem.W.mg_none_of X G z_range
  have m_zip := PySem.W.mg_none_of X G z_zip
  have m_str := PySem.W.mg_none_of X G z_str
  have m_enumerate := PySem.W.mg_none_of X G z_enumerate
  have m_min := PySem.W.mg_none_of X G z_min
  have m_sum := PySem.W.mg_none_of X G z_sum
  have m_any := PySem.W.mg_none_of X G z_any
  have m_max := PySem.W.mg_none_of X G z_max
  have m_ValueError := PySem.W.mg_none_of X G z_ValueError
  have gl_HOUSES : GlD K mg "HOUSES" c_HOUSES := gl_int (PySem.W.mg_of X G v_HOUSES)
  have gl_HIGH : GlD K mg "HIGH" c_HIGH := gl_int (PySem.W.mg_of X G v_HIGH)
  have gl_LOW : GlD K mg "LOW" c_LOW := gl_int (PySem.W.mg_of X G v_LOW)
  have gl_WORDS : GlD K mg "WORDS" c_WORDS := gl_strs (PySem.W.mg_of X G v_WORDS) l_WORDS rfl
  have gl_BONDS : GlD K mg "BONDS" c_BONDS := gl_strs (PySem.W.mg_of X G v_BONDS) l_BONDS rfl
  have gl_MOST : GlD K mg "MOST" c_MOST := gl_int (PySem.W.mg_of X G v_MOST)
  have gl_SIZES : GDic w K mg "SIZES" c_SIZES := ⟨_, _, _, _, PySem.W.mg_of X G v_SIZES, l_SIZES, by first | exact ⟨rfl, rfl, rfl⟩ | exact ⟨rfl, rfl⟩, rfl, (.cons (.cons (.cons (.cons (.cons (.cons (.cons (.cons .nil))))))))⟩
  have x_NoPlan : ExK K mg "NoPlan" e_NoPlan := ⟨PySem.W.mg_of X G y_NoPlan, yx_NoPlan, yk_NoPlan, yb_NoPlan, yt_NoPlan⟩
  have x_NoHouse : ExK K mg "NoHouse" e_NoHouse := ⟨PySem.W.mg_of X G y_NoHouse, yx_NoHouse, yk_NoHouse, yb_NoHouse, yt_NoHouse⟩
  have x_NoMarks : ExK K mg "NoMarks" e_NoMarks := ⟨PySem.W.mg_of X G y_NoMarks, yx_NoMarks, yk_NoMarks, yb_NoMarks, yt_NoMarks⟩
  have x_NoClaim : ExK K mg "NoClaim" e_NoClaim := ⟨PySem.W.mg_of X G y_NoClaim, yx_NoClaim, yk_NoClaim, yb_NoClaim, yt_NoClaim⟩
  have x_NotSo : ExK K mg "NotSo" e_NotSo := ⟨PySem.W.mg_of X G y_NotSo, yx_NotSo, yk_NotSo, yb_NotSo, yt_NotSo⟩
  have x_NoStreet : ExK K mg "NoStreet" e_NoStreet := ⟨PySem.W.mg_of X G y_NoStreet, yx_NoStreet, yk_NoStreet, yb_NoStreet, yt_NoStreet⟩
  have x_Nothing : ExK K mg "Nothing" e_Nothing := ⟨PySem.W.mg_of X G y_Nothing, yx_Nothing, yk_Nothing, yb_Nothing, yt_Nothing⟩
  have wk : WhK K mg e_DoorError [e_NoPlan, e_NoMarks, e_NoClaim, e_NotSo, e_NoLetters, e_NoHouse, e_NoView, e_NoRule, e_NoCount, e_TooMany, e_NoText, e_NoStreet, e_Nothing] := ⟨PySem.W.mg_of X G y_DoorError, fun i c C h1 h2 => wh_g (PySem.W.mg_of X G y_NoPlan) (PySem.W.mg_of X G y_NoMarks) (PySem.W.mg_of X G y_NoClaim) (PySem.W.mg_of X G y_NotSo) (PySem.W.mg_of X G y_NoLetters) (PySem.W.mg_of X G y_NoHouse) (PySem.W.mg_of X G y_NoView) (PySem.W.mg_of X G y_NoRule) (PySem.W.mg_of X G y_NoCount) (PySem.W.mg_of X G y_TooMany) (PySem.W.mg_of X G y_NoText) (PySem.W.mg_of X G y_NoStreet) (PySem.W.mg_of X G y_Nothing) i c C h1 h2, ywh⟩
  have FW := fun_mk (st := s_law_which) lW cW kW
  have bW := FW.binds (ps := ["e"]) fun _ _ _ _ _ _ us hl => match us, hl with | [_], _ => rfl
  have wd : WhD l.prog w K mg base [e_NoPlan, e_NoMarks, e_NoClaim, e_NotSo, e_NoLetters, e_NoHouse, e_NoView, e_NoRule, e_NoCount, e_TooMany, e_NoText, e_NoStreet, e_Nothing] "_law_which" := ok_law_which m_isinstance m_ValueError wk FW (PySem.W.mg_of X G aW) bW
  have tK : TwK K CT := ⟨⟨tPg, tHd, tPo, tSa⟩, tNc, tNh, tHa, tHn, tHk, tHm, tKi, tKb, tKs, tKt, tOwn⟩
  have tF : TwF K := fun C t => by
    have e := t.own.symm.trans tOwn
    cases e
    exact ⟨tNp, tNq⟩
  have tI : TwI K CT := ⟨tK, tSf, tOt⟩
  have gT : mg "Town" = some (.ref CT) := PySem.W.mg_of X G tOwn
  have F0 := fun_mk (st := s_wall) l0 c0 k0
  have b0 := F0.binds (ps := ["k"]) fun _ _ _ _ _ _ us hl => match us, hl with | [_], _ => rfl
  have c_wall : CalD l.prog w K mg base 1 "_wall" 1 g_wall := ⟨f0, _, _, ok_wall  F0, PySem.W.mg_of X G a0, F0.kp, b0⟩
  have F1 := fun_mk (st := s_is_whole) l1 c1 k1
  have b1 := F1.binds (ps := ["thing", "low", "high"]) fun _ _ _ _ _ _ us hl => match us, hl with | [_, _, _], _ => rfl
  have c_is_whole : CalD l.prog w K mg base 1 "is_whole" 3 g_is_whole := ⟨f1, _, _, ok_is_whole m_isinstance m_bool m_int F1, PySem.W.mg_of X G a1, F1.kp, b1⟩
  have F2 := fun_mk (st := s_is_any_whole) l2 c2 k2
  have b2 := F2.binds (ps := ["thing"]) fun _ _ _ _ _ _ us hl => match us, hl with | [_], _ => rfl
  have c_is_any_whole : CalD l.prog w K mg base 1 "is_any_whole" 1 g_is_any_whole := ⟨f2, _, _, ok_is_any_whole m_isinstance m_bool m_int F2, PySem.W.mg_of X G a2, F2.kp, b2⟩
  have F3 := fun_mk (st := s_is_street) l3 c3 k3
  have b3 := F3.binds (ps := ["houses", "thing"]) fun _ _ _ _ _ _ us hl => match us, hl with | [_, _], _ => rfl
  have c_is_street : CalD l.prog w K mg base 2 "is_street" 2 g_is_street := ⟨f3, _, _, ok_is_street m_all m_len m_isinstance m_tuple c_is_whole F3, PySem.W.mg_of X G a3, F3.kp, b3⟩
  have F4 := fun_mk (st := s_doors_of) l4 c4 k4
  have b4 := F4.binds (ps := ["plan", "house"]) fun _ _ _ _ _ _ us hl => match us, hl with | [_, _], _ => rfl
  have c_doors_of : CalD l.prog w K mg base 1 "doors_of" 2 g_doors_of := ⟨f4, _, _, ok_doors_of m_sorted F4, PySem.W.mg_of X G a4, F4.kp, b4⟩
  have F5 := fun_mk (st := s_ways_from) l5 c5 k5
  have b5 := F5.binds (ps := ["plan", "house", "some"]) fun _ _ _ _ _ _ us hl => match us, hl with | [_, _, _], _ => rfl
  have c_ways_from : CalD l.prog w K mg base 2 "ways_from" 3 g_ways_from := ⟨f5, _, _, ok_ways_from c_doors_of F5, PySem.W.mg_of X G a5, F5.kp, b5⟩
  have F6 := fun_mk (st := s_all_ways) l6 c6 k6
  have b6 := F6.binds (ps := ["plan", "house"]) fun _ _ _ _ _ _ us hl => match us, hl with | [_, _], _ => rfl
  have c_all_ways : CalD l.prog w K mg base 3 "all_ways" 2 g_all_ways := ⟨f6, _, _, ok_all_ways m_list m_range c_ways_from F6, PySem.W.mg_of X G a6, F6.kp, b6⟩
  have F7 := fun_mk (st := s_good_plan) l7 c7 k7
  have b7 := F7.binds (ps := ["thing"]) fun _ _ _ _ _ _ us hl => match us, hl with | [_], _ => rfl
  have c_good_plan : CalD l.prog w K mg base 4 "good_plan" 1 g_good_plan := ⟨f7, _, _, ok_good_plan m_len m_isinstance m_tuple m_all m_zip gl_HOUSES c_is_whole c_is_street c_all_ways F7, PySem.W.mg_of X G a7, F7.kp, b7⟩
  have F8 := fun_mk (st := s_need_plan) l8 c8 k8
  have b8 := F8.binds (ps := ["plan"]) fun _ _ _ _ _ _ us hl => match us, hl with | [_], _ => rfl
  have c_need_plan : CalD l.prog w K mg base 5 "need_plan" 1 g_need_plan := ⟨f8, _, _, ok_need_plan x_NoPlan c_good_plan F8, PySem.W.mg_of X G a8, F8.kp, b8⟩
  have F9 := fun_mk (st := s_need_house) l9 c9 k9
  have b9 := F9.binds (ps := ["plan", "house"]) fun _ _ _ _ _ _ us hl => match us, hl with | [_, _], _ => rfl
  have c_need_house : CalD l.prog w K mg base 2 "need_house" 2 g_need_house := ⟨f9, _, _, ok_need_house x_NoHouse c_is_whole F9, PySem.W.mg_of X G a9, F9.kp, b9⟩
  have F10 := fun_mk (st := s_is_mark) l10 c10 k10
  have b10 := F10.binds (ps := ["thing"]) fun _ _ _ _ _ _ us hl => match us, hl with | [_], _ => rfl
  have c_is_mark : CalD l.prog w K mg base 2 "is_mark" 1 g_is_mark := ⟨f10, _, _, ok_is_mark gl_HIGH gl_LOW c_is_whole F10, PySem.W.mg_of X G a10, F10.kp, b10⟩
  have F11 := fun_mk (st := s_good_marks) l11 c11 k11
  have b11 := F11.binds (ps := ["plan", "thing"]) fun _ _ _ _ _ _ us hl => match us, hl with | [_, _], _ => rfl
  have c_good_marks : CalD l.prog w K mg base 3 "good_marks" 2 g_good_marks := ⟨f11, _, _, ok_good_marks m_all m_len m_isinstance m_tuple c_is_mark F11, PySem.W.mg_of X G a11, F11.kp, b11⟩
  have F12 := fun_mk (st := s_need_marks) l12 c12 k12
  have b12 := F12.binds (ps := ["plan", "marks"]) fun _ _ _ _ _ _ us hl => match us, hl with | [_, _], _ => rfl
  have c_need_marks : CalD l.prog w K mg base 6 "need_marks" 2 g_need_marks := ⟨f12, _, _, ok_need_marks x_NoMarks c_need_plan c_good_marks F12, PySem.W.mg_of X G a12, F12.kp, b12⟩
  have F13 := fun_mk (st := s_words_in) l13 c13 k13
  have b13 := F13.binds (ps := ["thing", "left"]) fun _ _ _ _ _ _ us hl => match us, hl with | [_, _], _ => rfl
  have c_words_in : CalD l.prog w K mg base 4 "words_in" 2 g_words_in := ok_words_in m_isinstance m_str m_len m_tuple gl_WORDS gl_BONDS F13 (PySem.W.mg_of X G a13) b13 4
  have F14 := fun_mk (st := s_good_claim) l14 c14 k14
  have b14 := F14.binds (ps := ["thing"]) fun _ _ _ _ _ _ us hl => match us, hl with | [_], _ => rfl
  have c_good_claim : CalD l.prog w K mg base 5 "good_claim" 1 g_good_claim := ⟨f14, _, _, ok_good_claim gl_MOST c_words_in F14, PySem.W.mg_of X G a14, F14.kp, b14⟩
  have F15 := fun_mk (st := s_need_claim) l15 c15 k15
  have b15 := F15.binds (ps := ["claim"]) fun _ _ _ _ _ _ us hl => match us, hl with | [_], _ => rfl
  have c_need_claim : CalD l.prog w K mg base 6 "need_claim" 1 g_need_claim := ⟨f15, _, _, ok_need_claim x_NoClaim c_good_claim F15, PySem.W.mg_of X G a15, F15.kp, b15⟩
  have F16 := fun_mk (st := s_are_bits) l16 c16 k16
  have b16 := F16.binds (ps := ["marks"]) fun _ _ _ _ _ _ us hl => match us, hl with | [_], _ => rfl
  have c_are_bits : CalD l.prog w K mg base 1 "are_bits" 1 g_are_bits := ⟨f16, _, _, ok_are_bits m_all F16, PySem.W.mg_of X G a16, F16.kp, b16⟩
  have F17 := fun_mk (st := s_steps_by) l17 c17 k17
  have b17 := F17.binds (ps := ["marks", "house"]) fun _ _ _ _ _ _ us hl => match us, hl with | [_, _], _ => rfl
  have c_steps_by : CalD l.prog w K mg base 1 "steps_by" 2 g_steps_by := ⟨f17, _, _, ok_steps_by m_len F17, PySem.W.mg_of X G a17, F17.kp, b17⟩
  have F18 := fun_mk (st := s_leads) l18 c18 k18
  have b18 := F18.binds (ps := ["plan", "marks"]) fun _ _ _ _ _ _ us hl => match us, hl with | [_, _], _ => rfl
  have c_leads : CalD l.prog w K mg base 2 "leads" 2 g_leads := ⟨f18, _, _, ok_leads m_all m_enumerate m_range c_doors_of c_steps_by F18, PySem.W.mg_of X G a18, F18.kp, b18⟩
  have F19 := fun_mk (st := s_marked) l19 c19 k19
  have b19 := F19.binds (ps := ["marks"]) fun _ _ _ _ _ _ us hl => match us, hl with | [_], _ => rfl
  have c_marked : CalD l.prog w K mg base 1 "marked" 1 g_marked := ⟨f19, _, _, ok_marked m_enumerate F19, PySem.W.mg_of X G a19, F19.kp, b19⟩
  have F20 := fun_mk (st := s_joined) l20 c20 k20
  have b20 := F20.binds (ps := ["plan", "marks"]) fun _ _ _ _ _ _ us hl => match us, hl with | [_, _], _ => rfl
  have c_joined : CalD l.prog w K mg base 3 "joined" 2 g_joined := ⟨f20, _, _, ok_joined m_len c_marked c_ways_from c_are_bits F20, PySem.W.mg_of X G a20, F20.kp, b20⟩
  have F21 := fun_mk (st := s_wells) l21 c21 k21
  have b21 := F21.binds (ps := ["plan", "marks"]) fun _ _ _ _ _ _ us hl => match us, hl with | [_, _], _ => rfl
  have c_wells : CalD l.prog w K mg base 4 "wells" 2 g_wells := ⟨f21, _, _, ok_wells m_enumerate m_all m_min c_all_ways F21, PySem.W.mg_of X G a21, F21.kp, b21⟩
  have F22 := fun_mk (st := s_holds_word) l22 c22 k22
  have b22 := F22.binds (ps := ["plan", "marks", "word"]) fun _ _ _ _ _ _ us hl => match us, hl with | [_, _, _], _ => rfl
  have c_holds_word : CalD l.prog w K mg base 5 "holds_word" 3 g_holds_word := ⟨f22, _, _, ok_holds_word m_sum m_all m_len c_leads c_joined c_wells c_are_bits F22, PySem.W.mg_of X G a22, F22.kp, b22⟩
  have F23 := fun_mk (st := s_holds_of) l23 c23 k23
  have b23 := F23.binds (ps := ["plan", "marks", "claim"]) fun _ _ _ _ _ _ us hl => match us, hl with | [_, _, _], _ => rfl
  have c_holds_of : CalD l.prog w K mg base 9 "holds_of" 3 g_holds_of := ok_holds_of m_isinstance m_str m_all m_any c_holds_word F23 (PySem.W.mg_of X G a23) b23 4
  have F24 := fun_mk (st := s_tos_of) l24 c24 k24
  have b24 := F24.binds (ps := ["plan"]) fun _ _ _ _ _ _ us hl => match us, hl with | [_], _ => rfl
  have c_tos_of : CalD l.prog w K mg base 4 "tos_of" 1 g_tos_of := ⟨f24, _, _, ok_tos_of m_range c_all_ways c_doors_of F24, PySem.W.mg_of X G a24, F24.kp, b24⟩
  have F25 := fun_mk (st := s_below_of) l25 c25 k25
  have b25 := F25.binds (ps := ["tos", "worths", "house"]) fun _ _ _ _ _ _ us hl => match us, hl with | [_, _, _], _ => rfl
  have c_below_of : CalD l.prog w K mg base 10 "below_of" 3 g_below_of := ok_below_of m_sum m_range m_len F25 (PySem.W.mg_of X G a25) b25 10
  have F26 := fun_mk (st := s_tree_letters) l26 c26 k26
  have b26 := F26.binds (ps := ["plan", "worths", "many"]) fun _ _ _ _ _ _ us hl => match us, hl with | [_, _, _], _ => rfl
  have c_tree_letters : CalD l.prog w K mg base 11 "tree_letters" 3 g_tree_letters := ⟨f26, _, _, ok_tree_letters m_range c_tos_of c_all_ways c_below_of F26, PySem.W.mg_of X G a26, F26.kp, b26⟩
  have F27 := fun_mk (st := s_joined_letters) l27 c27 k27
  have b27 := F27.binds (ps := ["plan", "marks"]) fun _ _ _ _ _ _ us hl => match us, hl with | [_, _], _ => rfl
  have c_joined_letters : CalD l.prog w K mg base 4 "joined_letters" 2 g_joined_letters := ⟨f27, _, _, ok_joined_letters m_range c_marked c_ways_from c_all_ways F27, PySem.W.mg_of X G a27, F27.kp, b27⟩
  have F28 := fun_mk (st := s_word_letters) l28 c28 k28
  have b28 := F28.binds (ps := ["plan", "marks", "word"]) fun _ _ _ _ _ _ us hl => match us, hl with | [_, _, _], _ => rfl
  have c_word_letters : CalD l.prog w K mg base 12 "word_letters" 3 g_word_letters := ⟨f28, _, _, ok_word_letters m_range c_steps_by c_all_ways c_joined_letters c_tree_letters F28, PySem.W.mg_of X G a28, F28.kp, b28⟩
  have F29 := fun_mk (st := s_letters_of) l29 c29 k29
  have b29 := F29.binds (ps := ["plan", "marks", "claim"]) fun _ _ _ _ _ _ us hl => match us, hl with | [_, _, _], _ => rfl
  have c_letters_of : CalD l.prog w K mg base 16 "letters_of" 3 g_letters_of := ok_letters_of m_isinstance m_str m_list m_zip c_word_letters c_holds_of F29 (PySem.W.mg_of X G a29) b29 4
  have F30 := fun_mk (st := s_view_of) l30 c30 k30
  have b30 := F30.binds (ps := ["plan", "marks", "letters", "house"]) fun _ _ _ _ _ _ us hl => match us, hl with | [_, _, _, _], _ => rfl
  have c_view_of : CalD l.prog w K mg base 2 "view_of" 4 g_view_of := ⟨f30, _, _, ok_view_of m_tuple c_doors_of F30, PySem.W.mg_of X G a30, F30.kp, b30⟩
  have F31 := fun_mk (st := s_are_wholes) l31 c31 k31
  have b31 := F31.binds (ps := ["letter", "many"]) fun _ _ _ _ _ _ us hl => match us, hl with | [_, _], _ => rfl
  have c_are_wholes : CalD l.prog w K mg base 2 "are_wholes" 2 g_are_wholes := ⟨f31, _, _, ok_are_wholes m_all m_len m_isinstance m_tuple c_is_any_whole F31, PySem.W.mg_of X G a31, F31.kp, b31⟩
  have F32 := fun_mk (st := s_says_leads) l32 c32 k32
  have b32 := F32.binds (ps := ["here", "mark", "letter", "doors"]) fun _ _ _ _ _ _ us hl => match us, hl with | [_, _, _, _], _ => rfl
  have c_says_leads : CalD l.prog w K mg base 1 "says_leads" 4 g_says_leads := ⟨f32, _, _, ok_says_leads m_any F32, PySem.W.mg_of X G a32, F32.kp, b32⟩
  have F33 := fun_mk (st := s_says_one) l33 c33 k33
  have b33 := F33.binds (ps := ["here", "mark", "letter", "doors"]) fun _ _ _ _ _ _ us hl => match us, hl with | [_, _, _, _], _ => rfl
  have c_says_one : CalD l.prog w K mg base 1 "says_one" 4 g_says_one := ⟨f33, _, _, ok_says_one m_any F33, PySem.W.mg_of X G a33, F33.kp, b33⟩
  have F34 := fun_mk (st := s_says_two) l34 c34 k34
  have b34 := F34.binds (ps := ["mark", "doors"]) fun _ _ _ _ _ _ us hl => match us, hl with | [_, _], _ => rfl
  have c_says_two : CalD l.prog w K mg base 1 "says_two" 2 g_says_two := ⟨f34, _, _, ok_says_two m_any F34, PySem.W.mg_of X G a34, F34.kp, b34⟩
  have F35 := fun_mk (st := s_says_wells) l35 c35 k35
  have b35 := F35.binds (ps := ["mark", "doors"]) fun _ _ _ _ _ _ us hl => match us, hl with | [_, _], _ => rfl
  have c_says_wells : CalD l.prog w K mg base 1 "says_wells" 2 g_says_wells := ⟨f35, _, _, ok_says_wells m_min F35, PySem.W.mg_of X G a35, F35.kp, b35⟩
  have F36 := fun_mk (st := s_says_joined) l36 c36 k36
  have b36 := F36.binds (ps := ["here", "mark", "letter", "doors"]) fun _ _ _ _ _ _ us hl => match us, hl with | [_, _, _, _], _ => rfl
  have c_says_joined : CalD l.prog w K mg base 1 "says_joined" 4 g_says_joined := ⟨f36, _, _, ok_says_joined m_any F36, PySem.W.mg_of X G a36, F36.kp, b36⟩
  have F37 := fun_mk (st := s_says_tree) l37 c37 k37
  have b37 := F37.binds (ps := ["here", "letter", "doors"]) fun _ _ _ _ _ _ us hl => match us, hl with | [_, _, _], _ => rfl
  have c_says_tree : CalD l.prog w K mg base 1 "says_tree" 3 g_says_tree := ⟨f37, _, _, ok_says_tree m_any F37, PySem.W.mg_of X G a37, F37.kp, b37⟩
  have F38 := fun_mk (st := s_belows) l38 c38 k38
  have b38 := F38.binds (ps := ["here", "doors"]) fun _ _ _ _ _ _ us hl => match us, hl with | [_, _], _ => rfl
  have c_belows : CalD l.prog w K mg base 1 "belows" 2 g_belows := ⟨f38, _, _, ok_belows m_sum F38, PySem.W.mg_of X G a38, F38.kp, b38⟩
  have F39 := fun_mk (st := s_says_count) l39 c39 k39
  have b39 := F39.binds (ps := ["here", "mark", "letter", "doors"]) fun _ _ _ _ _ _ us hl => match us, hl with | [_, _, _, _], _ => rfl
  have c_says_count : CalD l.prog w K mg base 2 "says_count" 4 g_says_count := ⟨f39, _, _, ok_says_count c_belows c_says_tree F39, PySem.W.mg_of X G a39, F39.kp, b39⟩
  have F40 := fun_mk (st := s_says_even) l40 c40 k40
  have b40 := F40.binds (ps := ["here", "mark", "letter", "doors"]) fun _ _ _ _ _ _ us hl => match us, hl with | [_, _, _, _], _ => rfl
  have c_says_even : CalD l.prog w K mg base 2 "says_even" 4 g_says_even := ⟨f40, _, _, ok_says_even c_belows c_says_tree F40, PySem.W.mg_of X G a40, F40.kp, b40⟩
  have F41 := fun_mk (st := s_says_ring) l41 c41 k41
  have b41 := F41.binds (ps := ["here", "letter", "doors"]) fun _ _ _ _ _ _ us hl => match us, hl with | [_, _, _], _ => rfl
  have c_says_ring : CalD l.prog w K mg base 1 "says_ring" 3 g_says_ring := ⟨f41, _, _, ok_says_ring m_all m_len F41, PySem.W.mg_of X G a41, F41.kp, b41⟩
  have F42 := fun_mk (st := s_says_word) l42 c42 k42
  have b42 := F42.binds (ps := ["word", "seen"]) fun _ _ _ _ _ _ us hl => match us, hl with | [_, _], _ => rfl
  have c_says_word : CalD l.prog w K mg base 3 "says_word" 2 g_says_word := ⟨f42, _, _, ok_says_word m_all gl_SIZES c_are_wholes c_says_two c_says_wells c_says_leads c_says_one c_says_joined c_says_ring c_says_count c_says_even F42, PySem.W.mg_of X G a42, F42.kp, b42⟩
  have F43 := fun_mk (st := s_is_pair) l43 c43 k43
  have b43 := F43.binds (ps := ["letter"]) fun _ _ _ _ _ _ us hl => match us, hl with | [_], _ => rfl
  have c_is_pair : CalD l.prog w K mg base 1 "is_pair" 1 g_is_pair := ⟨f43, _, _, ok_is_pair m_len m_isinstance m_tuple F43, PySem.W.mg_of X G a43, F43.kp, b43⟩
  have F44 := fun_mk (st := s_part_of) l44 c44 k44
  have b44 := F44.binds (ps := ["seen", "at"]) fun _ _ _ _ _ _ us hl => match us, hl with | [_, _], _ => rfl
  have c_part_of : CalD l.prog w K mg base 1 "part_of" 2 g_part_of := ⟨f44, _, _, ok_part_of m_tuple F44, PySem.W.mg_of X G a44, F44.kp, b44⟩
  have F45 := fun_mk (st := s_says_of) l45 c45 k45
  have b45 := F45.binds (ps := ["claim", "seen"]) fun _ _ _ _ _ _ us hl => match us, hl with | [_, _], _ => rfl
  have c_says_of : CalD l.prog w K mg base 7 "says_of" 2 g_says_of := ok_says_of m_isinstance m_str m_all c_says_word c_is_pair c_part_of c_is_whole F45 (PySem.W.mg_of X G a45) b45 4
  have F46 := fun_mk (st := s_noes_of) l46 c46 k46
  have b46 := F46.binds (ps := ["plan", "marks", "claim", "letters"]) fun _ _ _ _ _ _ us hl => match us, hl with | [_, _, _, _], _ => rfl
  have c_noes_of : CalD l.prog w K mg base 8 "noes_of" 4 g_noes_of := ⟨f46, _, _, ok_noes_of m_range c_says_of c_view_of F46, PySem.W.mg_of X G a46, F46.kp, b46⟩
  have F47 := fun_mk (st := s_law_same_truth) l47 c47 k47
  have b47 := F47.binds (ps := ["got", "due"]) fun _ _ _ _ _ _ us hl => match us, hl with | [_, _], _ => rfl
  have c_law_same_truth : CalD l.prog w K mg base 1 "_law_same_truth" 2 g_law_same_truth := ⟨f47, _, _, ok_law_same_truth m_isinstance m_bool F47, PySem.W.mg_of X G a47, F47.kp, b47⟩
  have F48 := fun_mk (st := s_M_make) l48 c48 k48
  have b48 := F48.binds (ps := ["self"]) fun _ _ _ _ _ _ us hl => match us, hl with | [_], _ => rfl
  have c_M_make : CalM l.prog w K mg base 10 "make" 0 g_M_make := ⟨CT, f48, _, _, tK, ⟨i48, n48, k48⟩, ok_M_make x_NotSo c_holds_of F48, b48⟩
  have F49 := fun_mk (st := s_M_turn) l49 c49 k49
  have b49 := F49.binds (ps := ["self", "house", "mark"]) fun _ _ _ _ _ _ us hl => match us, hl with | [_, _, _], _ => rfl
  have c_M_turn : CalM l.prog w K mg base 3 "turn" 2 g_M_turn := ⟨CT, f49, _, _, tK, ⟨i49, n49, k49⟩, ok_M_turn x_NoMarks c_need_house c_is_mark F49, b49⟩
  have F50 := fun_mk (st := s_M_hand) l50 c50 k50
  have b50 := F50.binds (ps := ["self", "house", "letter"]) fun _ _ _ _ _ _ us hl => match us, hl with | [_, _, _], _ => rfl
  have c_M_hand : CalM l.prog w K mg base 3 "hand" 2 g_M_hand := ⟨CT, f50, _, _, tK, ⟨i50, n50, k50⟩, ok_M_hand c_need_house F50, b50⟩
  have F51 := fun_mk (st := s_M_with_streets) l51 c51 k51
  have b51 := F51.binds (ps := ["self", "name", "one", "other", "there"]) fun _ _ _ _ _ _ us hl => match us, hl with | [_, _, _, _, _], _ => rfl
  have c_M_with_streets : CalM l.prog w K mg base 5 "with_streets" 4 g_M_with_streets := ⟨CT, f51, _, _, tK, ⟨i51, n51, k51⟩, ok_M_with_streets m_max m_min m_list m_tuple m_sorted x_NoStreet c_need_house c_good_plan F51, b51⟩
  have F52 := fun_mk (st := s_M_build) l52 c52 k52
  have b52 := F52.binds (ps := ["self", "one", "other"]) fun _ _ _ _ _ _ us hl => match us, hl with | [_, _, _], _ => rfl
  have c_M_build : CalM l.prog w K mg base 6 "build" 2 g_M_build := ⟨CT, f52, _, _, tK, ⟨i52, n52, k52⟩, ok_M_build c_M_with_streets F52, b52⟩
  have F53 := fun_mk (st := s_M_tear) l53 c53 k53
  have b53 := F53.binds (ps := ["self", "one", "other"]) fun _ _ _ _ _ _ us hl => match us, hl with | [_, _, _], _ => rfl
  have c_M_tear : CalM l.prog w K mg base 6 "tear" 2 g_M_tear := ⟨CT, f53, _, _, tK, ⟨i53, n53, k53⟩, ok_M_tear c_M_with_streets F53, b53⟩
  have F54 := fun_mk (st := s_law_ask) l54 c54 k54
  have b54 := F54.binds (ps := ["what", "place", "one", "two"]) fun _ _ _ _ _ _ us hl => match us, hl with | [_, _, _, _], _ => rfl
  have c_law_ask : CalD l.prog w K mg base 11 "_law_ask" 4 g_law_ask := ⟨f54, _, _, ok_law_ask wk wd c_M_make c_M_turn c_M_hand c_M_build c_M_tear F54, PySem.W.mg_of X G a54, F54.kp, b54⟩
  have F55 := fun_mk (st := s_Town) l55 c55 k55
  have b55 := F55.binds (ps := ["self", "plan", "marks", "claim"]) fun _ _ _ _ _ _ us hl => match us, hl with | [_, _, _, _], _ => rfl
  have c_Town : MkT l.prog w K mg base 7 "Town" 3 g_Town := ⟨CT, f55, _, _, tK, ⟨tMk, i55, n55, tKp⟩, ok_Town tF c_need_marks c_need_claim tK F55, gT, b55⟩
  have F56 := fun_mk (st := s_T_call) l56 c56 k56
  have b56 := F56.binds (ps := ["self", "name", "how"]) fun _ _ _ _ _ _ us hl => match us, hl with | [_, _, _], _ => rfl
  have c_T_call : CalTM l.prog w K mg base 1 "call" 2 g_T_call := ⟨CT, f56, _, _, tK, ⟨i56, n56, k56⟩, ok_T_call tF F56, b56⟩
  have c_T_make : CalTM l.prog w K mg base 17 "make" 0 g_T_make := ⟨CT, f48, _, _, tK, ⟨i48, n48, k48⟩, ok_T_make m_tuple x_NotSo c_holds_of c_T_call c_letters_of F48, b48⟩
  have F58 := fun_mk (st := s_T_back) l58 c58 k58
  have b58 := F58.binds (ps := ["self"]) fun _ _ _ _ _ _ us hl => match us, hl with | [_], _ => rfl
  have c_T_back : CalTM l.prog w K mg base 1 "back" 0 g_T_back := ⟨CT, f58, _, _, tK, ⟨i58, n58, k58⟩, ok_T_back x_Nothing tF F58, b58⟩
  have c_T_turn : CalTM l.prog w K mg base 3 "turn" 2 g_T_turn := ⟨CT, f49, _, _, tK, ⟨i49, n49, k49⟩, ok_T_turn x_NoMarks c_need_house c_is_mark c_T_call F49, b49⟩
  have c_T_hand : CalTM l.prog w K mg base 3 "hand" 2 g_T_hand := ⟨CT, f50, _, _, tK, ⟨i50, n50, k50⟩, ok_T_hand c_need_house c_T_call F50, b50⟩
  have c_T_with_streets : CalTM l.prog w K mg base 5 "with_streets" 4 g_T_with_streets := ⟨CT, f51, _, _, tK, ⟨i51, n51, k51⟩, ok_T_with_streets m_max m_min m_list m_tuple m_sorted x_NoStreet c_need_house c_good_plan c_T_call F51, b51⟩
  have c_T_build : CalTM l.prog w K mg base 6 "build" 2 g_T_build := ⟨CT, f52, _, _, tK, ⟨i52, n52, k52⟩, ok_T_build c_T_with_streets F52, b52⟩
  have c_T_tear : CalTM l.prog w K mg base 6 "tear" 2 g_T_tear := ⟨CT, f53, _, _, tK, ⟨i53, n53, k53⟩, ok_T_tear c_T_with_streets F53, b53⟩
  have c_T_law_ask : CalT1 l.prog w K mg base 18 "_law_ask" 3 g_T_law_ask := ⟨f54, _, _, ok_T_law_ask wk wd c_T_make c_T_back c_T_turn c_T_hand c_T_build c_T_tear F54, PySem.W.mg_of X G a54, F54.kp, b54⟩
  have F65 := fun_mk (st := s_M___eq__) l65 c65 k65
  have b65 := F65.binds (ps := ["self", "other"]) fun _ _ _ _ _ _ us hl => match us, hl with | [_, _], _ => rfl
  have k_M___eq__ : CalE l.prog w K mg base 1 "__eq__" 2 g_M___eq__ := ⟨CT, f65, _, _, tI, i65, n65, ok_M___eq__ m_isinstance tI gT F65, b65⟩
  have F66 := fun_mk (st := s_M___str__) l66 c66 k66
  have b66 := F66.binds (ps := ["self"]) fun _ _ _ _ _ _ us hl => match us, hl with | [_], _ => rfl
  have k_M___str__ : CalE l.prog w K mg base 1 "__str__" 1 g_M___str__ := ⟨CT, f66, _, _, tI, i66, n66, ok_M___str__ m_str F66, b66⟩
  have F67 := fun_mk (st := s_M_noes) l67 c67 k67
  have b67 := F67.binds (ps := ["self"]) fun _ _ _ _ _ _ us hl => match us, hl with | [_], _ => rfl
  have c_M_noes : CalM l.prog w K mg base 9 "noes" 0 g_M_noes := ⟨CT, f67, _, _, tK, ⟨i67, n67, k67⟩, ok_M_noes c_noes_of F67, b67⟩
  have F68 := fun_mk (st := s_M___len__) l68 c68 k68
  have b68 := F68.binds (ps := ["self"]) fun _ _ _ _ _ _ us hl => match us, hl with | [_], _ => rfl
  have k_M___len__ : CalE l.prog w K mg base 10 "__len__" 1 g_M___len__ := ⟨CT, f68, _, _, tI, i68, n68, ok_M___len__ m_len c_M_noes F68, b68⟩
  have F69 := fun_mk (st := s_M_plan) l69 c69 k69
  have b69 := F69.binds (ps := ["self"]) fun _ _ _ _ _ _ us hl => match us, hl with | [_], _ => rfl
  have c_M_plan : CalM l.prog w K mg base 1 "plan" 0 g_M_plan := ⟨CT, f69, _, _, tK, ⟨i69, n69, k69⟩, ok_M_plan  F69, b69⟩
  have F71 := fun_mk (st := s_M_holds) l71 c71 k71
  have b71 := F71.binds (ps := ["self"]) fun _ _ _ _ _ _ us hl => match us, hl with | [_], _ => rfl
  have c_M_holds : CalM l.prog w K mg base 10 "holds" 0 g_M_holds := ⟨CT, f71, _, _, tK, ⟨i71, n71, k71⟩, ok_M_holds c_holds_of F71, b71⟩
  have F72 := fun_mk (st := s_M_marks) l72 c72 k72
  have b72 := F72.binds (ps := ["self"]) fun _ _ _ _ _ _ us hl => match us, hl with | [_], _ => rfl
  have c_M_marks : CalM l.prog w K mg base 1 "marks" 0 g_M_marks := ⟨CT, f72, _, _, tK, ⟨i72, n72, k72⟩, ok_M_marks  F72, b72⟩
  have F73 := fun_mk (st := s_M_letters) l73 c73 k73
  have b73 := F73.binds (ps := ["self"]) fun _ _ _ _ _ _ us hl => match us, hl with | [_], _ => rfl
  have c_M_letters : CalM l.prog w K mg base 1 "letters" 0 g_M_letters := ⟨CT, f73, _, _, tK, ⟨i73, n73, k73⟩, ok_M_letters  F73, b73⟩
  have Fl := fun_mk (st := s_law) l70 c70 k70
  exact ok_law m_range m_str m_len c_Town c_T_law_ask c_law_ask c_law_same_truth k_M___eq__ k_M___str__ k_M___len__ c_T_build c_T_tear c_M_plan c_T_back Fl run

end DL

open PySem PySem.W PyProof.Rows
set_option maxRecDepth 100000 in
set_option maxHeartbeats 0 in
theorem PySem.Challenge.cw_doorchecks_k17_towns_refused_holds : PySem.Challenge.rw_doorchecks_k17_towns_refused.Holds := by
  w_on; o_law; k_head; (case hw => w_witness2)
  k_fill
  refine L2.walk_of (l := PySem.Challenge.rw_doorchecks_k17_towns_refused) (n := 63) (k := 19) (x := "script") (CX := fun w => L2N.CX PySem.Challenge.pw_doorchecks_k17_towns_refused w) (sp := fun w => DL.spLaw _) rfl (by decide) rfl ⟨rfl, by decide, by decide⟩ (fun w h Y => PySem.W.kIn_of Y) ?F (fun _ _ a ns hl _ hS => ⟨a, ns, rfl, hS, hl, fun _ => rfl⟩) (fun _ _ _ _ _ h => DL.cx_no h)
  case F =>
    intro w mg fa h KX G hmg
    refine' DL.all_mk KX G hmg DL.law_run ?z_isinstance ?z_bool ?z_int ?z_all ?z_len ?z_tuple ?z_sorted ?z_list ?z_range ?z_zip ?z_str ?z_enumerate ?z_min ?z_sum ?z_any ?z_max ?z_ValueError ?v_HOUSES ?v_HIGH ?v_LOW ?v_WORDS ?l_WORDS ?v_BONDS ?l_BONDS ?v_MOST ?v_SIZES ?l_SIZES ?y_DoorError ?y_NoPlan ?y_NoMarks ?y_NoClaim ?y_NotSo ?y_NoLetters ?y_NoHouse ?y_NoView ?y_NoRule ?y_NoCount ?y_TooMany ?y_NoText ?y_NoStreet ?y_Nothing ?yx_NoPlan ?yk_NoPlan ?yb_NoPlan ?yt_NoPlan ?yx_NoHouse ?yk_NoHouse ?yb_NoHouse ?yt_NoHouse ?yx_NoMarks ?yk_NoMarks ?yb_NoMarks ?yt_NoMarks ?yx_NoClaim ?yk_NoClaim ?yb_NoClaim ?yt_NoClaim ?yx_NotSo ?yk_NotSo ?yb_NotSo ?yt_NotSo ?yx_NoStreet ?yk_NoStreet ?yb_NoStreet ?yt_NoStreet ?yx_Nothing ?yk_Nothing ?yb_Nothing ?yt_Nothing ?ywh ?aW ?lW ?cW ?kW ?tOwn ?tPg ?tHd ?tPo ?tSa ?tNc ?tNh ?tNp ?tNq ?tHa ?tHn ?tHk ?tHm ?tKi ?tKb ?tKs ?tKt ?tMk ?tKp ?tSf ?tOt ?a0 ?l0 ?c0 ?k0 ?a1 ?l1 ?c1 ?k1 ?a2 ?l2 ?c2 ?k2 ?a3 ?l3 ?c3 ?k3 ?a4 ?l4 ?c4 ?k4 ?a5 ?l5 ?c5 ?k5 ?a6 ?l6 ?c6 ?k6 ?a7 ?l7 ?c7 ?k7 ?a8 ?l8 ?c8 ?k8 ?a9 ?l9 ?c9 ?k9 ?a10 ?l10 ?c10 ?k10 ?a11 ?l11 ?c11 ?k11 ?a12 ?l12 ?c12 ?k12 ?a13 ?l13 ?c13 ?k13 ?a14 ?l14 ?c14 ?k14 ?a15 ?l15 ?c15 ?k15 ?a16 ?l16 ?c16 ?k16 ?a17 ?l17 ?c17 ?k17 ?a18 ?l18 ?c18 ?k18 ?a19 ?l19 ?c19 ?k19 ?a20 ?l20 ?c20 ?k20 ?a21 ?l21 ?c21 ?k21 ?a22 ?l22 ?c22 ?k22 ?a23 ?l23 ?c23 ?k23 ?a24 ?l24 ?c24 ?k24 ?a25 ?l25 ?c25 ?k25 ?a26 ?l26 ?c26 ?k26 ?a27 ?l27 ?c27 ?k27 ?a28 ?l28 ?c28 ?k28 ?a29 ?l29 ?c29 ?k29 ?a30 ?l30 ?c30 ?k30 ?a31 ?l31 ?c31 ?k31 ?a32 ?l32 ?c32 ?k32 ?a33 ?l33 ?c33 ?k33 ?a34 ?l34 ?c34 ?k34 ?a35 ?l35 ?c35 ?k35 ?a36 ?l36 ?c36 ?k36 ?a37 ?l37 ?c37 ?k37 ?a38 ?l38 ?c38 ?k38 ?a39 ?l39 ?c39 ?k39 ?a40 ?l40 ?c40 ?k40 ?a41 ?l41 ?c41 ?k41 ?a42 ?l42 ?c42 ?k42 ?a43 ?l43 ?c43 ?k43 ?a44 ?l44 ?c44 ?k44 ?a45 ?l45 ?c45 ?k45 ?a46 ?l46 ?c46 ?k46 ?a47 ?l47 ?c47 ?k47 ?i48 ?l48 ?c48 ?k48 ?n48 ?i49 ?l49 ?c49 ?k49 ?n49 ?i50 ?l50 ?c50 ?k50 ?n50 ?i51 ?l51 ?c51 ?k51 ?n51 ?i52 ?l52 ?c52 ?k52 ?n52 ?i53 ?l53 ?c53 ?k53 ?n53 ?a54 ?l54 ?c54 ?k54 ?i55 ?l55 ?c55 ?k55 ?n55 ?i56 ?l56 ?c56 ?k56 ?n56 ?i58 ?l58 ?c58 ?k58 ?n58 ?i65 ?l65 ?c65 ?k65 ?n65 ?i66 ?l66 ?c66 ?k66 ?n66 ?i67 ?l67 ?c67 ?k67 ?n67 ?i68 ?l68 ?c68 ?k68 ?n68 ?i69 ?l69 ?c69 ?k69 ?n69 ?a70 ?l70 ?c70 ?k70 ?i71 ?l71 ?c71 ?k71 ?n71 ?i72 ?l72 ?c72 ?k72 ?n72 ?i73 ?l73 ?c73 ?k73 ?n73
    (case z_isinstance => k_is)
    (case z_bool => k_is)
    (case z_int => k_is)
    (case z_all => k_is)
    (case z_len => k_is)
    (case z_tuple => k_is)
    (case z_sorted => k_is)
    (case z_list => k_is)
    (case z_range => k_is)
    (case z_zip => k_is)
    (case z_str => k_is)
    (case z_enumerate => k_is)
    (case z_min => k_is)
    (case z_sum => k_is)
    (case z_any => k_is)
    (case z_max => k_is)
    (case z_ValueError => k_is)
    (case v_HOUSES => k_is)
    (case v_HIGH => k_is)
    (case v_LOW => k_is)
    (case v_WORDS => k_is)
    (case l_WORDS => k_is)
    (case v_BONDS => k_is)
    (case l_BONDS => k_is)
    (case v_MOST => k_is)
    (case v_SIZES => k_is)
    (case l_SIZES => k_is)
    (case y_DoorError => k_is)
    (case y_NoPlan => k_is)
    (case y_NoMarks => k_is)
    (case y_NoClaim => k_is)
    (case y_NotSo => k_is)
    (case y_NoLetters => k_is)
    (case y_NoHouse => k_is)
    (case y_NoView => k_is)
    (case y_NoRule => k_is)
    (case y_NoCount => k_is)
    (case y_TooMany => k_is)
    (case y_NoText => k_is)
    (case y_NoStreet => k_is)
    (case y_Nothing => k_is)
    (case yx_NoPlan => k_exc)
    (case yk_NoPlan => k_is)
    (case yb_NoPlan => k_is)
    (case yt_NoPlan => k_is)
    (case yx_NoHouse => k_exc)
    (case yk_NoHouse => k_is)
    (case yb_NoHouse => k_is)
    (case yt_NoHouse => k_is)
    (case yx_NoMarks => k_exc)
    (case yk_NoMarks => k_is)
    (case yb_NoMarks => k_is)
    (case yt_NoMarks => k_is)
    (case yx_NoClaim => k_exc)
    (case yk_NoClaim => k_is)
    (case yb_NoClaim => k_is)
    (case yt_NoClaim => k_is)
    (case yx_NotSo => k_exc)
    (case yk_NotSo => k_is)
    (case yb_NotSo => k_is)
    (case yt_NotSo => k_is)
    (case yx_NoStreet => k_exc)
    (case yk_NoStreet => k_is)
    (case yb_NoStreet => k_is)
    (case yt_NoStreet => k_is)
    (case yx_Nothing => k_exc)
    (case yk_Nothing => k_is)
    (case yb_Nothing => k_is)
    (case yt_Nothing => k_is)
    (case ywh => kernel_rfl)
    (case aW => k_is)
    (case lW => k_is)
    (case cW => k_is)
    (case kW => k_is)
    (case tOwn => k_is)
    (case tPg => kernel_rfl)
    (case tHd => kernel_rfl)
    (case tPo => kernel_rfl)
    (case tSa => kernel_rfl)
    (case tNc => kernel_rfl)
    (case tNh => kernel_rfl)
    (case tNp => kernel_rfl)
    (case tNq => kernel_rfl)
    (case tHa => kernel_rfl)
    (case tHn => kernel_rfl)
    (case tHk => kernel_rfl)
    (case tHm => kernel_rfl)
    (case tKi => kernel_rfl)
    (case tKb => kernel_rfl)
    (case tKs => kernel_rfl)
    (case tKt => kernel_rfl)
    (case tMk => kernel_rfl)
    (case tKp => kernel_rfl)
    (case tSf => kernel_rfl)
    (case tOt => kernel_rfl)
    (case a0 => k_is)
    (case l0 => k_is)
    (case c0 => k_is)
    (case k0 => k_is)
    (case a1 => k_is)
    (case l1 => k_is)
    (case c1 => k_is)
    (case k1 => k_is)
    (case a2 => k_is)
    (case l2 => k_is)
    (case c2 => k_is)
    (case k2 => k_is)
    (case a3 => k_is)
    (case l3 => k_is)
    (case c3 => k_is)
    (case k3 => k_is)
    (case a4 => k_is)
    (case l4 => k_is)
    (case c4 => k_is)
    (case k4 => k_is)
    (case a5 => k_is)
    (case l5 => k_is)
    (case c5 => k_is)
    (case k5 => k_is)
    (case a6 => k_is)
    (case l6 => k_is)
    (case c6 => k_is)
    (case k6 => k_is)
    (case a7 => k_is)
    (case l7 => k_is)
    (case c7 => k_is)
    (case k7 => k_is)
    (case a8 => k_is)
    (case l8 => k_is)
    (case c8 => k_is)
    (case k8 => k_is)
    (case a9 => k_is)
    (case l9 => k_is)
    (case c9 => k_is)
    (case k9 => k_is)
    (case a10 => k_is)
    (case l10 => k_is)
    (case c10 => k_is)
    (case k10 => k_is)
    (case a11 => k_is)
    (case l11 => k_is)
    (case c11 => k_is)
    (case k11 => k_is)
    (case a12 => k_is)
    (case l12 => k_is)
    (case c12 => k_is)
    (case k12 => k_is)
    (case a13 => k_is)
    (case l13 => k_is)
    (case c13 => k_is)
    (case k13 => k_is)
    (case a14 => k_is)
    (case l14 => k_is)
    (case c14 => k_is)
    (case k14 => k_is)
    (case a15 => k_is)
    (case l15 => k_is)
    (case c15 => k_is)
    (case k15 => k_is)
    (case a16 => k_is)
    (case l16 => k_is)
    (case c16 => k_is)
    (case k16 => k_is)
    (case a17 => k_is)
    (case l17 => k_is)
    (case c17 => k_is)
    (case k17 => k_is)
    (case a18 => k_is)
    (case l18 => k_is)
    (case c18 => k_is)
    (case k18 => k_is)
    (case a19 => k_is)
    (case l19 => k_is)
    (case c19 => k_is)
    (case k19 => k_is)
    (case a20 => k_is)
    (case l20 => k_is)
    (case c20 => k_is)
    (case k20 => k_is)
    (case a21 => k_is)
    (case l21 => k_is)
    (case c21 => k_is)
    (case k21 => k_is)
    (case a22 => k_is)
    (case l22 => k_is)
    (case c22 => k_is)
    (case k22 => k_is)
    (case a23 => k_is)
    (case l23 => k_is)
    (case c23 => k_is)
    (case k23 => k_is)
    (case a24 => k_is)
    (case l24 => k_is)
    (case c24 => k_is)
    (case k24 => k_is)
    (case a25 => k_is)
    (case l25 => k_is)
    (case c25 => k_is)
    (case k25 => k_is)
    (case a26 => k_is)
    (case l26 => k_is)
    (case c26 => k_is)
    (case k26 => k_is)
    (case a27 => k_is)
    (case l27 => k_is)
    (case c27 => k_is)
    (case k27 => k_is)
    (case a28 => k_is)
    (case l28 => k_is)
    (case c28 => k_is)
    (case k28 => k_is)
    (case a29 => k_is)
    (case l29 => k_is)
    (case c29 => k_is)
    (case k29 => k_is)
    (case a30 => k_is)
    (case l30 => k_is)
    (case c30 => k_is)
    (case k30 => k_is)
    (case a31 => k_is)
    (case l31 => k_is)
    (case c31 => k_is)
    (case k31 => k_is)
    (case a32 => k_is)
    (case l32 => k_is)
    (case c32 => k_is)
    (case k32 => k_is)
    (case a33 => k_is)
    (case l33 => k_is)
    (case c33 => k_is)
    (case k33 => k_is)
    (case a34 => k_is)
    (case l34 => k_is)
    (case c34 => k_is)
    (case k34 => k_is)
    (case a35 => k_is)
    (case l35 => k_is)
    (case c35 => k_is)
    (case k35 => k_is)
    (case a36 => k_is)
    (case l36 => k_is)
    (case c36 => k_is)
    (case k36 => k_is)
    (case a37 => k_is)
    (case l37 => k_is)
    (case c37 => k_is)
    (case k37 => k_is)
    (case a38 => k_is)
    (case l38 => k_is)
    (case c38 => k_is)
    (case k38 => k_is)
    (case a39 => k_is)
    (case l39 => k_is)
    (case c39 => k_is)
    (case k39 => k_is)
    (case a40 => k_is)
    (case l40 => k_is)
    (case c40 => k_is)
    (case k40 => k_is)
    (case a41 => k_is)
    (case l41 => k_is)
    (case c41 => k_is)
    (case k41 => k_is)
    (case a42 => k_is)
    (case l42 => k_is)
    (case c42 => k_is)
    (case k42 => k_is)
    (case a43 => k_is)
    (case l43 => k_is)
    (case c43 => k_is)
    (case k43 => k_is)
    (case a44 => k_is)
    (case l44 => k_is)
    (case c44 => k_is)
    (case k44 => k_is)
    (case a45 => k_is)
    (case l45 => k_is)
    (case c45 => k_is)
    (case k45 => k_is)
    (case a46 => k_is)
    (case l46 => k_is)
    (case c46 => k_is)
    (case k46 => k_is)
    (case a47 => k_is)
    (case l47 => k_is)
    (case c47 => k_is)
    (case k47 => k_is)
    (case i48 => k_is)
    (case l48 => k_is)
    (case c48 => k_is)
    (case k48 => k_is)
    (case n48 => k_is)
    (case i49 => k_is)
    (case l49 => k_is)
    (case c49 => k_is)
    (case k49 => k_is)
    (case n49 => k_is)
    (case i50 => k_is)
    (case l50 => k_is)
    (case c50 => k_is)
    (case k50 => k_is)
    (case n50 => k_is)
    (case i51 => k_is)
    (case l51 => k_is)
    (case c51 => k_is)
    (case k51 => k_is)
    (case n51 => k_is)
    (case i52 => k_is)
    (case l52 => k_is)
    (case c52 => k_is)
    (case k52 => k_is)
    (case n52 => k_is)
    (case i53 => k_is)
    (case l53 => k_is)
    (case c53 => k_is)
    (case k53 => k_is)
    (case n53 => k_is)
    (case a54 => k_is)
    (case l54 => k_is)
    (case c54 => k_is)
    (case k54 => k_is)
    (case i55 => k_is)
    (case l55 => k_is)
    (case c55 => k_is)
    (case k55 => k_is)
    (case n55 => k_is)
    (case i56 => k_is)
    (case l56 => k_is)
    (case c56 => k_is)
    (case k56 => k_is)
    (case n56 => k_is)
    (case i58 => k_is)
    (case l58 => k_is)
    (case c58 => k_is)
    (case k58 => k_is)
    (case n58 => k_is)
    (case i65 => k_is)
    (case l65 => k_is)
    (case c65 => k_is)
    (case k65 => k_is)
    (case n65 => k_is)
    (case i66 => k_is)
    (case l66 => k_is)
    (case c66 => k_is)
    (case k66 => k_is)
    (case n66 => k_is)
    (case i67 => k_is)
    (case l67 => k_is)
    (case c67 => k_is)
    (case k67 => k_is)
    (case n67 => k_is)
    (case i68 => k_is)
    (case l68 => k_is)
    (case c68 => k_is)
    (case k68 => k_is)
    (case n68 => k_is)
    (case i69 => k_is)
    (case l69 => k_is)
    (case c69 => k_is)
    (case k69 => k_is)
    (case n69 => k_is)
    (case a70 => k_is)
    (case l70 => k_is)
    (case c70 => k_is)
    (case k70 => k_is)
    (case i71 => k_is)
    (case l71 => k_is)
    (case c71 => k_is)
    (case k71 => k_is)
    (case n71 => k_is)
    (case i72 => k_is)
    (case l72 => k_is)
    (case c72 => k_is)
    (case k72 => k_is)
    (case n72 => k_is)
    (case i73 => k_is)
    (case l73 => k_is)
    (case c73 => k_is)
    (case k73 => k_is)
    (case n73 => k_is)
