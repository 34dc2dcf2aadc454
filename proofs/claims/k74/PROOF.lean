import PyProof.Rows.All
import Wide.All
import OpenK.AllK
import Wide.FinOn
import HandS.ForMost
import HandS.ForExc
import HandS.Deep
import HandS.Style
import HandS.CallSlots
import HandS.Wide
import HandS.TupAny
import HandS.Conv
import HandS.IsInst
import HandS.Strs
import HandS.Walk
import KE.LtData
import KE.SortData
import KE.DataMinMax
import PyProof.Rows.RowBridgeK
import PySem.Challenge.RW_reesroads_k74_whole_great_groups
section
set_option Elab.async false
set_option linter.all false
set_option maxRecDepth 100000
/-! VI: tuples whose own object is known (no dict of its own). -/
namespace VI
open PySem L2 PySem.Spec PyProof.Rows
def TupF (K : PySem.W.Frag) (F : Hp) (a : Addr) (xs : List V) : Prop := (∃ o, F a = some (.frz o (.tup xs)) ∧ o.dict = none) ∨
  ∃ (o : Obj) (its : Array Value) (n : Nat), K.lookup a = some o ∧ o.cls = .type "tuple" ∧ o.dict = none ∧ o.data = .seq its n ∧ its.size ≤ sizeLine ∧ Vals xs its.toList
theorem TupF.sq {K : PySem.W.Frag} {F : Hp} {a : Addr} {xs : List V} (h : TupF K F a xs) : SqT K F a xs := by
  rcases h with ⟨o, h, _⟩ | ⟨o, its, n, h1, h2, _, h4, h5, h6⟩
  · exact .inl (.inr ⟨o, h⟩)
  · exact .inr ⟨o, its, n, h1, h2, h4, h5, h6⟩
def ExH (H H' : Hp) : Prop := ∀ a o, H a = some o → H' a = some o
theorem TupF.mono {K : PySem.W.Frag} {F F' : Hp} {a : Addr} {xs : List V} (e : ∀ a o, F a = some o → F' a = some o) (h : TupF K F a xs) : TupF K F' a xs := by
  rcases h with ⟨o, h, k⟩ | h
  · exact .inl ⟨o, e _ _ h, k⟩
  · exact .inr h
section
variable {X : Cx}
/-- a new tuple laid -/
theorem tup_new {pins : List (Addr × Obj)} {σ : L2.St} {H : Hp} {s : Shared} {Q : VK} {us : List Value} {xs : List V} (I : Inv X pins σ H s) (r : Vals xs us) (hz : xs.length ≤ sizeLine)
    (q : ∀ p o, o.dict = none → H p = none → Q (.ref p) (upd H p (.frz o (.tup xs)))) : EP X pins σ Q (.ref s.heap.objs.size) { s with heap := s.heap.push { cls := .type "tuple", data := .seq us.toArray } } := by
  have hf : H s.heap.objs.size = none := I.hok.fresh (Nat.le_refl _)
  refine ⟨.ref s.heap.objs.size, _, I.laid (o := .frz { cls := .type "tuple", data := .seq us.toArray } (.tup xs)) (t' := s.toks) (fun b u e => Heap.get?_push_of_some _ e) (Nat.le_refl _) ?_, rfl, q _ { cls := .type "tuple", data := .seq us.toArray } rfl hf⟩
  exact ⟨Heap.get?_push_size _ rfl, hz, us, r, ⟨_, Heap.get?_push_size _ rfl, rfl, _, rfl⟩⟩
def tTupF (t : TA) : TE := fun σ H Q => t σ H fun xs H1 => xs.length ≤ sizeLine ∧ ∀ p o, o.dict = none → H1 p = none → Q (.ref p) (upd H1 p (.frz o (.tup xs)))
theorem pe_tupF {es : List Expr} {t : TA} {pos : Pos} {x1} (h : PA X es t) : PE X (.Tuple es x1 pos) (tTupF t) := by
  refine ⟨fun pins s σ H Q I hq => ?_⟩
  refine wpAny_Tuple_spliced (thn (h.run pos pins s σ H _ I hq) fun us s1 ⟨xs, H1, I1, r, z, q⟩ => ⟨by rw [← r.length]; exact z, ?_⟩)
  exact tup_new I1 r z q
theorem call_tupleF : CallR X (.type "tuple") (fun xs H Q => ∃ p ys, xs = [.ref p] ∧ ((SqL X.K H p ys ∧ ∀ l o, o.dict = none → H l = none → Q (.ref l) (upd H l (.frz o (.tup ys)))) ∨ (SqT X.K H p ys ∧ Q (.ref p) H))) := by
  intro pins s σ H xs us Q I r h
  obtain ⟨p, ys, rfl, h⟩ := h
  obtain ⟨u, rfl, rx⟩ := vals1 r
  cases rx
  rcases h with ⟨hq, q⟩ | ⟨hq, q⟩
  · obtain ⟨its, r', pl, hz⟩ := I.list hq
    have hlen := r'.length
    refine call_tuple_list pl.isList (fun h' kp => ?_) (by simp only [List.size_toArray] <;> omega)
    have I1 : Inv X pins σ H { s with heap := h' } := I.kept (t' := s.toks) kp
    exact tup_new I1 r' hz q
  · obtain ⟨its, r', pl, hz⟩ := I.tuple hq
    exact call_tuple_same pl ⟨.ref p, H, I, rfl, q⟩
def rCatF (K : PySem.W.Frag) : R2 := fun x y H Q => ∃ a b xs ys, x = .ref a ∧ y = .ref b ∧ SqT K H a xs ∧ SqT K H b ys ∧ xs.length + ys.length ≤ sizeLine ∧
  (xs = [] → Q (.ref b) H) ∧ (xs ≠ [] → ys = [] → Q (.ref a) H) ∧ (xs ≠ [] → ys ≠ [] → ∀ p o, o.dict = none → H p = none → Q (.ref p) (upd H p (.frz o (.tup (xs ++ ys)))))
theorem op_catF : OpR X (binaryOp .Add) (rCatF X.K) := by
  intro pins s σ H x y v u Q I rx ry h
  obtain ⟨a, b, xs, ys, rfl, rfl, ha, hb, hz, q0, q1, q2⟩ := h
  cases rx
  cases ry
  obtain ⟨its, r1, p1, _⟩ := I.tuple ha
  obtain ⟨its2, r2, p2, _⟩ := I.tuple hb
  by_cases hx : xs = []
  · subst hx
    cases r1
    exact cat_tup0 p1 p2 ⟨.ref b, H, I, rfl, q0 rfl⟩
  · have hi : its ≠ [] := fun e => hx ((Vals.nil_iff r1).mp e)
    refine HT.cat_tup p1 p2 hi (fun e => ?_) (fun e => ?_) (by rw [← r1.length, ← r2.length]; exact hz)
    · exact ⟨.ref a, H, I, rfl, q1 hx ((Vals.nil_iff r2).mp e)⟩
    · have hy : ys ≠ [] := fun z => e ((Vals.nil_iff r2).mpr z)
      exact tup_new I (r1.append r2) (by rw [List.length_append]; exact hz) (q2 hx hy)
def rSlF (K : PySem.W.Frag) : V → Option Int → Option Int → Hp → VK → Prop := fun x lo hi H Q => ∃ a xs, x = .ref a ∧ SqT K H a xs ∧
  (HT.sIx xs.length 0 lo = 0 ∧ HT.sIx xs.length xs.length hi = xs.length → Q (.ref a) H) ∧ (¬ (HT.sIx xs.length 0 lo = 0 ∧ HT.sIx xs.length xs.length hi = xs.length) → ∀ p o, o.dict = none → H p = none → Q (.ref p) (upd H p (.frz o (.tup (cutV xs lo hi)))))
theorem sl_tupF : SlR X (rSlF X.K) := by
  intro pins s σ H x v vl vu lo hi sl Q I rx hs pl pu h
  obtain ⟨a, xs, rfl, hx, q1, q2⟩ := h
  cases rx
  obtain ⟨its, r, ht, hz⟩ := I.tuple hx
  have hlen : its.toArray.size = xs.length := by rw [List.size_toArray]; exact r.length.symm
  refine ⟨"tuple", _, PyProof.Rows.slot_tuple_getitem.lookup, ht.typeIs, ?_⟩
  by_cases hw : HT.sIx xs.length 0 lo = 0 ∧ HT.sIx xs.length xs.length hi = xs.length
  · exact getItem_tuple_whole ht hs pl pu (by rw [hlen]; exact hw) ⟨.ref a, H, I, rfl, q1 hw⟩
  · refine HT.getItem_tuple_cut ht hs pl pu (by rw [hlen]; exact hw) ?_ (by rw [hlen]; exact hz)
    rw [hlen]
    exact tup_new I ((r.drop _).take _) (Nat.le_trans (cutV_length xs lo hi) hz) (q2 hw)
/-- a built-in's method on a value whose type ty tells -/
def TyM (X : Cx) (T : String) (ty : V → Hp → Prop) : Prop := ∀ (pins : List (Addr × Obj)) (σ : L2.St) (H : Hp) (s : Shared) (x : V) (v : Value), Inv X pins σ H s → RelV x v → ty x H → s.TypeIs v T ∧ ∀ a, v = .ref a → ∃ ob, s.heap.get? a = some ob ∧ ob.dict = none
def tBMG (ty : V → Hp → Prop) (r : V → List V → Hp → VK → Prop) (to : TE) (t : TA) : TE := fun σ H Q => to σ H fun x H1 => ty x H1 ∧ t σ H1 fun xs H2 => r x xs H2 Q
theorem pe_bmG {o e : Expr} {es : List Expr} {to : TE} {t : TA} {name : Str} {apos cpos : Pos} {T id : String} {r : V → List V → Hp → VK → Prop} {ty : V → Hp → Prop} (pa : PlainAttrs T) (slot : Slot T name id) (hty : typeOf (.builtin id) = pure (.type "method_descriptor")) (hT : TyM X T ty) (hm : MtR X id r) (ho : PE X o to) (ha : PA X (e :: es) t)
    (hbase : attributeBase o name X.env (eval o X.env) = eval o X.env := by rfl)
    (hfew : ((backTo cpos (starEach (e :: es) X.env)).all (fun x => !x.1) && (backToKw cpos (keywordEach [] X.env)).all (fun x => x.1.isSome)
      && decide ((e :: es).length + ([] : List Keyword).length + (if ([] : List Keyword).isEmpty then 0 else 1) < 30)) = true := by rfl)
    (hline : (apos.endLine == cpos.line) = true := by rfl) (hs : starEach (e :: es) X.env = (false, eval e X.env) :: starEach es X.env := by rfl) (hplain : (backTo cpos (starEach es X.env)).any (·.1) = false := by rfl) :
    PE X (.Call (.Attribute o name apos) (e :: es) [] cpos) (tBMG ty r to t) := by
  refine ⟨fun pins s σ H Q I h => ?_⟩
  refine wpAny_Call_method_late hbase hfew hline rfl (thn (ho.run pins s σ H _ I h) fun v s1 ⟨x, H1, I1, r1, tyx, q1⟩ => ?_)
  obtain ⟨h1, h2⟩ := hT pins σ H1 s1 x v I1 r1 tyx
  refine ⟨T, id, pa, slot, hty, h1, h2, ?_⟩
  have hA := ha.run cpos pins s1 σ H1 _ I1 q1
  rw [hs] at hA ⊢
  refine Calls.callWith_builtin (by show (false || (backTo cpos (starEach es X.env)).any (·.1)) = false; rw [hplain] <;> rfl) (Calls.evalArgs_plain ?_)
  exact thn hA fun us s2 ⟨vs, H2, I2, r2, q2⟩ => hm pins s2 σ H2 x vs v us Q I2 r1 r2 q2
def tyTup (K : PySem.W.Frag) : V → Hp → Prop := fun x H => ∃ a xs, x = .ref a ∧ TupF K H a xs
theorem tym_tup : TyM X "tuple" (tyTup X.K) := fun pins σ H s x v I r ⟨a, xs, e, h⟩ => by
  subst e
  cases r
  have ht := I.tuple h.sq
  obtain ⟨its, _, pl, _⟩ := ht
  refine ⟨pl.typeIs, fun b e => ?_⟩
  cases e
  rcases h with ⟨o, h, hd⟩ | ⟨o, _, _, h, _, hd, _⟩
  · exact ⟨o, (I.hok a _ h).1, hd⟩
  · exact ⟨o, I.kIn a o h, hd⟩
/-- t.index(x): the first place of an equal one -/
def rIndexT (K : PySem.W.Frag) : V → List V → Hp → VK → Prop := fun x xs H Q => ∃ (a : Addr) (y : V) (d : PyData) (ds : List PyData) (j : Nat) (z : PyData), x = V.ref a ∧ xs = [y] ∧ Dp K H (V.ref a) (.tuple ds) ∧ Dp K H y d ∧
  SeqAt.shaped (.tuple ds) = true ∧ SeqAt.shaped d = true ∧ ds[j]? = some z ∧ PyData.eqv z d = true ∧ (∀ (m : Nat) (z' : PyData), m < j → ds[m]? = some z' → PyData.eqv z' d = false) ∧ Q (.int (j : Nat)) H
theorem mt_indexT (hu : X.A.units + 65 < cLine) : MtR X "tuple.index" (rIndexT X.K) := by
  intro pins s σ H x xs v us Q I rx rxs h
  obtain ⟨a, y, d, ds, j, z, rfl, rfl, hl, hy, sl, sd, hz, hzj, hno, q⟩ := h
  cases rx
  cases rxs with
  | cons ry rt =>
    rename_i uy ut
    cases rt
    obtain ⟨bs, r1⟩ := Dp.reads I d y uy hy ry
    have hxs : PyData.canLayAll0 ds = true := SeqAt.canLay_of_shaped sl
    have hroom : X.A.units + 1 + min (PyData.depthAll ds) d.depth < cLine := room_in_shaped sd hu
    cases hl with
    | tup hs ha =>
      obtain ⟨its, rv, ⟨⟨cls, dd, data, sls⟩, ho, hc, n, hdt⟩, hlen⟩ := I.tuple hs
      simp only at hc hdt
      subst hc hdt
      obtain ⟨as, h4⟩ := Dp.readsAll I ds _ its ha rv
      have hn : its.length = ds.length := SeqAt.ReadsAll.length ds its as h4
      have hmap : its.map (SeqAt.readOf s.heap) = ds := SeqAt.readsAll_map ds its as hxs h4
      obtain ⟨hjd, _⟩ := List.getElem?_eq_some_iff.mp hz
      have hjl : j < its.length := by omega
      have hj : j < its.toArray.size := by simpa using hjl
      have at_ : ∀ (m : Nat) (hm : m < its.toArray.size) (z' : PyData), ds[m]? = some z' → SeqAt.readOf s.heap its.toArray[m] = z' := by
        intro m hm z' hz'
        have hml : m < its.length := by simpa using hm
        rw [← hmap, List.getElem?_map, List.getElem?_eq_getElem hml] at hz'
        have e1 : SeqAt.readOf s.heap its[m] = z' := Option.some.inj (show some (SeqAt.readOf s.heap its[m]) = some z' from hz')
        simpa using e1
      refine call_meets PySem.F.slot_tuple_index ⟨_, ho, rfl⟩ PySem.F.entry_tuple_index (PySem.F.args_tuple_index_2 _ _)
        (TI.tuple_indexAt a its.toArray n dd sls uy (fun u => PyData.eqv (SeqAt.readOf s.heap u) d) j hj ?_ ?_) ⟨ho, SeqAt.items_eqAt (vs := its.toArray) (show ReadsAll s.heap its.toArray.toList ds as from h4) r1 hxs (SeqAt.canLay_of_shaped sd) hroom, ?_⟩
      · show PyData.eqv (SeqAt.readOf s.heap its.toArray[j]) d = true
        rw [at_ j hj z hz]
        exact hzj
      · intro m hm hmj
        have hmd : m < ds.length := by have : m < its.length := by simpa using hm
                                       omega
        have hz' : ds[m]? = some ds[m] := List.getElem?_eq_getElem hmd
        show PyData.eqv (SeqAt.readOf s.heap its.toArray[m]) d = false
        rw [at_ m hm _ hz']
        exact hno m _ hmj hz'
      · exact ⟨.int (j : Nat), H, I.tok _, ⟨_, rfl⟩, q⟩
end
end VI

end
section
set_option Elab.async false
set_option linter.all false
set_option maxRecDepth 100000
/-! VI: data, what represents them, the environment. -/
namespace VI
open PySem L2

/-- data -/
inductive D where
  | non | bl (b : Bool) | int (i : Int) | str (s : Str)
  | lst (xs : List D) | tup (xs : List D) | wtup (xs : List D)
  | scr (ns : List Int)
  | obj (c : Str) (fs : List D)
  | fn (x : Str)
  | ty (n : String)
  | dk (ks : List Key) (vs : List D)

/-- what is fixed: the written part, classes, their fields, defs as values -/
structure Gx where
  K : PySem.W.Frag
  cls : Str → Option Addr
  flds : Str → List Str
  fn : Str → Option Addr

mutual
def Rp (G : Gx) (F : Hp) : D → V → Prop
  | .non, v => v = .non
  | .bl b, v => v = .bl b
  | .int i, v => v = .int i
  | .str s, v => v = .str s
  | .lst ds, v => ∃ a xs, v = .ref a ∧ F a = some (.lst xs) ∧ Rps G F ds xs
  | .tup ds, v => ∃ a xs, v = .ref a ∧ TupF G.K F a xs ∧ Rps G F ds xs
  | .wtup ds, v => ∃ a xs, v = .ref a ∧ SqT G.K F a xs ∧ Rps G F ds xs
  | .scr ns, v => ∃ a, v = .ref a ∧ SqL G.K F a (ns.map V.int)
  | .obj c ds, v => ∃ a C dx xs, v = .ref a ∧ G.cls c = some C ∧ F a = some (.ins C dx ((G.flds c).zip xs)) ∧ (G.flds c).length = ds.length ∧ Rps G F ds xs
  | .fn x, v => ∃ a, v = .ref a ∧ G.fn x = some a
  | .ty n, v => v = .ty n
  | .dk ks ds, v => ∃ a kvs, v = .ref a ∧ F a = some (.dK kvs) ∧ kvs.map (·.1) = ks ∧ Rps G F ds (kvs.map (·.2))
def Rps (G : Gx) (F : Hp) : List D → List V → Prop
  | [], xs => xs = []
  | d :: ds, xs => ∃ v vs, xs = v :: vs ∧ Rp G F d v ∧ Rps G F ds vs
end

def Ex (H H' : Hp) : Prop := ∀ a o, H a = some o → H' a = some o
theorem Ex.refl (H : Hp) : Ex H H := fun _ _ h => h
theorem Ex.trans {H H1 H2 : Hp} (a : Ex H H1) (b : Ex H1 H2) : Ex H H2 := fun x o h => b x o (a x o h)
theorem Ex.new {H : Hp} {p : Addr} {o : HO} (h : H p = none) : Ex H (upd H p o) := fun a u e => by
  rw [upd_ne (ne_of_none e h)]
  exact e
theorem ex_rd {H H' : Hp} {a : Addr} {u : HO} (e : Ex H H') (h : Rd H a u) : Rd H' a u := by
  rcases h with h | ⟨o, h⟩
  · exact Or.inl (e a _ h)
  · exact Or.inr ⟨o, e a _ h⟩
theorem ex_l {K : PySem.W.Frag} {H H' : Hp} {a : Addr} {xs : List V} (e : Ex H H') (h : SqL K H a xs) : SqL K H' a xs := by
  rcases h with h | h
  · exact Or.inl (ex_rd e h)
  · exact Or.inr h
theorem ex_t {K : PySem.W.Frag} {H H' : Hp} {a : Addr} {xs : List V} (e : Ex H H') (h : SqT K H a xs) : SqT K H' a xs := by
  rcases h with h | h
  · exact Or.inl (ex_rd e h)
  · exact Or.inr h

mutual
theorem Rp.mono {G : Gx} {F F' : Hp} (e : Ex F F') : ∀ (d : D) (v : V), Rp G F d v → Rp G F' d v
  | .non, _, h => by simpa only [Rp] using h
  | .bl _, _, h => by simpa only [Rp] using h
  | .int _, _, h => by simpa only [Rp] using h
  | .str _, _, h => by simpa only [Rp] using h
  | .lst ds, v, h => by
    simp only [Rp] at h ⊢
    obtain ⟨a, xs, h1, h2, h3⟩ := h
    exact ⟨a, xs, h1, e _ _ h2, Rps.mono e ds xs h3⟩
  | .tup ds, v, h => by
    simp only [Rp] at h ⊢
    obtain ⟨a, xs, h1, h2, h3⟩ := h
    exact ⟨a, xs, h1, h2.mono e, Rps.mono e ds xs h3⟩
  | .wtup ds, v, h => by
    simp only [Rp] at h ⊢
    obtain ⟨a, xs, h1, h2, h3⟩ := h
    exact ⟨a, xs, h1, ex_t e h2, Rps.mono e ds xs h3⟩
  | .scr ns, v, h => by
    simp only [Rp] at h ⊢
    obtain ⟨a, h1, h2⟩ := h
    exact ⟨a, h1, ex_l e h2⟩
  | .obj c ds, v, h => by
    simp only [Rp] at h ⊢
    obtain ⟨a, C, dx, xs, h1, h2, h3, h4, h5⟩ := h
    exact ⟨a, C, dx, xs, h1, h2, e _ _ h3, h4, Rps.mono e ds xs h5⟩
  | .fn x, v, h => by simpa only [Rp] using h
  | .ty n, v, h => by simpa only [Rp] using h
  | .dk ks ds, v, h => by
    simp only [Rp] at h ⊢
    obtain ⟨a, kvs, h1, h2, h3, h4⟩ := h
    exact ⟨a, kvs, h1, e _ _ h2, h3, Rps.mono e ds _ h4⟩
theorem Rps.mono {G : Gx} {F F' : Hp} (e : Ex F F') : ∀ (ds : List D) (xs : List V), Rps G F ds xs → Rps G F' ds xs
  | [], _, h => by simpa only [Rps] using h
  | d :: ds, xs, h => by
    simp only [Rps] at h ⊢
    obtain ⟨v, vs, h1, h2, h3⟩ := h
    exact ⟨v, vs, h1, Rp.mono e d v h2, Rps.mono e ds vs h3⟩
end

section
variable {G : Gx} {F F' : Hp}
theorem Rps.nil : Rps G F [] [] := by simp only [Rps]
theorem Rps.cons {d : D} {ds : List D} {v : V} {vs : List V} (h : Rp G F d v) (t : Rps G F ds vs) : Rps G F (d :: ds) (v :: vs) := by
  simp only [Rps]
  exact ⟨v, vs, rfl, h, t⟩
theorem Rps.inv {d : D} {ds : List D} {xs : List V} (h : Rps G F (d :: ds) xs) : ∃ v vs, xs = v :: vs ∧ Rp G F d v ∧ Rps G F ds vs := by
  simpa only [Rps] using h
theorem Rps.invn {xs : List V} (h : Rps G F [] xs) : xs = [] := by simpa only [Rps] using h
theorem Rps.length : ∀ {ds : List D} {xs : List V}, Rps G F ds xs → xs.length = ds.length
  | [], xs, h => by rw [h.invn]; rfl
  | d :: ds, xs, h => by
    obtain ⟨v, vs, rfl, _, h⟩ := h.inv
    simp [Rps.length h]
theorem Rps.get : ∀ {ds : List D} {xs : List V} {i : Nat} {d : D}, Rps G F ds xs → ds[i]? = some d → ∃ v, xs[i]? = some v ∧ Rp G F d v
  | [], _, _, _, _, e => by simp at e
  | d :: ds, xs, 0, d', h, e => by
    obtain ⟨v, vs, rfl, h1, h2⟩ := h.inv
    simp at e
    subst e
    exact ⟨v, rfl, h1⟩
  | d :: ds, xs, i + 1, d', h, e => by
    obtain ⟨v, vs, rfl, h1, h2⟩ := h.inv
    obtain ⟨w, e1, e2⟩ := Rps.get (i := i) (d := d') h2 (by simpa using e)
    exact ⟨w, by simpa using e1, e2⟩
theorem Rps.append : ∀ {ds es : List D} {xs ys : List V}, Rps G F ds xs → Rps G F es ys → Rps G F (ds ++ es) (xs ++ ys)
  | [], es, xs, ys, h, k => by rw [h.invn]; exact k
  | d :: ds, es, xs, ys, h, k => by
    obtain ⟨v, vs, rfl, h1, h2⟩ := h.inv
    exact Rps.cons h1 (Rps.append h2 k)
theorem Rps.set : ∀ {ds : List D} {xs : List V} (i : Nat) {d : D} {v : V}, Rps G F ds xs → Rp G F d v → Rps G F (ds.set i d) (xs.set i v)
  | [], xs, i, d, v, h, _ => by rw [h.invn]; exact Rps.nil
  | e :: ds, xs, 0, d, v, h, k => by
    obtain ⟨w, vs, rfl, h1, h2⟩ := h.inv
    exact Rps.cons k h2
  | e :: ds, xs, i + 1, d, v, h, k => by
    obtain ⟨w, vs, rfl, h1, h2⟩ := h.inv
    exact Rps.cons h1 (Rps.set i h2 k)
theorem Rps.drop : ∀ {ds : List D} {xs : List V} (n : Nat), Rps G F ds xs → Rps G F (ds.drop n) (xs.drop n)
  | ds, xs, 0, h => by simpa using h
  | [], xs, n + 1, h => by rw [h.invn]; exact Rps.nil
  | d :: ds, xs, n + 1, h => by
    obtain ⟨w, vs, rfl, h1, h2⟩ := h.inv
    exact Rps.drop n h2
theorem Rps.take : ∀ {ds : List D} {xs : List V} (n : Nat), Rps G F ds xs → Rps G F (ds.take n) (xs.take n)
  | ds, xs, 0, h => by simpa using Rps.nil
  | [], xs, n + 1, h => by rw [h.invn]; exact Rps.nil
  | d :: ds, xs, n + 1, h => by
    obtain ⟨w, vs, rfl, h1, h2⟩ := h.inv
    exact Rps.cons h1 (Rps.take n h2)
theorem Rps.eraseIdx : ∀ {ds : List D} {xs : List V} (n : Nat), Rps G F ds xs → Rps G F (ds.eraseIdx n) (xs.eraseIdx n)
  | [], xs, n, h => by rw [h.invn]; simpa using Rps.nil
  | d :: ds, xs, 0, h => by
    obtain ⟨w, vs, rfl, h1, h2⟩ := h.inv
    exact h2
  | d :: ds, xs, n + 1, h => by
    obtain ⟨w, vs, rfl, h1, h2⟩ := h.inv
    exact Rps.cons h1 (Rps.eraseIdx n h2)
theorem rps_ints : ∀ (ns : List Int), Rps G F (ns.map D.int) (ns.map V.int)
  | [] => Rps.nil
  | n :: ns => Rps.cons (by simp only [Rp]) (rps_ints ns)
theorem rps_ints_inv : ∀ {ns : List Int} {xs : List V}, Rps G F (ns.map D.int) xs → xs = ns.map V.int
  | [], xs, h => h.invn
  | n :: ns, xs, h => by
    obtain ⟨w, vs, rfl, h1, h2⟩ := Rps.inv (d := .int n) (ds := ns.map D.int) h
    have e : w = V.int n := by simpa only [Rp] using h1
    rw [e, rps_ints_inv h2]; rfl
end

/-! ### owned things -/
inductive O where
  | lst (ds : List D)
  | l2 (rss : List (List D))
  | dk (ks : List Key) (vs : List D)
abbrev Cells := List (Addr × HO)
/-- the rows of a list of owned lists -/
def rowsOk (G : Gx) (F : Hp) : List (List D) → List (Addr × List V) → Prop
  | [], rs => rs = []
  | ds :: dss, rs => ∃ r rt, rs = r :: rt ∧ Rps G F ds r.2 ∧ rowsOk G F dss rt
def OC (G : Gx) (F : Hp) : O → V → Cells → Prop
  | .lst ds, v, cs => ∃ p xs, v = .ref p ∧ cs = [(p, .lst xs)] ∧ Rps G F ds xs
  | .l2 dss, v, cs => ∃ p rs, v = .ref p ∧ cs = (p, .lst (rs.map fun r => .ref r.1)) :: rs.map (fun r => (r.1, .lst r.2)) ∧ rowsOk G F dss rs
  | .dk ks ds, v, cs => ∃ p kvs, v = .ref p ∧ cs = [(p, .dK kvs)] ∧ kvs.map (·.1) = ks ∧ Rps G F ds (kvs.map (·.2))
theorem rowsOk.mono {G : Gx} {F F' : Hp} (e : Ex F F') : ∀ {dss : List (List D)} {rs : List (Addr × List V)}, rowsOk G F dss rs → rowsOk G F' dss rs
  | [], _, h => h
  | ds :: dss, rs, ⟨r, rt, h1, h2, h3⟩ => ⟨r, rt, h1, Rps.mono e ds _ h2, rowsOk.mono e h3⟩
theorem OC.mono {G : Gx} {F F' : Hp} (e : Ex F F') : ∀ {o : O} {v : V} {cs : Cells}, OC G F o v cs → OC G F' o v cs
  | .lst ds, v, cs, ⟨p, xs, h1, h2, h3⟩ => ⟨p, xs, h1, h2, Rps.mono e ds xs h3⟩
  | .l2 dss, v, cs, ⟨p, rs, h1, h2, h3⟩ => ⟨p, rs, h1, h2, h3.mono e⟩
  | .dk ks ds, v, cs, ⟨p, kvs, h1, h2, h3, h4⟩ => ⟨p, kvs, h1, h2, h3, Rps.mono e ds _ h4⟩
def O.toD : O → D
  | .lst ds => .lst ds
  | .l2 dss => .lst (dss.map D.lst)
  | .dk ks ds => .dk ks ds

/-- cells laid upon a heap -/
def addc : Cells → Hp → Hp
  | [], H => H
  | c :: cs, H => upd (addc cs H) c.1 c.2
theorem addc_not : ∀ {cs : Cells} {H : Hp} {a : Addr}, (∀ c ∈ cs, c.1 ≠ a) → addc cs H a = H a
  | [], _, _, _ => rfl
  | c :: cs, H, a, h => by
    show upd (addc cs H) c.1 c.2 a = H a
    rw [upd_ne (fun e => h c (List.mem_cons_self ..) e.symm)]
    exact addc_not fun c' hc => h c' (List.mem_cons_of_mem _ hc)
theorem addc_in : ∀ {cs : Cells} {H : Hp} {c : Addr × HO}, (cs.map (·.1)).Nodup → c ∈ cs → addc cs H c.1 = some c.2
  | c' :: cs, H, c, nd, h => by
    simp only [List.map_cons, List.nodup_cons] at nd
    show upd (addc cs H) c'.1 c'.2 c.1 = some c.2
    rcases List.mem_cons.mp h with e | h
    · subst e; exact upd_same
    · have hne : c.1 ≠ c'.1 := fun e => nd.1 (e ▸ List.mem_map_of_mem h)
      rw [upd_ne hne]
      exact addc_in nd.2 h
theorem addc_ex {cs : Cells} {H : Hp} (h : ∀ c ∈ cs, H c.1 = none) : Ex H (addc cs H) := fun a o e => by
  rw [addc_not (fun c hc z => by rw [← z, h c hc] at e; cases e)]
  exact e
theorem addc_cases : ∀ {cs : Cells} {H : Hp} {a : Addr} {o : HO}, addc cs H a = some o → (∃ c ∈ cs, c.1 = a ∧ c.2 = o) ∨ ((∀ c ∈ cs, c.1 ≠ a) ∧ H a = some o)
  | [], H, a, o, h => Or.inr ⟨(fun _ z => nomatch z), h⟩
  | c :: cs, H, a, o, h => by
    have h : upd (addc cs H) c.1 c.2 a = some o := h
    by_cases e : a = c.1
    · subst e
      rw [upd_same] at h
      exact Or.inl ⟨c, List.mem_cons_self .., rfl, Option.some.inj h⟩
    · rw [upd_ne e] at h
      rcases addc_cases h with ⟨c', hc, e1, e2⟩ | ⟨h1, h2⟩
      · exact Or.inl ⟨c', List.mem_cons_of_mem _ hc, e1, e2⟩
      · refine Or.inr ⟨fun c' hc z => ?_, h2⟩
        rcases List.mem_cons.mp hc with rfl | hc
        · exact e z.symm
        · exact h1 c' hc z

/-! ### the environment -/
inductive SV where
  | no | fz (d : D) | ow (o : O) | io (o : O)
abbrev Rho := List SV
def SlotOk (G : Gx) (I : Nat → Option V) (F : Hp) (i : Nat) : SV → Option (Option V) → Cells → Prop
  | .no, _, cs => cs = []
  | .fz d, sv, cs => cs = [] ∧ ∃ v, sv = some (some v) ∧ Rp G F d v
  | .ow o, sv, cs => ∃ v, sv = some (some v) ∧ OC G F o v cs
  | .io o, sv, cs => ∃ v, sv = some (some v) ∧ I i = some v ∧ OC G F o v cs
theorem SlotOk.mono {G : Gx} {I : Nat → Option V} {F F' : Hp} (e : Ex F F') {i : Nat} : ∀ {s : SV} {sv : Option (Option V)} {cs : Cells}, SlotOk G I F i s sv cs → SlotOk G I F' i s sv cs
  | .no, _, _, h => h
  | .fz d, _, _, ⟨h1, v, h2, h3⟩ => ⟨h1, v, h2, Rp.mono e d v h3⟩
  | .ow _, _, _, ⟨v, h1, h2⟩ => ⟨v, h1, h2.mono e⟩
  | .io _, _, _, ⟨v, h1, h2, h3⟩ => ⟨v, h1, h2, h3.mono e⟩
/-- what the slots own -/
structure Fp (G : Gx) (I : Nat → Option V) (F R : Hp) (ρ : Rho) (σ : St) (H : Hp) (fp : Nat → Cells) : Prop where
  ok : ∀ i s, ρ[i]? = some s → SlotOk G I F i s σ[i]? (fp i)
  out : ∀ i, ρ[i]? = none → fp i = []
  at_ : ∀ i, ∀ c ∈ fp i, H c.1 = some c.2 ∧ F c.1 = none ∧ R c.1 = none
  nd : ∀ i, ((fp i).map (·.1)).Nodup
  dj : ∀ i j, i ≠ j → ∀ c ∈ fp i, ∀ c' ∈ fp j, c.1 ≠ c'.1
structure Er (G : Gx) (I : Nat → Option V) (F R : Hp) (ρ : Rho) (σ : St) (H : Hp) : Prop where
  fH : Ex F H
  rH : Ex R H
  dj : ∀ a o, F a = some o → R a = none
  len : σ.length = ρ.length
  own : ∃ fp, Fp G I F R ρ σ H fp
end VI

end
section
set_option Elab.async false
set_option linter.all false
set_option maxRecDepth 100000
namespace VI
open PySem L2

section
variable {G : Gx} {I : Nat → Option V} {F R R2 H : Hp} {ρ : Rho} {σ : St}

theorem addc_none {cs : Cells} {H : Hp} {a : Addr} (h : addc cs H a = none) (nd : (cs.map (·.1)).Nodup) : (∀ c ∈ cs, c.1 ≠ a) ∧ H a = none := by
  have h1 : ∀ c ∈ cs, c.1 ≠ a := fun c hc e => by
    rw [← e, addc_in nd hc] at h; cases h
  exact ⟨h1, by rw [addc_not h1] at h; exact h⟩
/-- less is framed -/
theorem Er.dropR (E : Er G I F R2 ρ σ H) (h : Ex R R2) : Er G I F R ρ σ H := by
  obtain ⟨fp, q⟩ := E.own
  have nn : ∀ a, R2 a = none → R a = none := fun a e => by
    cases z : R a with
    | none => rfl
    | some o => rw [h a o z] at e; cases e
  exact ⟨E.fH, h.trans E.rH, fun a o e => nn a (E.dj a o e), E.len, fp, q.ok, q.out, fun i c hc => ⟨(q.at_ i c hc).1, (q.at_ i c hc).2.1, nn _ (q.at_ i c hc).2.2⟩, q.nd, q.dj⟩
/-- a new object that never changes -/
theorem Er.newF {p : Addr} {o : HO} (E : Er G I F R ρ σ H) (hp : H p = none) : Ex F (upd F p o) ∧ Er G I (upd F p o) R ρ σ (upd H p o) := by
  have fp0 : F p = none := by
    cases z : F p with
    | none => rfl
    | some u => rw [E.fH p u z] at hp; cases hp
  have rp0 : R p = none := by
    cases z : R p with
    | none => rfl
    | some u => rw [E.rH p u z] at hp; cases hp
  have eF : Ex F (upd F p o) := Ex.new fp0
  obtain ⟨fp, q⟩ := E.own
  refine ⟨eF, fun a u e => ?_, fun a u e => ?_, fun a u e => ?_, E.len, fp, fun i s hs => (q.ok i s hs).mono eF, q.out, fun i c hc => ?_, q.nd, q.dj⟩
  · by_cases z : a = p
    · subst z; rw [upd_same] at e ⊢; exact e
    · rw [upd_ne z] at e ⊢; exact E.fH a u e
  · rw [upd_ne (ne_of_none (E.rH a u e) hp)]; exact E.rH a u e
  · by_cases z : a = p
    · subst z; exact rp0
    · rw [upd_ne z] at e; exact E.dj a u e
  · obtain ⟨h1, h2, h3⟩ := q.at_ i c hc
    have z : c.1 ≠ p := ne_of_none h1 hp
    rw [upd_ne z, upd_ne z]
    exact ⟨h1, h2, h3⟩
/-- a new object that is framed for a while -/
theorem Er.newR {p : Addr} {o : HO} (E : Er G I F R ρ σ H) (hp : H p = none) : Ex R (upd R p o) ∧ R p = none ∧ Er G I F (upd R p o) ρ σ (upd H p o) := by
  have fp0 : F p = none := by
    cases z : F p with
    | none => rfl
    | some u => rw [E.fH p u z] at hp; cases hp
  have rp0 : R p = none := by
    cases z : R p with
    | none => rfl
    | some u => rw [E.rH p u z] at hp; cases hp
  obtain ⟨fp, q⟩ := E.own
  refine ⟨Ex.new rp0, rp0, fun a u e => ?_, fun a u e => ?_, fun a u e => ?_, E.len, fp, q.ok, q.out, fun i c hc => ?_, q.nd, q.dj⟩
  · rw [upd_ne (ne_of_none (E.fH a u e) hp)]; exact E.fH a u e
  · by_cases z : a = p
    · subst z; rw [upd_same] at e ⊢; exact e
    · rw [upd_ne z] at e ⊢; exact E.rH a u e
  · have z : a ≠ p := ne_of_none (E.fH a u e) hp
    rw [upd_ne z]; exact E.dj a u e
  · obtain ⟨h1, h2, h3⟩ := q.at_ i c hc
    have z : c.1 ≠ p := ne_of_none h1 hp
    rw [upd_ne z, upd_ne z]
    exact ⟨h1, h2, h3⟩
/-- framed cells become fixed -/
theorem Er.frz {cs : Cells} (E : Er G I F (addc cs R) ρ σ H) (nd : (cs.map (·.1)).Nodup) (hR : ∀ c ∈ cs, R c.1 = none) : Ex F (addc cs F) ∧ Er G I (addc cs F) R ρ σ H := by
  have hF : ∀ c ∈ cs, F c.1 = none := fun c hc => by
    cases z : F c.1 with
    | none => rfl
    | some u =>
      have := E.dj c.1 u z
      rw [addc_in nd hc] at this; cases this
  have eF : Ex F (addc cs F) := addc_ex hF
  obtain ⟨fp, q⟩ := E.own
  refine ⟨eF, fun a u e => ?_, (addc_ex hR).trans E.rH, fun a u e => ?_, E.len, fp, fun i s hs => (q.ok i s hs).mono eF, q.out, fun i c hc => ?_, q.nd, q.dj⟩
  · rcases addc_cases e with ⟨c, hc, e1, e2⟩ | ⟨_, e2⟩
    · subst e1 e2; exact E.rH _ _ (addc_in nd hc)
    · exact E.fH a u e2
  · rcases addc_cases e with ⟨c, hc, e1, e2⟩ | ⟨_, e2⟩
    · subst e1; exact hR c hc
    · exact (addc_none (E.dj a u e2) nd).2
  · obtain ⟨h1, h2, h3⟩ := q.at_ i c hc
    obtain ⟨h4, h5⟩ := addc_none h3 nd
    exact ⟨h1, by rw [addc_not h4]; exact h2, h5⟩
theorem rows_rps {G : Gx} {F F' : Hp} (e : Ex F F') : ∀ {dss : List (List D)} {rs : List (Addr × List V)}, rowsOk G F dss rs → (∀ r ∈ rs, F' r.1 = some (.lst r.2)) → Rps G F' (dss.map D.lst) (rs.map fun r => V.ref r.1)
  | [], rs, h, _ => by
    have h : rs = [] := h
    subst h; exact Rps.nil
  | ds :: dss, rs, ⟨r, rt, h1, h2, h3⟩, k => by
    subst h1
    refine Rps.cons ?_ (rows_rps e h3 fun r' hr => k r' (List.mem_cons_of_mem _ hr))
    simp only [Rp]
    exact ⟨r.1, r.2, rfl, k r (List.mem_cons_self ..), Rps.mono e ds _ h2⟩
/-- what was owned, fixed -/
theorem OC.rp {o : O} {v : V} {cs : Cells} (h : OC G F o v cs) (nd : (cs.map (·.1)).Nodup) (hF : Ex F (addc cs F)) : Rp G (addc cs F) o.toD v := by
  cases o with
  | lst ds =>
    obtain ⟨p, xs, rfl, rfl, h3⟩ := h
    show Rp G _ (.lst ds) _
    simp only [Rp]
    exact ⟨p, xs, rfl, addc_in nd (c := (p, .lst xs)) (by simp), Rps.mono hF ds xs h3⟩
  | l2 dss =>
    obtain ⟨p, rs, rfl, rfl, h3⟩ := h
    show Rp G _ (.lst (dss.map D.lst)) _
    simp only [Rp]
    refine ⟨p, _, rfl, addc_in nd (List.mem_cons_self ..), rows_rps hF h3 fun r hr => ?_⟩
    exact addc_in nd (c := (r.1, .lst r.2)) (List.mem_cons_of_mem _ (List.mem_map.mpr ⟨r, hr, rfl⟩))
  | dk ks ds =>
    obtain ⟨p, kvs, rfl, rfl, h3, h4⟩ := h
    show Rp G _ (.dk ks ds) _
    simp only [Rp]
    exact ⟨p, kvs, rfl, addc_in nd (c := (p, .dK kvs)) (by simp), h3, Rps.mono hF ds _ h4⟩

theorem getset_self {α : Type} {l : List α} {i : Nat} {x y : α} (h : (l.set i x)[i]? = some y) : y = x := by
  rw [List.getElem?_set] at h
  simp at h
  exact h.2.symm
/-- a slot set to a thing whose cells were framed -/
theorem Er.set {cs : Cells} {i : Nat} {s : SV} {v : V} (E : Er G I F (addc cs R) ρ σ H) (nd : (cs.map (·.1)).Nodup) (hR : ∀ c ∈ cs, R c.1 = none) (hs : SlotOk G I F i s (some (some v)) cs) :
    Er G I F R (ρ.set i s) (σ.set i (some v)) H := by
  by_cases hi : i < ρ.length
  · obtain ⟨fp, q⟩ := E.own
    have eR : Ex R (addc cs R) := addc_ex hR
    have nn : ∀ a, addc cs R a = none → R a = none := fun a e => (addc_none e nd).2
    refine ⟨E.fH, eR.trans E.rH, fun a o e => nn a (E.dj a o e), by simp [E.len], fun j => if j = i then cs else fp j, fun j t ht => ?_, fun j hj => ?_, fun j c hc => ?_, fun j => ?_, fun j k hjk c hc c' hc' => ?_⟩
    · by_cases e : j = i
      · subst e
        have := getset_self ht
        subst this
        rw [if_pos rfl, List.getElem?_set_self (by rw [E.len]; exact hi)]
        exact hs
      · rw [List.getElem?_set_ne (Ne.symm e)] at ht ⊢
        rw [if_neg e]
        exact q.ok j t ht
    · have hl : ρ.length ≤ j := by simpa using List.getElem?_eq_none_iff.mp hj
      have e : j ≠ i := by omega
      simp only [if_neg e]
      exact q.out j (List.getElem?_eq_none hl)
    · by_cases e : j = i
      · subst e
        simp only [if_pos] at hc
        have h1 := addc_in (H := R) nd hc
        refine ⟨E.rH _ _ h1, ?_, hR c hc⟩
        cases z : F c.1 with
        | none => rfl
        | some u => rw [E.dj _ _ z] at h1; cases h1
      · simp only [if_neg e] at hc
        obtain ⟨h1, h2, h3⟩ := q.at_ j c hc
        exact ⟨h1, h2, nn _ h3⟩
    · by_cases e : j = i
      · simp only [if_pos e]; exact nd
      · simp only [if_neg e]; exact q.nd j
    · by_cases e : j = i
      · by_cases e' : k = i
        · exact absurd (e.trans e'.symm) hjk
        · simp only [if_pos e] at hc
          simp only [if_neg e'] at hc'
          exact (addc_none (q.at_ k c' hc').2.2 nd).1 c hc
      · by_cases e' : k = i
        · simp only [if_neg e] at hc
          simp only [if_pos e'] at hc'
          exact fun z => (addc_none (q.at_ j c hc).2.2 nd).1 c' hc' z.symm
        · simp only [if_neg e] at hc
          simp only [if_neg e'] at hc'
          exact q.dj j k hjk c hc c' hc'
  · have e1 : ρ.set i s = ρ := List.set_eq_of_length_le (by omega)
    have e2 : σ.set i (some v) = σ := List.set_eq_of_length_le (by rw [E.len]; omega)
    rw [e1, e2]
    exact E.dropR (addc_ex hR)
/-- a slot that holds fixed data -/
theorem Er.get {i : Nat} {d : D} (E : Er G I F R ρ σ H) (h : ρ[i]? = some (.fz d)) : ∃ v, σ[i]? = some (some v) ∧ Rp G F d v := by
  obtain ⟨fp, q⟩ := E.own
  obtain ⟨_, v, h1, h2⟩ := q.ok i _ h
  exact ⟨v, h1, h2⟩
/-- a slot's cells change (the same addresses): io or not as s tells -/
theorem Er.mut {i : Nat} {s s' : SV} {cs' : Cells} {H' : Hp} {fp : Nat → Cells} (E : Er G I F R ρ σ H) (q : Fp G I F R ρ σ H fp) (hi : ρ[i]? = some s) (hs : SlotOk G I F i s' σ[i]? cs') (hc : cs'.map (·.1) = (fp i).map (·.1))
    (hH : ∀ c ∈ cs', H' c.1 = some c.2) (hk : ∀ a, a ∉ (fp i).map (·.1) → H' a = H a) : Er G I F R (ρ.set i s') σ H' := by
  have hil : i < ρ.length := (List.getElem?_eq_some_iff.mp hi).1
  have out : ∀ a o, (F a = some o ∨ R a = some o) → a ∉ (fp i).map (·.1) := fun a o e hm => by
    obtain ⟨c, hc, rfl⟩ := List.mem_map.mp hm
    obtain ⟨_, h2, h3⟩ := q.at_ i c hc
    rcases e with e | e
    · rw [h2] at e; cases e
    · rw [h3] at e; cases e
  refine ⟨fun a o e => by rw [hk a (out a o (.inl e))]; exact E.fH a o e, fun a o e => by rw [hk a (out a o (.inr e))]; exact E.rH a o e, E.dj, by simp [E.len], fun j => if j = i then cs' else fp j, fun j t ht => ?_, fun j hj => ?_, fun j c hc1 => ?_, fun j => ?_, fun j k hjk c hc1 c' hc2 => ?_⟩
  · by_cases e : j = i
    · subst e
      have := getset_self ht
      subst this
      rw [if_pos rfl]; exact hs
    · rw [List.getElem?_set_ne (Ne.symm e)] at ht
      rw [if_neg e]; exact q.ok j t ht
  · have hl : ρ.length ≤ j := by simpa using List.getElem?_eq_none_iff.mp hj
    have e : j ≠ i := by omega
    simp only [if_neg e]; exact q.out j (List.getElem?_eq_none hl)
  · by_cases e : j = i
    · simp only [if_pos e] at hc1
      have hm : c.1 ∈ (fp i).map (·.1) := hc ▸ List.mem_map_of_mem hc1
      obtain ⟨c0, hc0, e0⟩ := List.mem_map.mp hm
      obtain ⟨_, h2, h3⟩ := q.at_ i c0 hc0
      rw [e0] at h2 h3
      exact ⟨hH c hc1, h2, h3⟩
    · simp only [if_neg e] at hc1
      obtain ⟨h1, h2, h3⟩ := q.at_ j c hc1
      refine ⟨?_, h2, h3⟩
      rw [hk c.1 fun hm => ?_]; exact h1
      obtain ⟨c0, hc0, e0⟩ := List.mem_map.mp hm
      exact q.dj j i e c hc1 c0 hc0 e0.symm
  · by_cases e : j = i
    · simp only [if_pos e]; rw [hc]; exact q.nd i
    · simp only [if_neg e]; exact q.nd j
  · have key : ∀ c ∈ cs', ∃ c0 ∈ fp i, c0.1 = c.1 := fun c hc1 => by
      have hm : c.1 ∈ (fp i).map (·.1) := hc ▸ List.mem_map_of_mem hc1
      exact List.mem_map.mp hm
    by_cases e : j = i
    · by_cases e' : k = i
      · exact absurd (e.trans e'.symm) hjk
      · simp only [if_pos e] at hc1
        simp only [if_neg e'] at hc2
        obtain ⟨c0, h0, h1⟩ := key c hc1
        rw [← h1]
        exact q.dj i k (Ne.symm e') c0 h0 c' hc2
    · by_cases e' : k = i
      · simp only [if_neg e] at hc1
        simp only [if_pos e'] at hc2
        obtain ⟨c0, h0, h1⟩ := key c' hc2
        rw [← h1]
        exact q.dj j i e c hc1 c0 h0
      · simp only [if_neg e] at hc1
        simp only [if_neg e'] at hc2
        exact q.dj j k hjk c hc1 c' hc2
/-- is it owned -/
def SV.own? : SV → Option O
  | .ow o => some o
  | .io o => some o
  | _ => none
/-- the same kind of slot with another content -/
def SV.re (o : O) : SV → SV
  | .ow _ => .ow o
  | .io _ => .io o
  | s => s
theorem SlotOk.own {s : SV} {o : O} {i : Nat} {sv : Option (Option V)} {cs : Cells} (h : SlotOk G I F i s sv cs) (e : s.own? = some o) : ∃ v, sv = some (some v) ∧ OC G F o v cs ∧ ∀ o' cs', OC G F o' v cs' → SlotOk G I F i (s.re o') sv cs' := by
  cases s with
  | no => cases e
  | fz d => cases e
  | ow o1 =>
    obtain ⟨v, h1, h2⟩ := h
    cases e
    exact ⟨v, h1, h2, fun o' cs' q => ⟨v, h1, q⟩⟩
  | io o1 =>
    obtain ⟨v, h1, h2, h3⟩ := h
    cases e
    exact ⟨v, h1, h3, fun o' cs' q => ⟨v, h1, h2, q⟩⟩
/-- an owned list: read, written -/
theorem Er.lst {i : Nat} {s : SV} {ds : List D} (E : Er G I F R ρ σ H) (h : ρ[i]? = some s) (e : s.own? = some (.lst ds)) : ∃ p xs, σ[i]? = some (some (.ref p)) ∧ H p = some (.lst xs) ∧ Rps G F ds xs ∧
    ∀ ds' xs', Rps G F ds' xs' → Er G I F R (ρ.set i (s.re (.lst ds'))) σ (upd H p (.lst xs')) := by
  obtain ⟨fp, q⟩ := E.own
  obtain ⟨v, h1, ⟨p, xs, rfl, hc, h3⟩, k⟩ := (q.ok i s h).own e
  have hp : H p = some (.lst xs) := (q.at_ i (p, .lst xs) (by rw [hc]; simp)).1
  refine ⟨p, xs, h1, hp, h3, fun ds' xs' h' => ?_⟩
  refine E.mut q h (k (.lst ds') [(p, .lst xs')] ⟨p, xs', rfl, rfl, h'⟩) (by rw [hc]; rfl) (fun c hcm => ?_) (fun a ha => ?_)
  · have : c = (p, .lst xs') := by simpa using hcm
    subst this; exact upd_same
  · rw [hc] at ha
    exact upd_ne (by simpa using ha)
/-- an owned dict: read, written -/
theorem Er.dic {i : Nat} {s : SV} {ks : List Key} {ds : List D} (E : Er G I F R ρ σ H) (h : ρ[i]? = some s) (e : s.own? = some (.dk ks ds)) : ∃ p kvs, σ[i]? = some (some (.ref p)) ∧ H p = some (.dK kvs) ∧ kvs.map (·.1) = ks ∧ Rps G F ds (kvs.map (·.2)) ∧
    ∀ ks' ds' kvs', kvs'.map (·.1) = ks' → Rps G F ds' (kvs'.map (·.2)) → Er G I F R (ρ.set i (s.re (.dk ks' ds'))) σ (upd H p (.dK kvs')) := by
  obtain ⟨fp, q⟩ := E.own
  obtain ⟨v, h1, ⟨p, kvs, rfl, hc, h3, h4⟩, k⟩ := (q.ok i s h).own e
  have hp : H p = some (.dK kvs) := (q.at_ i (p, .dK kvs) (by rw [hc]; simp)).1
  refine ⟨p, kvs, h1, hp, h3, h4, fun ks' ds' kvs' g1 g2 => ?_⟩
  refine E.mut q h (k (.dk ks' ds') [(p, .dK kvs')] ⟨p, kvs', rfl, rfl, g1, g2⟩) (by rw [hc]; rfl) (fun c hcm => ?_) (fun a ha => ?_)
  · have : c = (p, .dK kvs') := by simpa using hcm
    subst this; exact upd_same
  · rw [hc] at ha
    exact upd_ne (by simpa using ha)
/-- an owned thing becomes fixed where it stands -/
theorem Er.frzSlot {i : Nat} {s : SV} {o : O} (E : Er G I F R ρ σ H) (h : ρ[i]? = some s) (e : s.own? = some o) : ∃ F2 v, Ex F F2 ∧ σ[i]? = some (some v) ∧ Rp G F2 o.toD v ∧ Er G I F2 R (ρ.set i (.fz o.toD)) σ H := by
  obtain ⟨fp, q⟩ := E.own
  obtain ⟨v, h1, h2, _⟩ := (q.ok i s h).own e
  have hil : i < ρ.length := (List.getElem?_eq_some_iff.mp h).1
  have hF : Ex F (addc (fp i) F) := addc_ex fun c hc => (q.at_ i c hc).2.1
  have hrp := h2.rp (q.nd i) hF
  refine ⟨addc (fp i) F, v, hF, h1, hrp, fun a o' z => ?_, E.rH, fun a o' z => ?_, by simp [E.len], fun j => if j = i then [] else fp j, fun j t ht => ?_, fun j hj => ?_, fun j c hc1 => ?_, fun j => ?_, fun j k hjk c hc1 c' hc2 => ?_⟩
  · rcases addc_cases z with ⟨c, hc, e1, e2⟩ | ⟨_, e2⟩
    · subst e1 e2; exact (q.at_ i c hc).1
    · exact E.fH a o' e2
  · rcases addc_cases z with ⟨c, hc, e1, e2⟩ | ⟨_, e2⟩
    · subst e1; exact (q.at_ i c hc).2.2
    · exact E.dj a o' e2
  · by_cases e : j = i
    · subst e
      have := getset_self ht
      subst this
      rw [if_pos rfl]; exact ⟨rfl, v, h1, hrp⟩
    · rw [List.getElem?_set_ne (Ne.symm e)] at ht
      rw [if_neg e]; exact (q.ok j t ht).mono hF
  · have hl : ρ.length ≤ j := by simpa using List.getElem?_eq_none_iff.mp hj
    have e : j ≠ i := by omega
    simp only [if_neg e]; exact q.out j (List.getElem?_eq_none hl)
  · by_cases e : j = i
    · simp only [if_pos e] at hc1; cases hc1
    · simp only [if_neg e] at hc1
      obtain ⟨h1, h2, h3⟩ := q.at_ j c hc1
      exact ⟨h1, by rw [addc_not fun c0 h0 z => q.dj i j (Ne.symm e) c0 h0 c hc1 z]; exact h2, h3⟩
  · by_cases e : j = i
    · simp only [if_pos e]; exact List.nodup_nil
    · simp only [if_neg e]; exact q.nd j
  · by_cases e : j = i
    · simp only [if_pos e] at hc1; cases hc1
    · by_cases e' : k = i
      · simp only [if_pos e'] at hc2; cases hc2
      · simp only [if_neg e] at hc1
        simp only [if_neg e'] at hc2
        exact q.dj j k hjk c hc1 c' hc2
/-- an owned thing taken out of its slot -/
theorem Er.move {i : Nat} {s : SV} {o : O} (E : Er G I F R ρ σ H) (h : ρ[i]? = some s) (e : s.own? = some o) : ∃ cs v, σ[i]? = some (some v) ∧ OC G F o v cs ∧ (cs.map (·.1)).Nodup ∧ (∀ c ∈ cs, R c.1 = none) ∧ Er G I F (addc cs R) (ρ.set i .no) σ H := by
  obtain ⟨fp, q⟩ := E.own
  obtain ⟨v, h1, h2, _⟩ := (q.ok i s h).own e
  have hil : i < ρ.length := (List.getElem?_eq_some_iff.mp h).1
  refine ⟨fp i, v, h1, h2, q.nd i, fun c hc => (q.at_ i c hc).2.2, E.fH, fun a o' z => ?_, fun a o' z => ?_, by simp [E.len], fun j => if j = i then [] else fp j, fun j t ht => ?_, fun j hj => ?_, fun j c hc1 => ?_, fun j => ?_, fun j k hjk c hc1 c' hc2 => ?_⟩
  · rcases addc_cases z with ⟨c, hc, e1, e2⟩ | ⟨_, e2⟩
    · subst e1 e2; exact (q.at_ i c hc).1
    · exact E.rH a o' e2
  · rw [addc_not fun c hc z' => ?_]
    · exact E.dj a o' z
    · rw [← z', (q.at_ i c hc).2.1] at z; cases z
  · by_cases e : j = i
    · subst e
      have := getset_self ht
      subst this
      rw [if_pos rfl]; exact rfl
    · rw [List.getElem?_set_ne (Ne.symm e)] at ht
      rw [if_neg e]; exact q.ok j t ht
  · have hl : ρ.length ≤ j := by simpa using List.getElem?_eq_none_iff.mp hj
    have e : j ≠ i := by omega
    simp only [if_neg e]; exact q.out j (List.getElem?_eq_none hl)
  · by_cases e : j = i
    · simp only [if_pos e] at hc1; cases hc1
    · simp only [if_neg e] at hc1
      obtain ⟨h1, h2, h3⟩ := q.at_ j c hc1
      exact ⟨h1, h2, by rw [addc_not fun c0 h0 z => q.dj i j (Ne.symm e) c0 h0 c hc1 z]; exact h3⟩
  · by_cases e : j = i
    · simp only [if_pos e]; exact List.nodup_nil
    · simp only [if_neg e]; exact q.nd j
  · by_cases e : j = i
    · simp only [if_pos e] at hc1; cases hc1
    · by_cases e' : k = i
      · simp only [if_pos e'] at hc2; cases hc2
      · simp only [if_neg e] at hc1
        simp only [if_neg e'] at hc2
        exact q.dj j k hjk c hc1 c' hc2
end
end VI

end
section
set_option Elab.async false
set_option linter.all false
set_option maxRecDepth 100000
namespace VI
open PySem L2

/-! ### what a piece of the text gives -/
inductive RV where
  | fz (d : D) | ow (o : O)
structure Xn where
  cls : Str
  val : Option (Str × D)
inductive Rs (α : Type) where
  | ok (a : α) (ρ : Rho) | ex (x : Xn) (ρ : Rho) | bad
def Rs.bind {α β : Type} (r : Rs α) (k : α → Rho → Rs β) : Rs β := match r with
  | .ok a ρ => k a ρ
  | .ex x ρ => .ex x ρ
  | .bad => .bad
@[simp] theorem Rs.bind_ok {α β : Type} {a : α} {ρ : Rho} {k : α → Rho → Rs β} : (Rs.ok a ρ).bind k = k a ρ := rfl
@[simp] theorem Rs.bind_ex {α β : Type} {x : Xn} {ρ : Rho} {k : α → Rho → Rs β} : (Rs.ex x ρ : Rs α).bind k = .ex x ρ := rfl
@[simp] theorem Rs.bind_bad {α β : Type} {k : α → Rho → Rs β} : (Rs.bad : Rs α).bind k = .bad := rfl
def Post {α : Type} (P : α → Rho → Prop) (E : Xn → Rho → Prop) : Rs α → Prop
  | .ok a ρ => P a ρ
  | .ex x ρ => E x ρ
  | .bad => False
theorem Post.mono {α : Type} {P P' : α → Rho → Prop} {E E' : Xn → Rho → Prop} {r : Rs α} (h : Post P E r) (h1 : ∀ a ρ, P a ρ → P' a ρ) (h2 : ∀ x ρ, E x ρ → E' x ρ) : Post P' E' r := by
  cases r with
  | ok a ρ => exact h1 a ρ h
  | ex x ρ => exact h2 x ρ h
  | bad => exact h
theorem Post.bind {α β : Type} {P : β → Rho → Prop} {E : Xn → Rho → Prop} {r : Rs α} {k : α → Rho → Rs β} (h : Post P E (r.bind k)) : Post (fun a ρ => Post P E (k a ρ)) E r := by
  cases r with
  | ok a ρ => exact h
  | ex x ρ => exact h
  | bad => exact h
abbrev EF := Rho → Rs RV
def RvOk (G : Gx) (F R R2 : Hp) : RV → V → Prop
  | .fz d, v => R2 = R ∧ Rp G F d v
  | .ow o, v => ∃ cs, OC G F o v cs ∧ R2 = addc cs R ∧ (cs.map (·.1)).Nodup ∧ ∀ c ∈ cs, R c.1 = none
def XnOk (G : Gx) (F : Hp) (x : Xn) (c : Value) (d : Option Addr) : Prop :=
  ∃ C, G.cls x.cls = some C ∧ c = .ref C ∧ match x.val with
    | none => d = none
    | some (f, dv) => ∃ a v, d = some a ∧ F a = some (.xd [(f, v)]) ∧ Rp G F dv v
def exP (G : Gx) (W : WX) (I : Nat → Option V) (F R : Hp) (σ : St) : Xn → Rho → Prop := fun x ρ' => ∀ c d F2 H2, Ex F F2 → XnOk G F2 x c d → Er G I F2 R ρ' σ H2 → W c d σ H2
def okE (G : Gx) (I : Nat → Option V) (F R : Hp) (σ : St) (Q : VK) : RV → Rho → Prop := fun r ρ' => ∀ v F2 R2 H2, Ex F F2 → RvOk G F2 R R2 r v → Er G I F2 R2 ρ' σ H2 → Q v H2
def tD (G : Gx) (W : WX) (f : EF) : TE := fun σ H Q => ∃ I F R ρ, Er G I F R ρ σ H ∧ Post (okE G I F R σ Q) (exP G W I F R σ) (f ρ)
def DE (X : Cx) (G : Gx) (W : WX) (e : Expr) (f : EF) : Prop := PE X e (tD G W f)

section
variable {G : Gx} {W : WX} {I : Nat → Option V} {F F2 R H : Hp} {ρ : Rho} {σ : St} {X : Cx}
theorem exP.mono (e : Ex F F2) {x : Xn} {ρ : Rho} (h : exP G W I F R σ x ρ) : exP G W I F2 R σ x ρ := fun c d F3 H3 e3 r3 E3 => h c d F3 H3 (e.trans e3) r3 E3
theorem okE.mono {Q : VK} (e : Ex F F2) {r : RV} {ρ : Rho} (h : okE G I F R σ Q r ρ) : okE G I F2 R σ Q r ρ := fun v F3 R3 H3 e3 r3 E3 => h v F3 R3 H3 (e.trans e3) r3 E3
theorem postE.mono {Q : VK} (e : Ex F F2) {o : Rs RV} (h : Post (okE G I F R σ Q) (exP G W I F R σ) o) : Post (okE G I F2 R σ Q) (exP G W I F2 R σ) o :=
  h.mono (fun _ _ h => h.mono e) fun _ _ h => h.mono e
theorem de_of {e : Expr} {t : TE} {f : EF} (h : PE X e t) (k : ∀ σ H Q, tD G W f σ H Q → t σ H Q) : DE X G W e f :=
  ⟨fun pins s σ H Q I hq => h.run pins s σ H Q I (k σ H Q hq)⟩

def eC (d : D) : EF := fun ρ => .ok (.fz d) ρ
theorem tD_c {d : D} {v : V} (h : ∀ F, Rp G F d v) : ∀ σ H Q, tD G W (eC d) σ H Q → tC v σ H Q := fun σ H Q ⟨I, F, R, ρ, E, h1⟩ => h1 v F R H (Ex.refl F) ⟨rfl, h F⟩ E
theorem de_int {i j pos} : DE X G W (.Constant (.int i) j pos) (eC (.int i)) := de_of pe_int (tD_c fun F => by simp only [Rp])
theorem de_bl {b j pos} : DE X G W (.Constant (.bool b) j pos) (eC (.bl b)) := de_of pe_bl (tD_c fun F => by simp only [Rp])
theorem de_non {j pos} : DE X G W (.Constant .none j pos) (eC .non) := de_of pe_non (tD_c fun F => by simp only [Rp])
theorem de_str {x j pos} : DE X G W (.Constant (.str x) j pos) (eC (.str x)) := de_of pe_str (tD_c fun F => by simp only [Rp])

/-- what a slot holds: fixed data, an owned thing -/
def Rho.fix (ρ : Rho) (i : Nat) : Option D := match ρ[i]? with
  | some (.fz d) => some d
  | _ => none
def Rho.own (ρ : Rho) (i : Nat) : Option O := ρ[i]?.bind SV.own?
/-- a name that holds fixed data -/
def eV (i : Nat) : EF := fun ρ => match ρ.fix i with
  | some d => .ok (.fz d) ρ
  | none => .bad
theorem Er.fix {i : Nat} {d : D} (E : Er G I F R ρ σ H) (h : ρ.fix i = some d) : ∃ v, σ[i]? = some (some v) ∧ Rp G F d v := by
  unfold Rho.fix at h
  split at h
  · cases h; exact E.get (by assumption)
  · cases h
theorem tD_v {i : Nat} : ∀ σ H Q, tD G W (eV i) σ H Q → tVar i σ H Q := fun σ H Q ⟨I, F, R, ρ, E, h1⟩ => by
  unfold eV at h1
  split at h1
  · rename_i d hd
    obtain ⟨v, h2, h3⟩ := E.fix hd
    exact ⟨v, h2, h1 v F R H (Ex.refl F) ⟨rfl, h3⟩ E⟩
  · exact h1.elim
theorem de_v {i : Nat} {x : Str} {pos : Pos} (hp : PE X (.Name x pos) (tVar i)) : DE X G W (.Name x pos) (eV i) := de_of hp tD_v
/-- a name whose owned thing becomes fixed -/
def eZ (i : Nat) : EF := fun ρ => match ρ.own i with
  | some o => .ok (.fz o.toD) (ρ.set i (.fz o.toD))
  | none => .bad
theorem tD_z {i : Nat} : ∀ σ H Q, tD G W (eZ i) σ H Q → tVar i σ H Q := fun σ H Q ⟨I, F, R, ρ, E, h1⟩ => by
  unfold eZ at h1
  split at h1
  · rename_i o ho
    obtain ⟨s, hs, ho⟩ := Option.bind_eq_some_iff.mp ho
    obtain ⟨F2, v, e, h2, h3, h4⟩ := E.frzSlot hs ho
    exact ⟨v, h2, h1 v F2 R H e ⟨rfl, h3⟩ h4⟩
  · exact h1.elim
theorem de_z {i : Nat} {x : Str} {pos : Pos} (hp : PE X (.Name x pos) (tVar i)) : DE X G W (.Name x pos) (eZ i) := de_of hp tD_z
/-- a name whose owned thing is handed on -/
def eM (i : Nat) : EF := fun ρ => match ρ.own i with
  | some o => .ok (.ow o) (ρ.set i .no)
  | none => .bad
theorem tD_m {i : Nat} : ∀ σ H Q, tD G W (eM i) σ H Q → tVar i σ H Q := fun σ H Q ⟨I, F, R, ρ, E, h1⟩ => by
  unfold eM at h1
  split at h1
  · rename_i o ho
    obtain ⟨s, hs, ho⟩ := Option.bind_eq_some_iff.mp ho
    obtain ⟨cs, v, h2, h3, h4, h5, h6⟩ := E.move hs ho
    exact ⟨v, h2, h1 v F _ H (Ex.refl F) ⟨cs, h3, rfl, h4, h5⟩ h6⟩
  · exact h1.elim
theorem de_m {i : Nat} {x : Str} {pos : Pos} (hp : PE X (.Name x pos) (tVar i)) : DE X G W (.Name x pos) (eM i) := de_of hp tD_m

/-! ### operands -/
inductive OV where
  | dt (d : D) | pk (i : Nat)
abbrev OF := Rho → Rs OV
def OvOk (G : Gx) (F : Hp) (σ : St) : OV → V → Prop
  | .dt d, v => Rp G F d v
  | .pk i, v => σ[i]? = some (some v)
theorem OvOk.mono (e : Ex F F2) {o : OV} {v : V} (h : OvOk G F σ o v) : OvOk G F2 σ o v := by
  cases o with
  | dt d => exact Rp.mono e d v h
  | pk i => exact h
def okO (G : Gx) (I : Nat → Option V) (F R : Hp) (σ : St) (Q : VK) : OV → Rho → Prop := fun o ρ' => ∀ v F2 H2, Ex F F2 → OvOk G F2 σ o v → Er G I F2 R ρ' σ H2 → Q v H2
def tO (G : Gx) (W : WX) (f : OF) : TE := fun σ H Q => ∃ I F R ρ, Er G I F R ρ σ H ∧ Post (okO G I F R σ Q) (exP G W I F R σ) (f ρ)
def DO (X : Cx) (G : Gx) (W : WX) (e : Expr) (f : OF) : Prop := PE X e (tO G W f)
theorem do_of {e : Expr} {t : TE} {f : OF} (h : PE X e t) (k : ∀ σ H Q, tO G W f σ H Q → t σ H Q) : DO X G W e f :=
  ⟨fun pins s σ H Q I hq => h.run pins s σ H Q I (k σ H Q hq)⟩
def RV.toD : RV → D
  | .fz d => d
  | .ow o => o.toD
def oE (f : EF) : OF := fun ρ => (f ρ).bind fun r ρ' => .ok (.dt r.toD) ρ'
/-- a result, whatever it is, becomes fixed -/
theorem RvOk.frz {R2 : Hp} {r : RV} {v : V} (h : RvOk G F R R2 r v) (E : Er G I F R2 ρ σ H) : ∃ F3, Ex F F3 ∧ Rp G F3 r.toD v ∧ Er G I F3 R ρ σ H := by
  cases r with
  | fz d =>
    obtain ⟨e2, r2⟩ := h
    subst e2
    exact ⟨F, Ex.refl F, r2, E⟩
  | ow o =>
    obtain ⟨cs, q1, q2, q3, q4⟩ := h
    subst q2
    obtain ⟨e3, E3⟩ := E.frz q3 q4
    exact ⟨_, e3, q1.rp q3 e3, E3⟩
theorem tO_e {f : EF} : ∀ σ H Q, tO G W (oE f) σ H Q → tD G W f σ H Q := fun σ H Q ⟨I, F, R, ρ, E, h1⟩ => by
  refine ⟨I, F, R, ρ, E, h1.bind.mono (fun r ρ' h v F2 R2 H2 e q E2 => ?_) fun _ _ h => h⟩
  obtain ⟨F3, e3, q3, E3⟩ := q.frz E2
  exact h v F3 H2 (e.trans e3) q3 E3
theorem do_e {e : Expr} {f : EF} (h : DE X G W e f) : DO X G W e (oE f) := do_of h tO_e
/-- an owned thing read where it stands -/
def oP (i : Nat) : OF := fun ρ => match ρ.own i with
  | some _ => .ok (.pk i) ρ
  | none => .bad
theorem Er.own_val {i : Nat} {s : SV} {o : O} (E : Er G I F R ρ σ H) (h : ρ[i]? = some s) (e : s.own? = some o) : ∃ v, σ[i]? = some (some v) := by
  obtain ⟨fp, q⟩ := E.own
  obtain ⟨v, h1, _⟩ := (q.ok i s h).own e
  exact ⟨v, h1⟩
theorem tO_p {i : Nat} : ∀ σ H Q, tO G W (oP i) σ H Q → tVar i σ H Q := fun σ H Q ⟨I, F, R, ρ, E, h1⟩ => by
  unfold oP at h1
  split at h1
  · rename_i o ho
    obtain ⟨s, hs, ho⟩ := Option.bind_eq_some_iff.mp ho
    obtain ⟨v, h2⟩ := E.own_val hs ho
    exact ⟨v, h2, h1 v F H (Ex.refl F) h2 E⟩
  · exact h1.elim
theorem do_p {i : Nat} {x : Str} {pos : Pos} (hp : PE X (.Name x pos) (tVar i)) : DO X G W (.Name x pos) (oP i) := do_of hp tO_p
/-- what an operand is, by what the slots hold at last -/
def OV.look (ρ : Rho) : OV → Option D
  | .dt d => some d
  | .pk i => match ρ.own i with
    | some (.lst ds) => some (.lst ds)
    | some (.dk ks ds) => some (.dk ks ds)
    | _ => none
/-- data as it may be read: the list itself may be an owned one -/
def Vw (G : Gx) (F H : Hp) : D → V → Prop
  | .lst ds, v => ∃ a xs, v = .ref a ∧ H a = some (.lst xs) ∧ Rps G F ds xs
  | .dk ks ds, v => ∃ a kvs, v = .ref a ∧ H a = some (.dK kvs) ∧ kvs.map (·.1) = ks ∧ Rps G F ds (kvs.map (·.2))
  | d, v => Rp G F d v
theorem Vw.of {d : D} {v : V} (e : Ex F H) (h : Rp G F d v) : Vw G F H d v := by
  cases d with
  | lst ds =>
    simp only [Rp] at h
    obtain ⟨a, xs, h1, h2, h3⟩ := h
    exact ⟨a, xs, h1, e _ _ h2, h3⟩
  | dk ks ds =>
    simp only [Rp] at h
    obtain ⟨a, xs, h1, h2, h3⟩ := h
    exact ⟨a, xs, h1, e _ _ h2, h3⟩
  | _ => exact h
theorem OvOk.vw {o : OV} {v : V} {d : D} (h : OvOk G F σ o v) (E : Er G I F R ρ σ H) (hl : o.look ρ = some d) : Vw G F H d v := by
  cases o with
  | dt d' =>
    have e : d' = d := by simpa only [OV.look, Option.some.injEq] using hl
    subst e
    exact Vw.of E.fH h
  | pk i =>
    simp only [OV.look] at hl
    split at hl
    · rename_i ds ho
      obtain ⟨s, hs, ho⟩ := Option.bind_eq_some_iff.mp ho
      cases hl
      obtain ⟨p, xs, h1, h2, h3, _⟩ := E.lst hs ho
      have h : σ[i]? = some (some v) := h
      rw [h] at h1
      cases h1
      exact ⟨p, xs, rfl, h2, h3⟩
    · rename_i ks ds ho
      obtain ⟨s, hs, ho⟩ := Option.bind_eq_some_iff.mp ho
      cases hl
      obtain ⟨p, xs, h1, h2, h3, h4, _⟩ := E.dic hs ho
      have h : σ[i]? = some (some v) := h
      rw [h] at h1
      cases h1
      exact ⟨p, xs, rfl, h2, h3, h4⟩
    · cases hl

/-! ### what a primitive gives -/
inductive PR where
  | sc (d : D) | nl (ds : List D) | nt (ds : List D)
def PrPost (G : Gx) (F H : Hp) (Q : VK) : PR → Prop
  | .sc d => ∀ v, Rp G F d v → Q v H
  | .nl ds => ∀ p xs, Rps G F ds xs → H p = none → Q (.ref p) (upd H p (.lst xs))
  | .nt ds => ∀ p xs o, o.dict = none → Rps G F ds xs → H p = none → Q (.ref p) (upd H p (.frz o (.tup xs)))
def finish (ρ : Rho) : Option PR → Rs RV
  | some (.sc d) => .ok (.fz d) ρ
  | some (.nl ds) => .ok (.ow (.lst ds)) ρ
  | some (.nt ds) => .ok (.fz (.tup ds)) ρ
  | none => .bad
theorem rvok_new {p : Addr} {xs : List V} {ds : List D} (hR : R p = none) (r : Rps G F ds xs) : RvOk G F R (upd R p (.lst xs)) (.ow (.lst ds)) (.ref p) :=
  ⟨[(p, .lst xs)], ⟨p, xs, rfl, rfl, r⟩, rfl, by simp, fun c hc => by
    have : c = (p, .lst xs) := by simpa using hc
    subst this
    exact hR⟩
theorem finish_ok {Q : VK} {p : Option PR} (E : Er G I F R ρ σ H) (h : Post (okE G I F R σ Q) (exP G W I F R σ) (finish ρ p)) : ∃ r, p = some r ∧ PrPost G F H Q r := by
  cases p with
  | none => exact h.elim
  | some r =>
    refine ⟨r, rfl, ?_⟩
    cases r with
    | sc d => exact fun v r => h v F R H (Ex.refl F) ⟨rfl, r⟩ E
    | nl ds => exact fun p xs r hp => h (.ref p) F (upd R p (.lst xs)) _ (Ex.refl F) (rvok_new (E.newR (o := .lst xs) hp).2.1 r) (E.newR hp).2.2
    | nt ds =>
      intro p xs o hd r hp
      obtain ⟨e2, E2⟩ := E.newF (o := .frz o (.tup xs)) hp
      refine h (.ref p) _ R _ e2 ⟨rfl, ?_⟩ E2
      simp only [Rp]
      exact ⟨p, xs, rfl, .inl ⟨o, upd_same, hd⟩, Rps.mono e2 _ _ r⟩
/-- two-place -/
def PrOk2 (G : Gx) (r : R2) (sem : D → D → Option PR) : Prop :=
  ∀ F H x y d1 d2 p Q, Ex F H → Vw G F H d1 x → Vw G F H d2 y → sem d1 d2 = some p → PrPost G F H Q p → r x y H Q
def PrOk1 (G : Gx) (r : V → Hp → VK → Prop) (sem : D → Option PR) : Prop :=
  ∀ F H x d1 p Q, Ex F H → Vw G F H d1 x → sem d1 = some p → PrPost G F H Q p → r x H Q
def eBin (sem : D → D → Option PR) (g1 g2 : OF) : EF := fun ρ => (g1 ρ).bind fun o1 ρ1 => (g2 ρ1).bind fun o2 ρ2 => finish ρ2 ((o1.look ρ2).bind fun d1 => (o2.look ρ2).bind fun d2 => sem d1 d2)
theorem tD_bin {r : R2} {sem : D → D → Option PR} (hp : PrOk2 G r sem) {g1 g2 : OF} : ∀ σ H Q, tD G W (eBin sem g1 g2) σ H Q → tOp r (tO G W g1) (tO G W g2) σ H Q := fun σ H Q ⟨I, F, R, ρ, E, h1⟩ => by
  refine ⟨I, F, R, ρ, E, h1.bind.mono (fun o1 ρ1 h1 v1 F1 H1 e1 q1 E1 => ?_) fun _ _ h => h⟩
  refine ⟨I, F1, R, ρ1, E1, h1.bind.mono (fun o2 ρ2 h1 v2 F2 H2 e2 q2 E2 => ?_) fun _ _ h => h.mono e1⟩
  obtain ⟨p, hp1, hp2⟩ := finish_ok E2 (postE.mono (e1.trans e2) h1)
  obtain ⟨d1, hd1, hp1⟩ := Option.bind_eq_some_iff.mp hp1
  obtain ⟨d2, hd2, hp1⟩ := Option.bind_eq_some_iff.mp hp1
  exact hp F2 H2 v1 v2 d1 d2 p Q E2.fH ((q1.mono e2).vw E2 hd1) (q2.vw E2 hd2) hp1 hp2
def eUn (sem : D → Option PR) (g1 : OF) : EF := fun ρ => (g1 ρ).bind fun o1 ρ1 => finish ρ1 ((o1.look ρ1).bind sem)
theorem tD_un {r : V → Hp → VK → Prop} {sem : D → Option PR} (hp : PrOk1 G r sem) {g1 : OF} : ∀ σ H Q, tD G W (eUn sem g1) σ H Q → tUn r (tO G W g1) σ H Q := fun σ H Q ⟨I, F, R, ρ, E, h1⟩ => by
  refine ⟨I, F, R, ρ, E, h1.bind.mono (fun o1 ρ1 h1 v1 F1 H1 e1 q1 E1 => ?_) fun _ _ h => h⟩
  obtain ⟨p, hp1, hp2⟩ := finish_ok E1 (postE.mono e1 h1)
  obtain ⟨d1, hd1, hp1⟩ := Option.bind_eq_some_iff.mp hp1
  exact hp F1 H1 v1 d1 p Q E1.fH (q1.vw E1 hd1) hp1 hp2
/-! ### argument lists -/
abbrev AF := Rho → Rs (List OV)
inductive OvsOk (G : Gx) (F : Hp) (σ : St) : List OV → List V → Prop
  | nil : OvsOk G F σ [] []
  | cons {o : OV} {v : V} {os : List OV} {vs : List V} : OvOk G F σ o v → OvsOk G F σ os vs → OvsOk G F σ (o :: os) (v :: vs)
theorem OvsOk.mono (e : Ex F F2) {os : List OV} {vs : List V} (h : OvsOk G F σ os vs) : OvsOk G F2 σ os vs := by
  induction h with
  | nil => exact .nil
  | cons a _ ih => exact .cons (a.mono e) ih
def okA (G : Gx) (I : Nat → Option V) (F R : Hp) (σ : St) (Q : List V → Hp → Prop) : List OV → Rho → Prop := fun os ρ' => ∀ vs F2 H2, Ex F F2 → OvsOk G F2 σ os vs → Er G I F2 R ρ' σ H2 → Q vs H2
def tAs (G : Gx) (W : WX) (f : AF) : TA := fun σ H Q => ∃ I F R ρ, Er G I F R ρ σ H ∧ Post (okA G I F R σ Q) (exP G W I F R σ) (f ρ)
def DA (X : Cx) (G : Gx) (W : WX) (es : List Expr) (f : AF) : Prop := PA X es (tAs G W f)
def aNil : AF := fun ρ => .ok [] ρ
def aCons (g : OF) (a : AF) : AF := fun ρ => (g ρ).bind fun o ρ1 => (a ρ1).bind fun os ρ2 => .ok (o :: os) ρ2
theorem da_of {es : List Expr} {t : TA} {f : AF} (h : PA X es t) (k : ∀ σ H Q, tAs G W f σ H Q → t σ H Q) : DA X G W es f :=
  ⟨fun pos pins s σ H Q I hq => h.run pos pins s σ H Q I (k σ H Q hq)⟩
theorem da_nil : DA X G W [] aNil := da_of pa_nil fun σ H Q ⟨I, F, R, ρ, E, h1⟩ => h1 [] F H (Ex.refl F) .nil E
theorem tAs_cons {g : OF} {a : AF} : ∀ σ H Q, tAs G W (aCons g a) σ H Q → tCons (tO G W g) (tAs G W a) σ H Q := fun σ H Q ⟨I, F, R, ρ, E, h1⟩ => by
  refine ⟨I, F, R, ρ, E, h1.bind.mono (fun o1 ρ1 h1 v1 F1 H1 e1 q1 E1 => ?_) fun _ _ h => h⟩
  refine ⟨I, F1, R, ρ1, E1, h1.bind.mono (fun os ρ2 h1 vs F2 H2 e2 q2 E2 => ?_) fun _ _ h => h.mono e1⟩
  exact h1 (v1 :: vs) F2 H2 (e1.trans e2) (.cons (q1.mono e2) q2) E2
theorem da_cons {e : Expr} {es : List Expr} {g : OF} {a : AF} (h1 : DO X G W e g) (h2 : DA X G W es a) (hs : starEach (e :: es) X.env = (false, eval e X.env) :: starEach es X.env := by rfl) : DA X G W (e :: es) (aCons g a) :=
  da_of (pa_cons h1 h2 hs) tAs_cons
def looks (ρ : Rho) : List OV → Option (List D)
  | [] => some []
  | o :: os => (o.look ρ).bind fun d => (looks ρ os).bind fun ds => some (d :: ds)
inductive Vws (G : Gx) (F H : Hp) : List D → List V → Prop
  | nil : Vws G F H [] []
  | cons {d : D} {v : V} {ds : List D} {vs : List V} : Vw G F H d v → Vws G F H ds vs → Vws G F H (d :: ds) (v :: vs)
theorem OvsOk.vws {os : List OV} {vs : List V} (h : OvsOk G F σ os vs) (E : Er G I F R ρ σ H) : ∀ {ds : List D}, looks ρ os = some ds → Vws G F H ds vs := by
  induction h with
  | nil => intro ds hl; cases hl; exact .nil
  | cons a _ ih =>
    intro ds hl
    obtain ⟨d, hd, hl⟩ := Option.bind_eq_some_iff.mp hl
    obtain ⟨ds', hds, hl⟩ := Option.bind_eq_some_iff.mp hl
    cases hl
    exact .cons (a.vw E hd) (ih hds)
def PrOkN (G : Gx) (r : List V → Hp → VK → Prop) (sem : List D → Option PR) : Prop :=
  ∀ F H xs ds p Q, Ex F H → Vws G F H ds xs → sem ds = some p → PrPost G F H Q p → r xs H Q
def eCB (sem : List D → Option PR) (a : AF) : EF := fun ρ => (a ρ).bind fun os ρ1 => finish ρ1 ((looks ρ1 os).bind sem)
theorem tD_cb {r : List V → Hp → VK → Prop} {sem : List D → Option PR} (hp : PrOkN G r sem) {a : AF} : ∀ σ H Q, tD G W (eCB sem a) σ H Q → tCB r (tAs G W a) σ H Q := fun σ H Q ⟨I, F, R, ρ, E, h1⟩ => by
  refine ⟨I, F, R, ρ, E, h1.bind.mono (fun os ρ1 h1 vs F1 H1 e1 q1 E1 => ?_) fun _ _ h => h⟩
  obtain ⟨p, hp1, hp2⟩ := finish_ok E1 (postE.mono e1 h1)
  obtain ⟨ds, hds, hp1⟩ := Option.bind_eq_some_iff.mp hp1
  exact hp F1 H1 vs ds p Q E1.fH (q1.vws E1 hds) hp1 hp2
/-- a peeked thing may not be put into another one -/
def OV.fixed : OV → Bool
  | .dt _ => true
  | .pk _ => false
theorem rps_of_fixed {os : List OV} {vs : List V} (h : OvsOk G F σ os vs) : ∀ {ds : List D}, os.all OV.fixed = true → looks ρ os = some ds → Rps G F ds vs := by
  induction h with
  | nil => intro ds _ hl; cases hl; exact Rps.nil
  | @cons o v os vs a _ ih =>
    intro ds hf hl
    simp only [List.all_cons, Bool.and_eq_true] at hf
    obtain ⟨d, hd, hl⟩ := Option.bind_eq_some_iff.mp hl
    obtain ⟨ds', hds, hl⟩ := Option.bind_eq_some_iff.mp hl
    cases hl
    refine Rps.cons ?_ (ih hf.2 hds)
    cases o with
    | dt d' => cases hd; exact a
    | pk i => exact absurd hf.1 (by simp [OV.fixed])
theorem OvsOk.length {os : List OV} {vs : List V} (h : OvsOk G F σ os vs) : vs.length = os.length := by
  induction h with
  | nil => rfl
  | cons _ _ ih => simp [ih]
/-- a display -/
def eDis (mk : List D → PR) (a : AF) : EF := fun ρ => (a ρ).bind fun os ρ1 => if os.all OV.fixed && decide (os.length ≤ 1000) then finish ρ1 ((looks ρ1 os).map mk) else .bad
theorem dis_ok {Q : VK} {mk : List D → PR} {a : AF} {σ : St} {H : Hp} {Q' : List V → Hp → Prop} (h : tD G W (eDis mk a) σ H Q) (k : ∀ F H1 xs ds, xs.length ≤ sizeLine → Rps G F ds xs → PrPost G F H1 Q (mk ds) → Q' xs H1) : tAs G W a σ H Q' := by
  obtain ⟨I, F, R, ρ, E, h1⟩ := h
  refine ⟨I, F, R, ρ, E, h1.bind.mono (fun os ρ1 h1 vs F1 H1 e1 q1 E1 => ?_) fun _ _ h => h⟩
  split at h1
  · rename_i hf
    simp only [Bool.and_eq_true, decide_eq_true_eq] at hf
    obtain ⟨p, hp1, hp2⟩ := finish_ok E1 (postE.mono e1 h1)
    obtain ⟨ds, hds, hp1⟩ := Option.map_eq_some_iff.mp hp1
    subst hp1
    exact k F1 H1 vs ds (by rw [q1.length, sizeLine_eq]; omega) (rps_of_fixed q1 hf.1 hds) hp2
  · exact h1.elim
theorem tD_tup {a : AF} : ∀ σ H Q, tD G W (eDis .nt a) σ H Q → tTupF (tAs G W a) σ H Q := fun σ H Q h => dis_ok h fun F H1 xs ds h1 h2 h3 => ⟨h1, fun p o hd hp => h3 p xs o hd h2 hp⟩
theorem tD_lst {a : AF} : ∀ σ H Q, tD G W (eDis .nl a) σ H Q → tLst (tAs G W a) σ H Q := fun σ H Q h => dis_ok h fun F H1 xs ds h1 h2 h3 => ⟨h1, fun p hp => h3 p xs h2 hp⟩
theorem de_tup {es : List Expr} {x1} {pos : Pos} {a : AF} (h : DA X G W es a) : DE X G W (.Tuple es x1 pos) (eDis .nt a) := de_of (pe_tupF h) tD_tup
theorem de_lst {es : List Expr} {pos : Pos} {a : AF} (h : DA X G W es a) : DE X G W (.List es pos) (eDis .nl a) := de_of (pe_lst h) tD_lst
theorem de_bin {a b : Expr} {op : Operator} {pos : Pos} {r : R2} {sem : D → D → Option PR} {g1 g2 : OF} (ho : OpR X (binaryOp op) r) (hp : PrOk2 G r sem) (ha : DO X G W a g1) (hb : DO X G W b g2) : DE X G W (.BinOp a op b pos) (eBin sem g1 g2) :=
  de_of (pe_op ho ha hb) (tD_bin hp)
theorem de_cmp {a b : Expr} {op : CmpOp} {pos : Pos} {r : R2} {sem : D → D → Option PR} {g1 g2 : OF} (ho : OpR X (compareOp op) r) (hp : PrOk2 G r sem) (ha : DO X G W a g1) (hb : DO X G W b g2) (hm : behindInMarks op b = false) : DE X G W (.Compare a [op] [b] pos) (eBin sem g1 g2) :=
  de_of (pe_cmpR ho ha hb hm) (tD_bin hp)
theorem de_ix {a b : Expr} {pos : Pos} {r : R2} {sem : D → D → Option PR} {g1 g2 : OF} (ho : IxR X r) (hp : PrOk2 G r sem) (ha : DO X G W a g1) (hb : DO X G W b g2) (hs : PlainIx b) : DE X G W (.Subscript a b pos) (eBin sem g1 g2) :=
  de_of (pe_ix ho ha hb hs) (tD_bin hp)
theorem de_unop {a : Expr} {op : UnaryOp} {pos : Pos} {r : V → Hp → VK → Prop} {sem : D → Option PR} {g1 : OF} (ho : UnR X (unaryOp op) r) (hp : PrOk1 G r sem) (ha : DO X G W a g1) : DE X G W (.UnaryOp op a pos) (eUn sem g1) :=
  de_of (pe_un ho ha) (tD_un hp)
theorem de_callB {id : String} {r : List V → Hp → VK → Prop} {sem : List D → Option PR} {x : Str} {p pos : Pos} {e : Expr} {es : List Expr} {a : AF} (hc : CallR X (.builtin id) r) (hp : PrOkN G r sem) (hg : Gl X x) (hm : X.mg x = none) (hv : bootBuiltins x = some (.builtin id)) (ha : DA X G W (e :: es) a)
    (hn : x ≠ "__name__" := by decide) (hdb : (x == ("__debug__" : Str)) = false := by decide) (he : starEach (e :: es) X.env = (false, eval e X.env) :: starEach es X.env := by rfl) (hpl : (backTo pos (starEach es X.env)).any (·.1) = false := by rfl) :
    DE X G W (.Call (.Name x p) (e :: es) [] pos) (eCB sem a) := de_of (pe_callB hc hg hm hv ha hn hdb he hpl) (tD_cb hp)
theorem de_callTy {T : String} {r : List V → Hp → VK → Prop} {sem : List D → Option PR} {x : Str} {p pos : Pos} {e : Expr} {es : List Expr} {a : AF} (hc : CallR X (.type T) r) (hp : PrOkN G r sem) (hg : Gl X x) (hm : X.mg x = none) (hv : bootBuiltins x = some (.type T)) (ha : DA X G W (e :: es) a)
    (hn : x ≠ "__name__" := by decide) (hdb : (x == ("__debug__" : Str)) = false := by decide) (he : starEach (e :: es) X.env = (false, eval e X.env) :: starEach es X.env := by rfl) (hpl : (backTo pos (starEach es X.env)).any (·.1) = false := by rfl) :
    DE X G W (.Call (.Name x p) (e :: es) [] pos) (eCB sem a) := de_of (pe_callTy hc hg hm hv ha hn hdb he hpl) (tD_cb hp)
end
end VI

end
section
set_option Elab.async false
set_option linter.all false
set_option maxRecDepth 100000
namespace VI
open PySem L2

section
variable {G : Gx} {W : WX} {I : Nat → Option V} {F F2 R H : Hp} {ρ : Rho} {σ : St} {X : Cx}
/-! ### tests -/
abbrev TF := Rho → Rs Bool
def okT (G : Gx) (I : Nat → Option V) (F R : Hp) (σ : St) (Q : Bool → Hp → Prop) : Bool → Rho → Prop := fun b ρ' => ∀ F2 H2, Ex F F2 → Er G I F2 R ρ' σ H2 → Q b H2
def tT (G : Gx) (W : WX) (f : TF) : TT := fun σ H Q => ∃ I F R ρ, Er G I F R ρ σ H ∧ Post (okT G I F R σ Q) (exP G W I F R σ) (f ρ)
def DT (X : Cx) (G : Gx) (W : WX) (e : Expr) (f : TF) : Prop := PT X e (tT G W f)
def DW (X : Cx) (G : Gx) (W : WX) (e : Expr) (f : TF) : Prop := PW X e (tT G W f)
theorem dt_of {e : Expr} {t : TT} {f : TF} (h : PT X e t) (k : ∀ σ H Q, tT G W f σ H Q → t σ H Q) : DT X G W e f := ⟨fun pins s σ H Q I hq => h.run pins s σ H Q I (k σ H Q hq)⟩
theorem dw_of {e : Expr} {t : TT} {f : TF} (h : PW X e t) (k : ∀ σ H Q, tT G W f σ H Q → t σ H Q) : DW X G W e f := ⟨fun wh pins s σ H Q I hq => h.run wh pins s σ H Q I (k σ H Q hq)⟩
def RV.bl? : RV → Option Bool
  | .fz (.bl b) => some b
  | _ => none
def fB (f : EF) : TF := fun ρ => (f ρ).bind fun r ρ1 => match r.bl? with
  | some b => .ok b ρ1
  | none => .bad
theorem tT_B {f : EF} {Q : Bool → Hp → Prop} (h : tT G W (fB f) σ H Q) : tD G W f σ H (fun x H' => ∃ k, x = .bl k ∧ Q k H') := by
  obtain ⟨I, F, R, ρ, E, h1⟩ := h
  refine ⟨I, F, R, ρ, E, h1.bind.mono (fun r ρ' h v F2 R2 H2 e q E2 => ?_) fun _ _ h => h⟩
  cases r with
  | ow o => exact h.elim
  | fz d =>
    cases d with
    | bl b =>
      obtain ⟨e2, r2⟩ := q
      subst e2
      exact ⟨b, by simpa only [Rp] using r2, h F2 H2 e E2⟩
    | _ => exact h.elim
theorem dt_val {e : Expr} {f : EF} (h : DE X G W e f) (he : ∀ whole, isTrue e X.env whole = (do let v ← whole; standAt e.pos; holding [v] (truthy v)) := by intro _; rfl) : DT X G W e (fB f) := dt_of (pt_val h he) fun _ _ _ h => tT_B h
theorem dt_cmp {a b : Expr} {op : CmpOp} {pos : Pos} {r : R2} {sem : D → D → Option PR} {g1 g2 : OF} (ho : OpR X (compareOp op) r) (hp : PrOk2 G r sem) (ha : DO X G W a g1) (hb : DO X G W b g2) (hm : behindInMarks op b = false) : DT X G W (.Compare a [op] [b] pos) (fB (eBin sem g1 g2)) :=
  dt_of (pt_cmpR ho ha hb hm) fun σ H Q h => tD_bin hp σ H _ (tT_B h)
def fAnd (f g : TF) : TF := fun ρ => (f ρ).bind fun b ρ1 => if b = true then g ρ1 else .ok false ρ1
def fOr (f g : TF) : TF := fun ρ => (f ρ).bind fun b ρ1 => if b = true then .ok true ρ1 else g ρ1
def fNot (f : TF) : TF := fun ρ => (f ρ).bind fun b ρ1 => .ok (!b) ρ1
theorem tT_and {f g : TF} : ∀ σ H Q, tT G W (fAnd f g) σ H Q → tAnd (tT G W f) (tT G W g) σ H Q := fun σ H Q ⟨I, F, R, ρ, E, h1⟩ => by
  refine ⟨I, F, R, ρ, E, h1.bind.mono (fun b ρ1 h F1 H1 e1 E1 => ?_) fun _ _ h => h⟩
  cases b with
  | true =>
    refine iteT ⟨I, F1, R, ρ1, E1, ?_⟩
    exact h.mono (fun _ _ h F2 H2 e2 E2 => h F2 H2 (e1.trans e2) E2) fun _ _ h => h.mono e1
  | false => exact iteF (h F1 H1 e1 E1)
theorem tT_or {f g : TF} : ∀ σ H Q, tT G W (fOr f g) σ H Q → tOr (tT G W f) (tT G W g) σ H Q := fun σ H Q ⟨I, F, R, ρ, E, h1⟩ => by
  refine ⟨I, F, R, ρ, E, h1.bind.mono (fun b ρ1 h F1 H1 e1 E1 => ?_) fun _ _ h => h⟩
  cases b with
  | false =>
    refine iteF ⟨I, F1, R, ρ1, E1, ?_⟩
    exact h.mono (fun _ _ h F2 H2 e2 E2 => h F2 H2 (e1.trans e2) E2) fun _ _ h => h.mono e1
  | true => exact iteT (h F1 H1 e1 E1)
theorem tT_not {f : TF} : ∀ σ H Q, tT G W (fNot f) σ H Q → tNot (tT G W f) σ H Q := fun σ H Q ⟨I, F, R, ρ, E, h1⟩ =>
  ⟨I, F, R, ρ, E, h1.bind.mono (fun b ρ1 h F1 H1 e1 E1 => h F1 H1 e1 E1) fun _ _ h => h⟩
variable {a b c : Expr} {rest : List Expr} {pos : Pos} {f g : TF}
theorem dw_and1 (h : DT X G W a f) : DW X G W (.BoolOp .And [a] pos) f := pw_and1 h
theorem dw_or1 (h : DT X G W a f) : DW X G W (.BoolOp .Or [a] pos) f := pw_or1 h
theorem dw_and (h : DT X G W a f) (k : DW X G W (.BoolOp .And (b :: rest) pos) g) : DW X G W (.BoolOp .And (a :: b :: rest) pos) (fAnd f g) := dw_of (pw_and h k) tT_and
theorem dw_or (h : DT X G W a f) (k : DW X G W (.BoolOp .Or (b :: rest) pos) g) : DW X G W (.BoolOp .Or (a :: b :: rest) pos) (fOr f g) := dw_of (pw_or h k) tT_or
theorem dt_w {e : Expr} (h : DW X G W e f) : DT X G W e f := h.pt
theorem dt_not (h : DT X G W a f) : DT X G W (.UnaryOp .Not a pos) (fNot f) := dt_of (pt_not h) tT_not
def eIf (f : TF) (g k : EF) : EF := fun ρ => (f ρ).bind fun b ρ1 => if b = true then g ρ1 else k ρ1
theorem tD_if {f : TF} {g k : EF} : ∀ σ H Q, tD G W (eIf f g k) σ H Q → tIf (tT G W f) (tD G W g) (tD G W k) σ H Q := fun σ H Q ⟨I, F, R, ρ, E, h1⟩ => by
  refine ⟨I, F, R, ρ, E, h1.bind.mono (fun b ρ1 h F1 H1 e1 E1 => ?_) fun _ _ h => h⟩
  cases b with
  | false => exact iteF ⟨I, F1, R, ρ1, E1, postE.mono e1 h⟩
  | true => exact iteT ⟨I, F1, R, ρ1, E1, postE.mono e1 h⟩
theorem de_if {g k : EF} (hc : DT X G W c f) (ha : DE X G W a g) (hb : DE X G W b k) : DE X G W (.IfExp c a b pos) (eIf f g k) := de_of (pe_ifExp hc ha hb) tD_if
/-- and, or, not as values: all but the last are True or False -/
def eAnd (f g : EF) : EF := fun ρ => (f ρ).bind fun r ρ1 => match r.bl? with
  | some true => g ρ1
  | some false => .ok (.fz (.bl false)) ρ1
  | none => .bad
def eOr (f g : EF) : EF := fun ρ => (f ρ).bind fun r ρ1 => match r.bl? with
  | some true => .ok (.fz (.bl true)) ρ1
  | some false => g ρ1
  | none => .bad
def eNot (f : EF) : EF := fun ρ => (f ρ).bind fun r ρ1 => match r.bl? with
  | some b => .ok (.fz (.bl (!b))) ρ1
  | none => .bad
theorem bl_of {r : RV} {b : Bool} (h : r.bl? = some b) : r = .fz (.bl b) := by
  unfold RV.bl? at h
  split at h
  · cases h; rfl
  · cases h
theorem rvbl {R2 : Hp} {b : Bool} {v : V} (h : RvOk G F R R2 (.fz (.bl b)) v) : R2 = R ∧ v = .bl b := ⟨h.1, by simpa only [Rp] using h.2⟩
theorem tD_and {f g : EF} : ∀ σ H Q, tD G W (eAnd f g) σ H Q → tAndV (tD G W f) (tD G W g) σ H Q := fun σ H Q ⟨I, F, R, ρ, E, h1⟩ => by
  refine ⟨I, F, R, ρ, E, h1.bind.mono (fun r ρ1 h v F1 R1 H1 e1 q E1 => ?_) fun _ _ h => h⟩
  split at h
  · rename_i hb
    rw [bl_of hb] at q
    obtain ⟨rfl, rfl⟩ := rvbl q
    exact ⟨true, rfl, iteT ⟨I, F1, _, ρ1, E1, postE.mono e1 h⟩⟩
  · rename_i hb
    rw [bl_of hb] at q
    obtain ⟨rfl, rfl⟩ := rvbl q
    exact ⟨false, rfl, iteF (h _ F1 _ H1 e1 q E1)⟩
  · exact h.elim
theorem tD_or {f g : EF} : ∀ σ H Q, tD G W (eOr f g) σ H Q → tOrV (tD G W f) (tD G W g) σ H Q := fun σ H Q ⟨I, F, R, ρ, E, h1⟩ => by
  refine ⟨I, F, R, ρ, E, h1.bind.mono (fun r ρ1 h v F1 R1 H1 e1 q E1 => ?_) fun _ _ h => h⟩
  split at h
  · rename_i hb
    rw [bl_of hb] at q
    obtain ⟨rfl, rfl⟩ := rvbl q
    exact ⟨true, rfl, iteT (h _ F1 _ H1 e1 q E1)⟩
  · rename_i hb
    rw [bl_of hb] at q
    obtain ⟨rfl, rfl⟩ := rvbl q
    exact ⟨false, rfl, iteF ⟨I, F1, _, ρ1, E1, postE.mono e1 h⟩⟩
  · exact h.elim
theorem tD_not {f : EF} : ∀ σ H Q, tD G W (eNot f) σ H Q → tNotV (tD G W f) σ H Q := fun σ H Q ⟨I, F, R, ρ, E, h1⟩ => by
  refine ⟨I, F, R, ρ, E, h1.bind.mono (fun r ρ1 h v F1 R1 H1 e1 q E1 => ?_) fun _ _ h => h⟩
  split at h
  · rename_i b hb
    rw [bl_of hb] at q
    obtain ⟨rfl, rfl⟩ := rvbl q
    exact ⟨b, rfl, h _ F1 _ H1 e1 ⟨rfl, by simp only [Rp]⟩ E1⟩
  · exact h.elim
theorem de_one {op} {f : EF} (h : DE X G W a f) : DE X G W (.BoolOp op [a] pos) f := pe_one h
theorem de_and {f g : EF} (h : DE X G W a f) (k : DE X G W (.BoolOp .And (b :: rest) pos) g) : DE X G W (.BoolOp .And (a :: b :: rest) pos) (eAnd f g) := de_of (pe_and h k) tD_and
theorem de_or {f g : EF} (h : DE X G W a f) (k : DE X G W (.BoolOp .Or (b :: rest) pos) g) : DE X G W (.BoolOp .Or (a :: b :: rest) pos) (eOr f g) := de_of (pe_or h k) tD_or
theorem de_not {f : EF} (h : DE X G W a f) : DE X G W (.UnaryOp .Not a pos) (eNot f) := de_of (pe_not h) tD_not
/-- a < b < c -/
def eChain (sem sem' : D → D → Option PR) (g1 g2 g3 : OF) : EF := fun ρ => (g1 ρ).bind fun o1 ρ1 => (g2 ρ1).bind fun o2 ρ2 => match (o1.look ρ2).bind fun d1 => (o2.look ρ2).bind fun d2 => sem d1 d2 with
  | some (.sc (.bl true)) => (g3 ρ2).bind fun o3 ρ3 => finish ρ3 ((o2.look ρ3).bind fun d2 => (o3.look ρ3).bind fun d3 => sem' d2 d3)
  | some (.sc (.bl false)) => .ok (.fz (.bl false)) ρ2
  | _ => .bad
theorem tD_chain {r r' : R2} {sem sem' : D → D → Option PR} (hp : PrOk2 G r sem) (hp' : PrOk2 G r' sem') {g1 g2 g3 : OF} : ∀ σ H Q, tD G W (eChain sem sem' g1 g2 g3) σ H Q → tChain r r' (tO G W g1) (tO G W g2) (tO G W g3) σ H Q := fun σ H Q ⟨I, F, R, ρ, E, h1⟩ => by
  refine ⟨I, F, R, ρ, E, h1.bind.mono (fun o1 ρ1 h1 v1 F1 H1 e1 q1 E1 => ?_) fun _ _ h => h⟩
  refine ⟨I, F1, R, ρ1, E1, h1.bind.mono (fun o2 ρ2 h1 v2 F2 H2 e2 q2 E2 => ?_) fun _ _ h => h.mono e1⟩
  cases hs : (o1.look ρ2).bind fun d1 => (o2.look ρ2).bind fun d2 => sem d1 d2 with
  | none => rw [hs] at h1; exact h1.elim
  | some p =>
    rw [hs] at h1
    obtain ⟨d1, hd1, hp1⟩ := Option.bind_eq_some_iff.mp hs
    obtain ⟨d2, hd2, hp1⟩ := Option.bind_eq_some_iff.mp hp1
    have q1' := (q1.mono e2).vw E2 hd1
    have q2' := q2.vw E2 hd2
    cases p with
    | nl _ => exact h1.elim
    | nt _ => exact h1.elim
    | sc d =>
      cases d with
      | bl k =>
        refine hp F2 H2 v1 v2 d1 d2 _ _ E2.fH q1' q2' hp1 fun v hv => ?_
        have hv : v = .bl k := by simpa only [Rp] using hv
        subst hv
        refine ⟨k, rfl, ?_⟩
        cases k with
        | false => exact iteF (h1 _ F2 R H2 (e1.trans e2) ⟨rfl, by simp only [Rp]⟩ E2)
        | true =>
          refine iteT ⟨I, F2, R, ρ2, E2, h1.bind.mono (fun o3 ρ3 h1 v3 F3 H3 e3 q3 E3 => ?_) fun _ _ h => h.mono (e1.trans e2)⟩
          obtain ⟨p, hp1, hp2⟩ := finish_ok E3 (postE.mono ((e1.trans e2).trans e3) h1)
          obtain ⟨d1, hd1, hp1⟩ := Option.bind_eq_some_iff.mp hp1
          obtain ⟨d2, hd2, hp1⟩ := Option.bind_eq_some_iff.mp hp1
          exact hp' F3 H3 v2 v3 d1 d2 p Q E3.fH ((q2.mono e3).vw E3 hd1) (q3.vw E3 hd2) hp1 hp2
      | _ => exact h1.elim
theorem de_chain {op op' : CmpOp} {r r' : R2} {sem sem' : D → D → Option PR} {g1 g2 g3 : OF} (ho : OpR X (compareOp op) r) (hp : PrOk2 G r sem) (ho' : OpR X (compareOp op') r') (hp' : PrOk2 G r' sem') (ha : DO X G W a g1) (hb : DO X G W b g2) (hc : DO X G W c g3)
    (hm : lastMarks [op, op'] [b, c] = false := by with_unfolding_all rfl) : DE X G W (.Compare a [op, op'] [b, c] pos) (eChain sem sem' g1 g2 g3) := de_of (pe_chain ho ho' ha hb hc hm) (tD_chain hp hp')
theorem dt_chain {op op' : CmpOp} {r r' : R2} {sem sem' : D → D → Option PR} {g1 g2 g3 : OF} (ho : OpR X (compareOp op) r) (hp : PrOk2 G r sem) (ho' : OpR X (compareOp op') r') (hp' : PrOk2 G r' sem') (ha : DO X G W a g1) (hb : DO X G W b g2) (hc : DO X G W c g3)
    (hm : lastMarks [op, op'] [b, c] = false := by with_unfolding_all rfl) : DT X G W (.Compare a [op, op'] [b, c] pos) (fB (eChain sem sem' g1 g2 g3)) := dt_of (pt_chain ho ho' ha hb hc hm) fun σ H Q h => tD_chain hp hp' σ H _ (tT_B h)
end

/-! ### statements -/
inductive Ctl where
  | nx | bk | ct | rt (r : RV)
abbrev SF := Rho → Rs Ctl
section
variable {G : Gx} {W : WX} {I : Nat → Option V} {F F2 R H : Hp} {ρ : Rho} {σ : St} {X : Cx}
def okS (G : Gx) (I : Nat → Option V) (F R : Hp) (Dn : Ends) : Ctl → Rho → Prop
  | .nx, ρ' => ∀ σ' F2 H2, Ex F F2 → Er G I F2 R ρ' σ' H2 → Dn.nx σ' H2
  | .bk, ρ' => ∀ σ' F2 H2, Ex F F2 → Er G I F2 R ρ' σ' H2 → Dn.bk σ' H2
  | .ct, ρ' => ∀ σ' F2 H2, Ex F F2 → Er G I F2 R ρ' σ' H2 → Dn.ct σ' H2
  | .rt r, ρ' => ∀ v σ' F2 R2 H2, Ex F F2 → RvOk G F2 R R2 r v → Er G I F2 R2 ρ' σ' H2 → Dn.rt v H2
def exS (G : Gx) (W : WX) (I : Nat → Option V) (F R : Hp) : Xn → Rho → Prop := fun x ρ' => ∀ c d σ' F2 H2, Ex F F2 → XnOk G F2 x c d → Er G I F2 R ρ' σ' H2 → W c d σ' H2
theorem okS.mono {Dn : Ends} (e : Ex F F2) {c : Ctl} {ρ : Rho} (h : okS G I F R Dn c ρ) : okS G I F2 R Dn c ρ := by
  cases c with
  | nx => exact fun σ' F3 H3 e3 E3 => h σ' F3 H3 (e.trans e3) E3
  | bk => exact fun σ' F3 H3 e3 E3 => h σ' F3 H3 (e.trans e3) E3
  | ct => exact fun σ' F3 H3 e3 E3 => h σ' F3 H3 (e.trans e3) E3
  | rt r => exact fun v σ' F3 R3 H3 e3 r3 E3 => h v σ' F3 R3 H3 (e.trans e3) r3 E3
theorem exS.mono (e : Ex F F2) {x : Xn} {ρ : Rho} (h : exS G W I F R x ρ) : exS G W I F2 R x ρ := fun c d σ' F3 H3 e3 r3 E3 => h c d σ' F3 H3 (e.trans e3) r3 E3
theorem exS.p (h : exS G W I F R x ρ) : exP G W I F R σ x ρ := fun c d F3 H3 e3 r3 E3 => h c d σ F3 H3 e3 r3 E3
theorem postS.mono {Dn : Ends} (e : Ex F F2) {o : Rs Ctl} (h : Post (okS G I F R Dn) (exS G W I F R) o) : Post (okS G I F2 R Dn) (exS G W I F2 R) o := h.mono (fun _ _ h => h.mono e) fun _ _ h => h.mono e
def tS (G : Gx) (W : WX) (f : SF) : TS := fun Dn σ H => ∃ I F R ρ, Er G I F R ρ σ H ∧ Post (okS G I F R Dn) (exS G W I F R) (f ρ)
def DS (X : Cx) (G : Gx) (W : WX) (st : Stmt) (f : SF) : Prop := PS X st (tS G W f)
def DSs (X : Cx) (G : Gx) (W : WX) (st : List Stmt) (f : SF) : Prop := PSs X st (tS G W f)
theorem ds_of {st : Stmt} {t : TS} {f : SF} (h : PS X st t) (k : ∀ Dn σ H, tS G W f Dn σ H → t Dn σ H) : DS X G W st f := ⟨fun pins s σ H Dn I hq => h.run pins s σ H Dn I (k Dn σ H hq)⟩
theorem dss_of {st : List Stmt} {t : TS} {f : SF} (h : PSs X st t) (k : ∀ Dn σ H, tS G W f Dn σ H → t Dn σ H) : DSs X G W st f := ⟨fun pins s σ H Dn I hq => h.run pins s σ H Dn I (k Dn σ H hq)⟩
def sNx : SF := fun ρ => .ok .nx ρ
def sSeq (f g : SF) : SF := fun ρ => (f ρ).bind fun c ρ1 => match c with
  | .nx => g ρ1
  | c => .ok c ρ1
theorem dss_nil : DSs X G W [] sNx := dss_of pss_nil fun Dn σ H ⟨I, F, R, ρ, E, h⟩ => h σ F H (Ex.refl F) E
theorem dss_one {st : Stmt} {f : SF} (h : DS X G W st f) : DSs X G W [st] f := pss_one h
theorem tS_seq {f g : SF} : ∀ Dn σ H, tS G W (sSeq f g) Dn σ H → tSeq (tS G W f) (tS G W g) Dn σ H := fun Dn σ H ⟨I, F, R, ρ, E, h⟩ => by
  refine ⟨I, F, R, ρ, E, h.bind.mono (fun c ρ1 h => ?_) fun _ _ h => h⟩
  cases c with
  | nx => exact fun σ' F2 H2 e2 E2 => ⟨I, F2, R, ρ1, E2, postS.mono e2 h⟩
  | bk => exact h
  | ct => exact h
  | rt r => exact h
theorem dss_cons {st : Stmt} {rest : List Stmt} {f g : SF} (h1 : DS X G W st f) (h2 : DSs X G W rest g) : DSs X G W (st :: rest) (sSeq f g) := dss_of (pss_cons h1 h2) tS_seq
def sBk : SF := fun ρ => .ok .bk ρ
def sCt : SF := fun ρ => .ok .ct ρ
variable {pos : Pos} {e : Expr} {ef : EF}
theorem ds_pass : DS X G W (.Pass pos) sNx := ds_of ps_pass fun Dn σ H ⟨I, F, R, ρ, E, h⟩ => h σ F H (Ex.refl F) E
theorem ds_doc {x j pos pos'} : DS X G W (.Expr (.Constant (.str x) j pos) pos') sNx := ds_of ps_doc fun Dn σ H ⟨I, F, R, ρ, E, h⟩ => h σ F H (Ex.refl F) E
theorem ds_break : DS X G W (.Break pos) sBk := ds_of ps_break fun Dn σ H ⟨I, F, R, ρ, E, h⟩ => h σ F H (Ex.refl F) E
theorem ds_continue : DS X G W (.Continue pos) sCt := ds_of ps_continue fun Dn σ H ⟨I, F, R, ρ, E, h⟩ => h σ F H (Ex.refl F) E
theorem RvOk.ex {R2 : Hp} {r : RV} {v : V} (h : RvOk G F R R2 r v) : Ex R R2 := by
  cases r with
  | fz d => rw [h.1]; exact Ex.refl R
  | ow o =>
    obtain ⟨cs, q1, q2, q3, q4⟩ := h
    rw [q2]; exact addc_ex q4
def sDrop (f : EF) : SF := fun ρ => (f ρ).bind fun _ ρ1 => .ok .nx ρ1
theorem tS_drop {f : EF} : ∀ Dn σ H, tS G W (sDrop f) Dn σ H → tDrop (tD G W f) Dn σ H := fun Dn σ H ⟨I, F, R, ρ, E, h⟩ =>
  ⟨I, F, R, ρ, E, h.bind.mono (fun r ρ1 h v F2 R2 H2 e2 q E2 => h σ F2 H2 e2 (E2.dropR q.ex)) fun _ _ h => h.p⟩
theorem ds_expr (h : DE X G W e ef) (hs : swapsWith e none pos.line X.env = pure false := by rfl) : DS X G W (.Expr e pos) (sDrop ef) := ds_of (ps_expr h hs) tS_drop
def sRet (f : EF) : SF := fun ρ => (f ρ).bind fun r ρ1 => .ok (.rt r) ρ1
theorem tS_ret {f : EF} : ∀ Dn σ H, tS G W (sRet f) Dn σ H → tRet (tD G W f) Dn σ H := fun Dn σ H ⟨I, F, R, ρ, E, h⟩ =>
  ⟨I, F, R, ρ, E, h.bind.mono (fun r ρ1 h v F2 R2 H2 e2 q E2 => h v σ F2 R2 H2 e2 q E2) fun _ _ h => h.p⟩
theorem ds_ret (h : DE X G W e ef) : DS X G W (.Return (some e) pos) (sRet ef) := ds_of (ps_ret h) tS_ret
def sRetN : SF := fun ρ => .ok (.rt (.fz .non)) ρ
theorem ds_retN : DS X G W (.Return none pos) sRetN := ds_of ps_retN fun Dn σ H ⟨I, F, R, ρ, E, h⟩ => h .non σ F R H (Ex.refl F) ⟨rfl, by simp only [Rp]⟩ E
def sIf (c : TF) (f g : SF) : SF := fun ρ => (c ρ).bind fun b ρ1 => if b = true then f ρ1 else g ρ1
theorem tS_if {c : TF} {f g : SF} : ∀ Dn σ H, tS G W (sIf c f g) Dn σ H → tIfS (tT G W c) (tS G W f) (tS G W g) Dn σ H := fun Dn σ H ⟨I, F, R, ρ, E, h⟩ => by
  refine ⟨I, F, R, ρ, E, h.bind.mono (fun b ρ1 h F2 H2 e2 E2 => ?_) fun _ _ h => h.p⟩
  cases b with
  | true => exact iteT ⟨I, F2, R, ρ1, E2, postS.mono e2 h⟩
  | false => exact iteF ⟨I, F2, R, ρ1, E2, postS.mono e2 h⟩
theorem ds_if {c : Expr} {a b : List Stmt} {tc : TF} {f g : SF} (hc : DT X G W c tc) (ha : DSs X G W a f) (hb : DSs X G W b g) : DS X G W (.If c a b pos) (sIf tc f g) := ds_of (ps_if hc ha hb) tS_if
def RV.sv : RV → SV
  | .fz d => .fz d
  | .ow o => .ow o
theorem Er.setRV {R2 : Hp} {r : RV} {v : V} (E : Er G I F R2 ρ σ H) (q : RvOk G F R R2 r v) (i : Nat) : Er G I F R (ρ.set i r.sv) (σ.set i (some v)) H := by
  cases r with
  | fz d =>
    obtain ⟨e2, q⟩ := q
    subst e2
    exact E.set (cs := []) List.nodup_nil (fun _ z => nomatch z) ⟨rfl, v, rfl, q⟩
  | ow o =>
    obtain ⟨cs, q1, q2, q3, q4⟩ := q
    subst q2
    exact E.set q3 q4 ⟨v, rfl, q1⟩
def sSet (i : Nat) (f : EF) : SF := fun ρ => (f ρ).bind fun r ρ1 => .ok .nx (ρ1.set i r.sv)
theorem tS_set {i : Nat} {f : EF} {t : TE} (k : ∀ σ H Q, tD G W f σ H Q → t σ H Q) : ∀ Dn σ H, tS G W (sSet i f) Dn σ H → tAsg t (gName i) Dn σ H := fun Dn σ H ⟨I, F, R, ρ, E, h⟩ =>
  k σ H _ ⟨I, F, R, ρ, E, h.bind.mono (fun r ρ1 h v F2 R2 H2 e2 q E2 => h (σ.set i (some v)) F2 H2 e2 (E2.setRV q i)) fun _ _ h => h.p⟩
theorem ds_set {i : Nat} {x : Str} {pos' : Pos} (hN : X.N.Nodup) (hi : X.N[i]? = some x) (hx : Loc X.env.scope x) (he : DE X G W e ef) (hs : swapsWith e (some (.Name x pos')) pos.line X.env = pure false := by rfl) (hf : X.fn x = true ∨ X.env.scope.names.lookup x = some .local := by first | exact .inl rfl | exact .inr rfl | assumption) :
    DS X G W (.Assign [.Name x pos'] e pos) (sSet i ef) := ds_of (ps_set hN hi hx he hs hf) (tS_set fun _ _ _ h => h)

/-! ### targets -/
/-- what a target does with data; the slots that it sets -/
structure TgOk (G : Gx) (t : TG) (sl : List Nat) (sem : D → Rho → Option Rho) : Prop where
  run : ∀ (I : Nat → Option V) (F R : Hp) (ρ : Rho) (σ : St) (H : Hp) (d : D) (v : V) (ρ' : Rho) (Q : St → Hp → Prop), Er G I F R ρ σ H → Rp G F d v → sem d ρ = some ρ' →
    (∀ σ' H', Er G I F R ρ' σ' H' → σ'.length = σ.length → (∀ k, k ∉ sl → σ'[k]? = σ[k]?) → Q σ' H') → t v σ H Q
def gN (i : Nat) : D → Rho → Option Rho := fun d ρ => some (ρ.set i (.fz d))
theorem tg_name {i : Nat} : TgOk G (gName i) [i] (gN i) := ⟨fun I F R ρ σ H d v ρ' Q E r h k => by
  cases h
  refine k (σ.set i (some v)) H (E.setRV (r := .fz d) ⟨rfl, r⟩ i) (by simp) fun j hj => ?_
  rw [List.getElem?_set_ne]
  simpa [eq_comm] using hj⟩
structure TgsOk (G : Gx) (t : TGs) (sl : List Nat) (sem : List D → Rho → Option Rho) : Prop where
  run : ∀ (I : Nat → Option V) (F R : Hp) (ρ : Rho) (σ : St) (H : Hp) (ds : List D) (vs : List V) (ρ' : Rho) (Q : St → Hp → Prop), Er G I F R ρ σ H → Rps G F ds vs → sem ds ρ = some ρ' →
    (∀ σ' H', Er G I F R ρ' σ' H' → σ'.length = σ.length → (∀ k, k ∉ sl → σ'[k]? = σ[k]?) → Q σ' H') → t vs σ H Q
def gsNil : List D → Rho → Option Rho := fun ds ρ => match ds with
  | [] => some ρ
  | _ => none
def gsCons (f : D → Rho → Option Rho) (g : List D → Rho → Option Rho) : List D → Rho → Option Rho := fun ds ρ => match ds with
  | [] => none
  | d :: ds => (f d ρ).bind (g ds)
theorem tgs_nil : TgsOk G gNil [] gsNil := ⟨fun I F R ρ σ H ds vs ρ' Q E r h k => by
  cases ds with
  | nil =>
    cases h
    exact ⟨r.invn, k σ H E rfl fun _ _ => rfl⟩
  | cons d ds => cases h⟩
theorem tgs_cons {t : TG} {u : TGs} {sl sl' : List Nat} {f : D → Rho → Option Rho} {g : List D → Rho → Option Rho} (h1 : TgOk G t sl f) (h2 : TgsOk G u sl' g) : TgsOk G (gCons t u) (sl ++ sl') (gsCons f g) := ⟨fun I F R ρ σ H ds vs ρ' Q E r h k => by
  cases ds with
  | nil => cases h
  | cons d ds =>
    obtain ⟨ρ1, q1, q2⟩ := Option.bind_eq_some_iff.mp h
    obtain ⟨v, vt, rfl, r1, r2⟩ := r.inv
    refine ⟨v, vt, rfl, h1.run I F R ρ σ H d v ρ1 _ E r1 q1 fun σ1 H1 E1 l1 k1 => ?_⟩
    refine h2.run I F R ρ1 σ1 H1 ds vt ρ' _ E1 r2 q2 fun σ2 H2 E2 l2 k2 => k σ2 H2 E2 (l2.trans l1) fun j hj => ?_
    simp only [List.mem_append, not_or] at hj
    rw [k2 j hj.2, k1 j hj.1]⟩
def gTp (n : Nat) (g : List D → Rho → Option Rho) : D → Rho → Option Rho := fun d ρ => match d with
  | .tup ds => if ds.length = n then g ds ρ else none
  | .wtup ds => if ds.length = n then g ds ρ else none
  | _ => none
theorem tg_tup {n : Nat} {u : TGs} {sl : List Nat} {g : List D → Rho → Option Rho} (h1 : TgsOk G u sl g) : TgOk G (gTup G.K n u) sl (gTp n g) := ⟨fun I F R ρ σ H d v ρ' Q E r h k => by
  unfold gTp at h
  split at h
  · rename_i ds
    split at h
    · rename_i hn
      simp only [Rp] at r
      obtain ⟨a, xs, rfl, h2, h3⟩ := r
      exact ⟨a, xs, rfl, ex_t E.fH h2.sq, by rw [h3.length, hn], h1.run I F R ρ σ H ds xs ρ' Q E h3 h k⟩
    · cases h
  · rename_i ds
    split at h
    · rename_i hn
      simp only [Rp] at r
      obtain ⟨a, xs, rfl, h2, h3⟩ := r
      exact ⟨a, xs, rfl, ex_t E.fH h2, by rw [h3.length, hn], h1.run I F R ρ σ H ds xs ρ' Q E h3 h k⟩
    · cases h
  · cases h⟩
/-- target = e -/
def sAsg (tg : D → Rho → Option Rho) (f : EF) : SF := fun ρ => (f ρ).bind fun r ρ1 => match tg r.toD ρ1 with
  | some ρ2 => .ok .nx ρ2
  | none => .bad
theorem tS_asg {g : TG} {sl : List Nat} {tg : D → Rho → Option Rho} (hg : TgOk G g sl tg) {f : EF} : ∀ Dn σ H, tS G W (sAsg tg f) Dn σ H → tAsg (tD G W f) g Dn σ H := fun Dn σ H ⟨I, F, R, ρ, E, h⟩ => by
  refine ⟨I, F, R, ρ, E, h.bind.mono (fun r ρ1 h v F2 R2 H2 e2 q E2 => ?_) fun _ _ h => h.p⟩
  obtain ⟨F3, e3, q3, E3⟩ := q.frz E2
  split at h
  · rename_i ρ2 hρ
    exact hg.run I F3 R ρ1 σ H2 _ v ρ2 _ E3 q3 hρ fun σ' H' E' _ _ => h σ' F3 H' (e2.trans e3) E'
  · exact h.elim
theorem ds_asg {tg : Expr} {g : TG} {sl : List Nat} {sem : D → Rho → Option Rho} (he : DE X G W e ef) (hg : PG X tg g) (hk : TgOk G g sl sem) (hs : swapsWithSole [tg] e pos.line X.env = pure false := by rfl) (hw : swappedStores [tg] e X.env = pure none := by rfl)
    (h1 : (assignEach [tg] X.env).map (·.2) = [assign tg X.env] := by rfl) : DS X G W (.Assign [tg] e pos) (sAsg sem ef) := ds_of (ps_asg he hg hs hw h1) (tS_asg hk)

/-! ### loops -/
/-- an iterator gives these data; what it makes is new -/
def Wk (G : Gx) (F : Hp) (J : It) (ds : List D) : Prop := ∃ (Gp : Hp → Prop) (Y : Nat → Hp → V → Hp → Prop), Walk J ds.length Gp Y ∧ (∀ H, Ex F H → Gp H) ∧
  ∀ i H x H', i < ds.length → Ex F H → Y i H x H' → ∃ d, ds[i]? = some d ∧ ((H' = H ∧ Rp G F d x) ∨ ∃ T xs es, d = .wtup es ∧ x = .ref T ∧ H T = none ∧ H' = upd H T (.tup xs) ∧ Rps G F es xs)
abbrev IF := Rho → Rs (List D)
def okI (G : Gx) (I : Nat → Option V) (F R : Hp) (σ : St) (Q : It → Hp → Prop) : List D → Rho → Prop := fun ds ρ' => ∀ J F2 H2, Ex F F2 → Er G I F2 R ρ' σ H2 → Wk G F2 J ds → Q J H2
def tI (G : Gx) (W : WX) (f : IF) : TI := fun σ H Q => ∃ I F R ρ, Er G I F R ρ σ H ∧ Post (okI G I F R σ Q) (exP G W I F R σ) (f ρ)
def DI (X : Cx) (G : Gx) (W : WX) (tg e : Expr) (f : IF) : Prop := PI X tg e (tI G W f)
theorem di_of {tg e : Expr} {wi : TI} {f : IF} (h : PI X tg e wi) (k : ∀ σ H Q, tI G W f σ H Q → wi σ H Q) : DI X G W tg e f := ⟨fun pins s σ H Q I hq => h.run pins s σ H Q I (k σ H Q hq)⟩
/-- a turn's value, taken by the heap and by what is fixed -/
theorem Wk.yld {F' : Hp} {J : It} {ds : List D} {i : Nat} {x : V} {H' : Hp} {d : D} (e : Ex F F') (E : Er G I F' R ρ σ H) (hd : ds[i]? = some d)
    (h : ∃ d, ds[i]? = some d ∧ ((H' = H ∧ Rp G F d x) ∨ ∃ T xs es, d = .wtup es ∧ x = .ref T ∧ H T = none ∧ H' = upd H T (.tup xs) ∧ Rps G F es xs)) : ∃ F3, Ex F' F3 ∧ Rp G F3 d x ∧ Er G I F3 R ρ σ H' := by
  obtain ⟨d', hd', h⟩ := h
  rw [hd] at hd'
  cases hd'
  rcases h with ⟨rfl, h⟩ | ⟨T, xs, es, rfl, rfl, h1, rfl, h2⟩
  · exact ⟨F', Ex.refl F', Rp.mono e d x h, E⟩
  · obtain ⟨e2, E2⟩ := E.newF (o := .tup xs) h1
    refine ⟨_, e2, ?_, E2⟩
    simp only [Rp]
    exact ⟨T, xs, rfl, SqT.of upd_same, Rps.mono (e.trans e2) es xs h2⟩
def forL (tg : D → Rho → Option Rho) (body : SF) : List D → Rho → Rs Ctl
  | [], ρ => .ok .nx ρ
  | d :: ds, ρ => match tg d ρ with
    | none => .bad
    | some ρ1 => (body ρ1).bind fun c ρ2 => match c with
      | .nx => forL tg body ds ρ2
      | .ct => forL tg body ds ρ2
      | .bk => .ok .nx ρ2
      | .rt r => .ok (.rt r) ρ2
def sFor (it : IF) (tg : D → Rho → Option Rho) (body : SF) : SF := fun ρ => (it ρ).bind fun ds ρ1 => forL tg body ds ρ1
theorem drop_cons {α : Type} {l : List α} {i : Nat} (h : i < l.length) : ∃ d, l[i]? = some d ∧ l.drop i = d :: l.drop (i + 1) :=
  ⟨l[i], by simp [h], List.drop_eq_getElem_cons h⟩
theorem tS_for {it : IF} {g : TG} {sl : List Nat} {tg : D → Rho → Option Rho} (hg : TgOk G g sl tg) {body : SF} : ∀ Dn σ H, tS G W (sFor it tg body) Dn σ H → tFor (tI G W it) g (tS G W body) Dn σ H := fun Dn σ H ⟨I, F, R, ρ, E, h⟩ => by
  refine ⟨I, F, R, ρ, E, h.bind.mono (fun ds ρ1 h J F2 H2 e2 E2 w => ?_) fun _ _ h => h.p⟩
  obtain ⟨Gp, Y, w1, w2, w3⟩ := w
  refine for_it w1 (fun i σ H => ∃ F' ρ', Ex F2 F' ∧ Er G I F' R ρ' σ H ∧ Post (okS G I F' R Dn) (exS G W I F' R) (forL tg body (ds.drop i) ρ')) ⟨F2, ρ1, Ex.refl F2, E2, postS.mono e2 h⟩ ?_ ?_ ?_
  · rintro i σ H _ ⟨F', ρ', e', E', _⟩
    exact w2 H (e'.trans E'.fH)
  · rintro i x σ3 H3 H4 hi ⟨F', ρ', e', E', h'⟩ y
    obtain ⟨d, hd, hdr⟩ := drop_cons hi
    obtain ⟨F3, e3, r3, E3⟩ := Wk.yld (J := J) e' E' hd (w3 i H3 x H4 hi (e'.trans E'.fH) y)
    rw [hdr] at h'
    unfold forL at h'
    split at h'
    · exact h'.elim
    · rename_i ρ4 hρ
      refine hg.run I F3 R ρ' σ3 H4 d x ρ4 _ E3 r3 hρ fun σ' H5 Eσ _ _ => ?_
      refine ⟨I, F3, R, ρ4, Eσ, h'.bind.mono (fun c ρ5 h5 => ?_) fun _ _ h => h.mono e3⟩
      cases c with
      | nx => exact fun σ6 F6 H6 e6 E6 => ⟨F6, ρ5, (e'.trans e3).trans e6, E6, postS.mono (e3.trans e6) h5⟩
      | ct => exact fun σ6 F6 H6 e6 E6 => ⟨F6, ρ5, (e'.trans e3).trans e6, E6, postS.mono (e3.trans e6) h5⟩
      | bk => exact fun σ6 F6 H6 e6 E6 => h5 σ6 F6 H6 (e3.trans e6) E6
      | rt r => exact fun v σ6 F6 R6 H6 e6 q6 E6 => h5 v σ6 F6 R6 H6 (e3.trans e6) q6 E6
  · rintro σ3 H3 ⟨F', ρ', e', E', h'⟩
    rw [List.drop_length] at h'
    exact h' σ3 F' H3 (Ex.refl F') E'
theorem ds_for {tg iter : Expr} {body : List Stmt} {it : IF} {g : TG} {sl : List Nat} {sem : D → Rho → Option Rho} {bf : SF} (hp : PassesOwn (model X.prog X.w) X.A X.env X.xe) (hc : X.calm = true) (hi : DI X G W tg iter it) (hg : PG X tg g) (hk : TgOk G g sl sem) (hb : DSs X G W body bf)
    (hs : ∀ x, foldedSetIterable iter X.env x = pure x := by intro _; rfl) : DS X G W (.For tg iter body [] pos) (sFor it sem bf) := ds_of (ps_for hp hc hi hg hb hs) (tS_for hk)
def whL (c : TF) (body : SF) : Nat → Rho → Rs Ctl
  | 0, _ => .bad
  | n + 1, ρ => (c ρ).bind fun b ρ1 => if b = true then (body ρ1).bind fun ctl ρ2 => match ctl with
      | .nx => whL c body n ρ2
      | .ct => whL c body n ρ2
      | .bk => .ok .nx ρ2
      | .rt r => .ok (.rt r) ρ2
    else .ok .nx ρ1
def sWh (n : Nat) (c : TF) (body : SF) : SF := whL c body n
theorem tS_wh {n : Nat} {c : TF} {body : SF} : ∀ Dn σ H, tS G W (sWh n c body) Dn σ H → tWhile (tT G W c) (tS G W body) Dn σ H := fun Dn σ H ⟨I, F, R, ρ, E, h⟩ => by
  refine ⟨fun m σ H => ∃ F' ρ', Ex F F' ∧ Er G I F' R ρ' σ H ∧ Post (okS G I F' R Dn) (exS G W I F' R) (whL c body m ρ'), ⟨n, F, ρ, Ex.refl F, E, h⟩, ?_⟩
  rintro m σ1 H1 ⟨F', ρ', e', E', h'⟩
  cases m with
  | zero => exact h'.elim
  | succ m =>
    unfold whL at h'
    refine ⟨I, F', R, ρ', E', h'.bind.mono (fun b ρ2 h2 F2 H2 e2 E2 => ?_) fun _ _ h => h.p⟩
    cases b with
    | false => exact iteF (h2 σ1 F2 H2 e2 E2)
    | true =>
      refine iteT ⟨fun σ H => ∃ F3 ρ3, Ex F F3 ∧ Er G I F3 R ρ3 σ H ∧ Post (okS G I F3 R Dn) (exS G W I F3 R) (whL c body m ρ3), fun σ3 H3 h3 => ⟨m, Nat.lt_succ_self m, h3⟩, ?_⟩
      have h2 : Post (okS G I F' R Dn) (exS G W I F' R) ((body ρ2).bind _) := h2
      refine ⟨I, F2, R, ρ2, E2, h2.bind.mono (fun ctl ρ5 h5 => ?_) fun _ _ h => h.mono e2⟩
      cases ctl with
      | nx => exact fun σ6 F6 H6 e6 E6 => ⟨F6, ρ5, (e'.trans e2).trans e6, E6, postS.mono (e2.trans e6) h5⟩
      | ct => exact fun σ6 F6 H6 e6 E6 => ⟨F6, ρ5, (e'.trans e2).trans e6, E6, postS.mono (e2.trans e6) h5⟩
      | bk => exact fun σ6 F6 H6 e6 E6 => h5 σ6 F6 H6 (e2.trans e6) E6
      | rt r => exact fun v σ6 F6 R6 H6 e6 q6 E6 => h5 v σ6 F6 R6 H6 (e2.trans e6) q6 E6
theorem ds_wh (n : Nat) {c : Expr} {body : List Stmt} {tc : TF} {bf : SF} (hp : PassesOwn (model X.prog X.w) X.A X.env X.xe) (hc : DT X G W c tc) (hb : DSs X G W body bf) : DS X G W (.While c body [] pos) (sWh n tc bf) := ds_of (ps_while hp hc hb) tS_wh
end
end VI

end
section
set_option Elab.async false
set_option linter.all false
set_option maxRecDepth 100000
namespace VI
open PySem L2

/-! ### comprehensions -/
def wipeR (ρ : Rho) : List Nat → Rho
  | [] => ρ
  | v :: vs => (wipeR ρ vs).set v .no
def restR (ρ0 ρ : Rho) : List Nat → Rho
  | [] => ρ
  | v :: vs => (restR ρ0 ρ vs).set v (ρ0.getD v .no)
theorem wipe_get (σ : St) (k : Nat) : ∀ vs : List Nat, (wipe σ vs)[k]? = if k ∈ vs then σ[k]?.map (fun _ => none) else σ[k]?
  | [] => by simp [wipe]
  | v :: vs => by
    unfold wipe
    by_cases h : v = k
    · subst h
      rw [if_pos (List.mem_cons_self ..)]
      by_cases hl : v < σ.length
      · rw [List.getElem?_set_self (by rw [wipe_length]; exact hl), List.getElem?_eq_getElem hl]; rfl
      · rw [List.getElem?_eq_none (by rw [List.length_set, wipe_length]; omega), List.getElem?_eq_none (by omega)]; rfl
    · rw [List.getElem?_set_ne h, wipe_get σ k vs]
      by_cases h2 : k ∈ vs
      · rw [if_pos h2, if_pos (List.mem_cons_of_mem _ h2)]
      · rw [if_neg h2, if_neg (by simp [h2, Ne.symm h])]
theorem wipeR_length (ρ : Rho) : ∀ vs, (wipeR ρ vs).length = ρ.length
  | [] => rfl
  | v :: vs => by unfold wipeR; rw [List.length_set, wipeR_length ρ vs]
theorem wipeR_get (ρ : Rho) (k : Nat) : ∀ vs : List Nat, (wipeR ρ vs)[k]? = if k ∈ vs then ρ[k]?.map (fun _ => .no) else ρ[k]?
  | [] => by simp [wipeR]
  | v :: vs => by
    unfold wipeR
    by_cases h : v = k
    · subst h
      rw [if_pos (List.mem_cons_self ..)]
      by_cases hl : v < ρ.length
      · rw [List.getElem?_set_self (by rw [wipeR_length]; exact hl), List.getElem?_eq_getElem hl]; rfl
      · rw [List.getElem?_eq_none (by rw [List.length_set, wipeR_length]; omega), List.getElem?_eq_none (by omega)]; rfl
    · rw [List.getElem?_set_ne h, wipeR_get ρ k vs]
      by_cases h2 : k ∈ vs
      · rw [if_pos h2, if_pos (List.mem_cons_of_mem _ h2)]
      · rw [if_neg h2, if_neg (by simp [h2, Ne.symm h])]
theorem restR_length (ρ0 ρ : Rho) : ∀ vs, (restR ρ0 ρ vs).length = ρ.length
  | [] => rfl
  | v :: vs => by unfold restR; rw [List.length_set, restR_length ρ0 ρ vs]
theorem restR_get (ρ0 ρ : Rho) (k : Nat) : ∀ vs : List Nat, (restR ρ0 ρ vs)[k]? = if k ∈ vs then ρ[k]?.map (fun _ => ρ0.getD k .no) else ρ[k]?
  | [] => by simp [restR]
  | v :: vs => by
    unfold restR
    by_cases h : v = k
    · subst h
      rw [if_pos (List.mem_cons_self ..)]
      by_cases hl : v < ρ.length
      · rw [List.getElem?_set_self (by rw [restR_length]; exact hl), List.getElem?_eq_getElem hl]; rfl
      · rw [List.getElem?_eq_none (by rw [List.length_set, restR_length]; omega), List.getElem?_eq_none (by omega)]; rfl
    · rw [List.getElem?_set_ne h, restR_get ρ0 ρ k vs]
      by_cases h2 : k ∈ vs
      · rw [if_pos h2, if_pos (List.mem_cons_of_mem _ h2)]
      · rw [if_neg h2, if_neg (by simp [h2, Ne.symm h])]
theorem wipe_congr {σ σ' : St} {vs : List Nat} (hl : σ'.length = σ.length) (h : ∀ k, k ∉ vs → σ'[k]? = σ[k]?) : wipe σ' vs = wipe σ vs := by
  apply List.ext_getElem?
  intro k
  rw [wipe_get, wipe_get]
  by_cases hk : k ∈ vs
  · rw [if_pos hk, if_pos hk]
    by_cases hs : k < σ.length
    · rw [List.getElem?_eq_getElem hs, List.getElem?_eq_getElem (by omega)]; rfl
    · rw [List.getElem?_eq_none (by omega), List.getElem?_eq_none (by omega)]
  · rw [if_neg hk, if_neg hk]; exact h k hk
theorem wipe_idem {σ : St} {vs : List Nat} : wipe (wipe σ vs) vs = wipe σ vs := wipe_congr (wipe_length σ vs) fun k hk => by rw [wipe_get, if_neg hk]
def plainVars (ρ : Rho) (vs : List Nat) : Bool := vs.all fun v => match ρ[v]? with
  | some .no => true
  | some (.fz _) => true
  | _ => false
def Rs.nox {α : Type} : Rs α → Rs α
  | .ok a ρ => .ok a ρ
  | _ => .bad
theorem Post.nox {α : Type} {P : α → Rho → Prop} {E : Xn → Rho → Prop} {r : Rs α} (h : Post P E r.nox) : Post P (fun _ _ => False) r := by
  cases r with
  | ok a ρ => exact h
  | ex x ρ => exact h.elim
  | bad => exact h
theorem Post.some {α : Type} {P : α → Rho → Prop} {r : Rs α} (h : Post P (fun _ _ => False) r) : ∃ a ρ, r = .ok a ρ ∧ P a ρ := by
  cases r with
  | ok a ρ => exact ⟨a, ρ, rfl, h⟩
  | ex x ρ => exact h.elim
  | bad => exact h.elim
abbrev WF : WX := fun _ _ _ _ => False

section
variable {G : Gx} {W : WX} {I : Nat → Option V} {F F2 R H : Hp} {ρ : Rho} {σ : St} {X : Cx}
theorem Er.wipe (E : Er G I F R ρ σ H) (vs : List Nat) : Er G I F R (wipeR ρ vs) (L2.wipe σ vs) H := by
  obtain ⟨fp, q⟩ := E.own
  refine ⟨E.fH, E.rH, E.dj, by rw [wipe_length, wipeR_length, E.len], fun k => if k ∈ vs then [] else fp k, fun k s hs => ?_, fun k hk => ?_, fun k c hc => ?_, fun k => ?_, fun i j hij c hc c' hc' => ?_⟩
  · rw [wipeR_get] at hs
    rw [wipe_get]
    by_cases h : k ∈ vs
    · rw [if_pos h] at hs ⊢
      rw [if_pos h]
      obtain ⟨s', _, rfl⟩ := Option.map_eq_some_iff.mp hs
      rfl
    · rw [if_neg h] at hs ⊢
      rw [if_neg h]
      exact q.ok k s hs
  · by_cases h : k ∈ vs
    · rw [if_pos h]
    · rw [if_neg h]
      rw [wipeR_get, if_neg h] at hk
      exact q.out k hk
  · by_cases h : k ∈ vs
    · rw [if_pos h] at hc; cases hc
    · rw [if_neg h] at hc; exact q.at_ k c hc
  · by_cases h : k ∈ vs
    · rw [if_pos h]; exact List.nodup_nil
    · rw [if_neg h]; exact q.nd k
  · by_cases h : i ∈ vs
    · rw [if_pos h] at hc; cases hc
    · by_cases h' : j ∈ vs
      · rw [if_pos h'] at hc'; cases hc'
      · rw [if_neg h] at hc
        rw [if_neg h'] at hc'
        exact q.dj i j hij c hc c' hc'
theorem Er.rest {R' H0 : Hp} {ρ0 : Rho} {vs : List Nat} (E0 : Er G I F R ρ0 σ H0) (hv : plainVars ρ0 vs = true) (e : Ex F F2) (E : Er G I F2 R' ρ (L2.wipe σ vs) H) : Er G I F2 R' (restR ρ0 ρ vs) σ H := by
  obtain ⟨fp0, q0⟩ := E0.own
  obtain ⟨fp, q⟩ := E.own
  have hl : σ.length = ρ.length := by rw [← E.len, wipe_length]
  refine ⟨E.fH, E.rH, E.dj, by rw [restR_length]; exact hl, fun k => if k ∈ vs then [] else fp k, fun k s hs => ?_, fun k hk => ?_, fun k c hc => ?_, fun k => ?_, fun i j hij c hc c' hc' => ?_⟩
  · rw [restR_get] at hs
    by_cases h : k ∈ vs
    · rw [if_pos h] at hs ⊢
      obtain ⟨s', h1, rfl⟩ := Option.map_eq_some_iff.mp hs
      have hk : k < ρ0.length := by
        rw [← E0.len, hl]; exact (List.getElem?_eq_some_iff.mp h1).1
      have hp : (match ρ0[k]? with
        | some .no => true
        | some (.fz _) => true
        | _ => false) = true := List.all_eq_true.mp hv k h
      have hg : ρ0[k]? = some (ρ0.getD k .no) := by simp [List.getD, List.getElem?_eq_getElem hk]
      have hok := q0.ok k _ hg
      rw [hg] at hp
      cases hsv : ρ0.getD k .no with
      | no => rfl
      | fz d =>
        rw [hsv] at hok
        obtain ⟨_, v, h2, h3⟩ := hok
        exact ⟨rfl, v, h2, Rp.mono e d v h3⟩
      | ow o => rw [hsv] at hp; cases hp
      | io o => rw [hsv] at hp; cases hp
    · rw [if_neg h] at hs ⊢
      have := q.ok k s hs
      rw [wipe_get, if_neg h] at this
      exact this
  · by_cases h : k ∈ vs
    · rw [if_pos h]
    · rw [if_neg h]
      rw [restR_get, if_neg h] at hk
      exact q.out k hk
  · by_cases h : k ∈ vs
    · rw [if_pos h] at hc; cases hc
    · rw [if_neg h] at hc; exact q.at_ k c hc
  · by_cases h : k ∈ vs
    · rw [if_pos h]; exact List.nodup_nil
    · rw [if_neg h]; exact q.nd k
  · by_cases h : i ∈ vs
    · rw [if_pos h] at hc; cases hc
    · by_cases h' : j ∈ vs
      · rw [if_pos h'] at hc'; cases hc'
      · rw [if_neg h] at hc
        rw [if_neg h'] at hc'
        exact q.dj i j hij c hc c' hc'
/-- a framed object changes -/
theorem Er.updR {p : Addr} {o o' : HO} (E : Er G I F (upd R p o) ρ σ H) : Er G I F (upd R p o') ρ σ (upd H p o') := by
  have fp0 : F p = none := by
    cases z : F p with
    | none => rfl
    | some u => have := E.dj p u z; rw [upd_same] at this; cases this
  obtain ⟨fp, q⟩ := E.own
  refine ⟨fun a u e => ?_, fun a u e => ?_, fun a u e => ?_, E.len, fp, q.ok, q.out, fun i c hc => ?_, q.nd, q.dj⟩
  · have z : a ≠ p := ne_of_none e fp0
    rw [upd_ne z]; exact E.fH a u e
  · by_cases z : a = p
    · subst z; rw [upd_same] at e ⊢; exact e
    · rw [upd_ne z] at e ⊢
      exact E.rH a u (by rw [upd_ne z]; exact e)
  · have z : a ≠ p := ne_of_none e fp0
    have := E.dj a u e
    rw [upd_ne z] at this ⊢; exact this
  · obtain ⟨h1, h2, h3⟩ := q.at_ i c hc
    have z : c.1 ≠ p := fun z => by rw [z, upd_same] at h3; cases h3
    rw [upd_ne z] at h3 ⊢
    exact ⟨h1, h2, by rw [upd_ne z]; exact h3⟩
/-- the loop of a clause -/
def lcL (vs : List Nat) (tg : D → Rho → Option Rho) (cond : TF) (elt : EF) : List D → Rho → Rs (List D)
  | [], ρ => .ok [] ρ
  | d :: ds, ρ => match tg d ρ with
    | none => .bad
    | some ρ1 => (cond ρ1).nox.bind fun b ρ2 => if b = true then (elt ρ2).nox.bind fun r ρ3 => (lcL vs tg cond elt ds (wipeR ρ3 vs)).bind fun rs ρ4 => .ok (r.toD :: rs) ρ4
      else lcL vs tg cond elt ds (wipeR ρ2 vs)
def okL (G : Gx) (I : Nat → Option V) (F R : Hp) (σ : St) (Dl : Addr) (Qd : Hp → Prop) (acc : List D) : List D → Rho → Prop := fun rs ρ'' =>
  acc.length + rs.length ≤ 1000000 ∧ ∀ F'' accV H'', Ex F F'' → Er G I F'' (upd R Dl (.lst accV)) ρ'' σ H'' → Rps G F'' (acc ++ rs) accV → Qd H''
theorem okL.mono {Dl : Addr} {Qd : Hp → Prop} {acc rs : List D} (e : Ex F F2) (h : okL G I F R σ Dl Qd acc rs ρ) : okL G I F2 R σ Dl Qd acc rs ρ := ⟨h.1, fun F'' accV H'' e' => h.2 F'' accV H'' (e.trans e')⟩
theorem postL.mono {Dl : Addr} {Qd : Hp → Prop} {acc : List D} {r : Rs (List D)} (e : Ex F F2) (h : Post (okL G I F R σ Dl Qd acc) (fun _ _ => False) r) : Post (okL G I F2 R σ Dl Qd acc) (fun _ _ => False) r := h.mono (fun _ _ h => h.mono e) fun _ _ h => h
theorem lc_loop {J : It} {n : Nat} {Gp : Hp → Prop} {Y : Nat → Hp → V → Hp → Prop} (w : Walk J n Gp Y) {g : TG} {tt : TT} {te : TE} {vs : List Nat} {σ : St} {H0 : Hp} {Dl : Addr} {Qd : Hp → Prop} (Pv : Nat → Hp → Prop) (h0 : Pv 0 H0) (hG : ∀ i H, i ≤ n → Pv i H → Gp H)
    (hs : ∀ i x H H', i < n → Pv i H → Y i H x H' → g x (wipe σ vs) H' fun σ2 H2 => wipe σ2 vs = wipe σ vs ∧ tt σ2 H2 fun b H3 =>
      if b = true then te σ2 H3 fun y H4 => ∃ acc, H4 Dl = some (.lst acc) ∧ acc.length < sizeLine ∧ Pv (i + 1) (upd H4 Dl (.lst (acc ++ [y]))) else Pv (i + 1) H3) (hd : ∀ H, Pv n H → Qd H) :
    ∃ W : Nat → Nat → Hp → Prop, (∃ m, W 0 m H0) ∧ ∀ i m H, W i m H →
      (J.stop i H ∧ Qd H) ∨ (J.go i H ∧ ∃ Nx : Hp → Prop, (∀ H', Nx H' → ∃ m', m' < m ∧ W (i + 1) m' H') ∧ ∀ x H', J.yld i H x H' → g x (wipe σ vs) H' fun σ2 H2 => wipe σ2 vs = wipe σ vs ∧ tt σ2 H2 fun b H3 =>
        if b = true then te σ2 H3 fun y H4 => ∃ acc, H4 Dl = some (.lst acc) ∧ acc.length < sizeLine ∧ Nx (upd H4 Dl (.lst (acc ++ [y]))) else Nx H3) := by
  refine ⟨fun i m H => m = n - i ∧ i ≤ n ∧ Pv i H, ⟨n, by simp, Nat.zero_le _, h0⟩, ?_⟩
  rintro i m H ⟨rfl, hi, p⟩
  have q := hG i H hi p
  by_cases hlt : i < n
  · exact .inr ⟨w.goes i H hlt q, Pv (i + 1), fun H' p' => ⟨n - (i + 1), by omega, rfl, hlt, p'⟩, fun x H' y => hs i x H H' hlt p (w.yields i H x H' hlt q y)⟩
  · have e : i = n := by omega
    subst e
    exact .inl ⟨w.stops H q, hd H p⟩
/-- a clause's loop keeps what its data tell -/
theorem lc_data {J : It} {ds : List D} {g : TG} {sl vs : List Nat} {tg : D → Rho → Option Rho} (hg : TgOk G g sl tg) (hsl : ∀ k ∈ sl, k ∈ vs) {cond : TF} {elt : EF} {Dl : Addr} {Qd : Hp → Prop} {H0 : Hp} {acc : List D} {accV : List V} {Fw : Hp} (w : Wk G Fw J ds) (ew : Ex Fw F)
    (E : Er G I F (upd R Dl (.lst accV)) ρ (wipe σ vs) H0) (r0 : Rps G F acc accV) (h : Post (okL G I F R (wipe σ vs) Dl Qd acc) (fun _ _ => False) (lcL vs tg cond elt ds ρ)) :
    ∃ W : Nat → Nat → Hp → Prop, (∃ m, W 0 m H0) ∧ ∀ i m H, W i m H →
      (J.stop i H ∧ Qd H) ∨ (J.go i H ∧ ∃ Nx : Hp → Prop, (∀ H', Nx H' → ∃ m', m' < m ∧ W (i + 1) m' H') ∧ ∀ x H', J.yld i H x H' → g x (wipe σ vs) H' fun σ2 H2 => wipe σ2 vs = wipe σ vs ∧ tT G WF cond σ2 H2 fun b H3 =>
        if b = true then tD G WF elt σ2 H3 fun y H4 => ∃ acc, H4 Dl = some (.lst acc) ∧ acc.length < sizeLine ∧ Nx (upd H4 Dl (.lst (acc ++ [y]))) else Nx H3) := by
  obtain ⟨Gp, Y, w1, w2, w3⟩ := w
  refine lc_loop w1 (fun i H => ∃ F' ρ' acc accV, Ex F F' ∧ Er G I F' (upd R Dl (.lst accV)) ρ' (wipe σ vs) H ∧ Rps G F' acc accV ∧ Post (okL G I F' R (wipe σ vs) Dl Qd acc) (fun _ _ => False) (lcL vs tg cond elt (ds.drop i) ρ'))
    ⟨F, ρ, acc, accV, Ex.refl F, E, r0, h⟩ ?_ ?_ ?_
  · rintro i H _ ⟨F', ρ', acc, accV, e', E', _⟩
    exact w2 H ((ew.trans e').trans E'.fH)
  · rintro i x H3 H4 hi ⟨F', ρ', acc, accV, e', E', r', h'⟩ y
    obtain ⟨d, hd, hdr⟩ := drop_cons hi
    obtain ⟨F3, e3, r3, E3⟩ := Wk.yld (J := J) (ew.trans e') E' hd (w3 i H3 x H4 hi ((ew.trans e').trans E'.fH) y)
    rw [hdr] at h'
    unfold lcL at h'
    split at h'
    · exact h'.elim
    · rename_i ρ4 hρ
      refine hg.run I F3 _ ρ' _ H4 d x ρ4 _ E3 r3 hρ fun σ2 H9 E4 l4 k4 => ?_
      have hw : wipe σ2 vs = wipe σ vs := (wipe_congr l4 fun k hk => k4 k fun m => hk (hsl k m)).trans wipe_idem
      refine ⟨hw, I, F3, _, ρ4, E4, h'.bind.nox.mono (fun b ρ5 h5 F5 H5 e5 E5 => ?_) fun _ _ h => h.elim⟩
      cases b with
      | false =>
        have E6 := E5.wipe vs
        rw [hw] at E6
        exact iteF ⟨F5, _, acc, accV, (e'.trans e3).trans e5, E6, Rps.mono (e3.trans e5) _ _ r', postL.mono (e3.trans e5) h5⟩
      | true =>
        refine iteT ⟨I, F5, _, ρ5, E5, (show Post _ _ ((elt ρ5).nox.bind _) from h5).bind.nox.mono (fun r ρ6 h6 v F6 R6 H6 e6 q6 E6 => ?_) fun _ _ h => h.elim⟩
        obtain ⟨F7, e7, q7, E7⟩ := q6.frz E6
        obtain ⟨rs, ρ8, h8, h9⟩ := h6.bind.some
        have hlen : acc.length + (r.toD :: rs).length ≤ 1000000 := h9.1
        have hDl : H6 Dl = some (.lst accV) := E7.rH Dl _ upd_same
        refine ⟨accV, hDl, ?_, F7, wipeR ρ6 vs, acc ++ [r.toD], accV ++ [v], ((e'.trans e3).trans e5).trans (e6.trans e7), ?_, ?_, ?_⟩
        · rw [r'.length, sizeLine_eq]
          simp only [List.length_cons] at hlen
          omega
        · have E8 := (E7.updR (o' := .lst (accV ++ [v]))).wipe vs
          rw [hw] at E8
          exact E8
        · exact Rps.append (Rps.mono (((e3.trans e5).trans e6).trans e7) _ _ r') (Rps.cons q7 Rps.nil)
        · rw [h8]
          refine ⟨by simp only [List.length_append, List.length_cons, List.length_nil] at hlen ⊢; omega, fun F'' accV'' H'' e'' E'' r'' => ?_⟩
          have h9 := h9.2 F'' accV'' H'' ((e3.trans e5).trans ((e6.trans e7).trans e'')) E''
          rw [List.append_assoc] at r''
          exact h9 r''
  · rintro H ⟨F', ρ', acc, accV, e', E', r', h'⟩
    rw [List.drop_length] at h'
    exact h'.2 F' accV H (Ex.refl F') E' (by rw [List.append_nil]; exact r')
def eLc (vs : List Nat) (it : IF) (tg : D → Rho → Option Rho) (cond : TF) (elt : EF) : EF := fun ρ => (it ρ).bind fun ds ρ1 => if plainVars ρ1 vs then (lcL vs tg cond elt ds (wipeR ρ1 vs)).nox.bind fun rs ρ2 => if rs.length ≤ 1000000 then .ok (.ow (.lst rs)) (restR ρ1 ρ2 vs) else .bad
  else .bad
theorem tD_lc {it : IF} {g : TG} {sl vs : List Nat} {tg : D → Rho → Option Rho} (hg : TgOk G g sl tg) (hsl : ∀ k ∈ sl, k ∈ vs) {cond : TF} {elt : EF} : ∀ σ H Q, tD G W (eLc vs it tg cond elt) σ H Q → tLc (tI G W it) g (tT G WF cond) (tD G WF elt) vs σ H Q := fun σ H Q ⟨I, F, R, ρ, E, h⟩ => by
  refine ⟨I, F, R, ρ, E, h.bind.mono (fun ds ρ1 h J F2 H2 e2 E2 w Dl hD => ?_) fun _ _ h => h⟩
  split at h
  · rename_i hv
    obtain ⟨eR, hR, E3⟩ := E2.newR (o := .lst []) hD
    have E4 := E3.wipe vs
    refine lc_data hg hsl w (Ex.refl F2) E4 Rps.nil (Qd := Q (.ref Dl)) ?_
    refine h.bind.nox.mono (fun rs ρ2 h2 => ?_) fun _ _ h => h
    split at h2
    · rename_i hl
      refine ⟨by simpa using hl, fun F'' accV H'' e'' E'' r'' => ?_⟩
      exact h2 (.ref Dl) F'' _ H'' (e2.trans e'') (rvok_new hR r'') (E2.rest hv e'' E'')
    · exact h2.elim
  · exact h.elim
/-- two clauses -/
def lcO (vs vs1 : List Nat) (tg : D → Rho → Option Rho) (cond : TF) (it1 : IF) (tg1 : D → Rho → Option Rho) (cond1 : TF) (elt : EF) : List D → Rho → Rs (List D)
  | [], ρ => .ok [] ρ
  | d :: ds, ρ => match tg d ρ with
    | none => .bad
    | some ρ1 => (cond ρ1).nox.bind fun b ρ2 => if b = true then (it1 ρ2).nox.bind fun ds1 ρ3 => (lcL vs1 tg1 cond1 elt ds1 (wipeR ρ3 vs1)).nox.bind fun rs ρ4 => (lcO vs vs1 tg cond it1 tg1 cond1 elt ds (wipeR ρ4 vs)).bind fun rs' ρ5 => .ok (rs ++ rs') ρ5
      else lcO vs vs1 tg cond it1 tg1 cond1 elt ds (wipeR ρ2 vs)
def eLc2 (vs vs1 : List Nat) (it : IF) (tg : D → Rho → Option Rho) (cond : TF) (it1 : IF) (tg1 : D → Rho → Option Rho) (cond1 : TF) (elt : EF) : EF := fun ρ => (it ρ).bind fun ds ρ1 => if plainVars ρ1 vs then (lcO vs vs1 tg cond it1 tg1 cond1 elt ds (wipeR ρ1 vs)).nox.bind fun rs ρ2 => if rs.length ≤ 1000000 then .ok (.ow (.lst rs)) (restR ρ1 ρ2 vs) else .bad
  else .bad
theorem tD_lc2 {it it1 : IF} {g g1 : TG} {sl sl1 vs vs1 : List Nat} {tg tg1 : D → Rho → Option Rho} (hg : TgOk G g sl tg) (hsl : ∀ k ∈ sl, k ∈ vs) (hg1 : TgOk G g1 sl1 tg1) (hsl1 : ∀ k ∈ sl1, k ∈ vs1) (hvs : ∀ k ∈ vs1, k ∈ vs) {cond cond1 : TF} {elt : EF} :
    ∀ σ H Q, tD G W (eLc2 vs vs1 it tg cond it1 tg1 cond1 elt) σ H Q → tLc2 (tI G W it) g (tT G WF cond) (tI G WF it1) g1 (tT G WF cond1) (tD G WF elt) vs vs1 σ H Q := fun σ H Q ⟨I, F, R, ρ, E, h⟩ => by
  refine ⟨I, F, R, ρ, E, h.bind.mono (fun ds ρ1 h J F2 H2 e2 E2 w Dl hD => ?_) fun _ _ h => h⟩
  split at h
  · rename_i hv
    obtain ⟨eR, hR, E3⟩ := E2.newR (o := .lst []) hD
    have E4 := E3.wipe vs
    have h : Post (okL G I F2 R (wipe σ vs) Dl (Q (.ref Dl)) []) (fun _ _ => False) (lcO vs vs1 tg cond it1 tg1 cond1 elt ds (wipeR ρ1 vs)) := by
      refine h.bind.nox.mono (fun rs ρ2 h2 => ?_) fun _ _ h => h
      split at h2
      · rename_i hl
        refine ⟨by simpa using hl, fun F'' accV H'' e'' E'' r'' => ?_⟩
        exact h2 (.ref Dl) F'' _ H'' (e2.trans e'') (rvok_new hR r'') (E2.rest hv e'' E'')
      · exact h2.elim
    obtain ⟨Gp, Y, w1, w2, w3⟩ := w
    refine ⟨fun i m H => m = ds.length - i ∧ i ≤ ds.length ∧ ∃ F' ρ' acc accV, Ex F2 F' ∧ Er G I F' (upd R Dl (.lst accV)) ρ' (wipe σ vs) H ∧ Rps G F' acc accV ∧ Post (okL G I F' R (wipe σ vs) Dl (Q (.ref Dl)) acc) (fun _ _ => False) (lcO vs vs1 tg cond it1 tg1 cond1 elt (ds.drop i) ρ'),
      ⟨ds.length, by simp, Nat.zero_le _, F2, _, [], [], Ex.refl F2, E4, Rps.nil, h⟩, ?_⟩
    rintro i m H3 ⟨rfl, hile, F', ρ', acc, accV, e', E', r', h'⟩
    by_cases hi : i < ds.length
    · refine .inr ⟨w1.goes i H3 hi (w2 H3 (e'.trans E'.fH)), fun H => ∃ F' ρ' acc accV, Ex F2 F' ∧ Er G I F' (upd R Dl (.lst accV)) ρ' (wipe σ vs) H ∧ Rps G F' acc accV ∧ Post (okL G I F' R (wipe σ vs) Dl (Q (.ref Dl)) acc) (fun _ _ => False) (lcO vs vs1 tg cond it1 tg1 cond1 elt (ds.drop (i + 1)) ρ'),
        fun H' p' => ⟨ds.length - (i + 1), by omega, rfl, hi, p'⟩, fun x H4 y => ?_⟩
      have y := w1.yields i H3 x H4 hi (w2 H3 (e'.trans E'.fH)) y
      obtain ⟨d, hd, hdr⟩ := drop_cons hi
      obtain ⟨F3, e3, r3, E3⟩ := Wk.yld (J := J) e' E' hd (w3 i H3 x H4 hi (e'.trans E'.fH) y)
      rw [hdr] at h'
      unfold lcO at h'
      split at h'
      · exact h'.elim
      · rename_i ρ4 hρ
        refine hg.run I F3 _ ρ' _ H4 d x ρ4 _ E3 r3 hρ fun σ2 H9 E4 l4 k4 => ?_
        have hw : wipe σ2 vs = wipe σ vs := (wipe_congr l4 fun k hk => k4 k fun m => hk (hsl k m)).trans wipe_idem
        refine ⟨hw, I, F3, _, ρ4, E4, h'.bind.nox.mono (fun b ρ5 h5 F5 H5 e5 E5 => ?_) fun _ _ h => h.elim⟩
        cases b with
        | false =>
          have E6 := E5.wipe vs
          rw [hw] at E6
          exact iteF ⟨F5, _, acc, accV, (e'.trans e3).trans e5, E6, Rps.mono (e3.trans e5) _ _ r', postL.mono (e3.trans e5) h5⟩
        | true =>
          refine iteT ⟨I, F5, _, ρ5, E5, (show Post _ _ ((it1 ρ5).nox.bind _) from h5).bind.nox.mono (fun ds1 ρ6 h6 J1 F6 H6 e6 E6 w6 => ?_) fun _ _ h => h.elim⟩
          refine lc_data hg1 hsl1 w6 (Ex.refl F6) (E6.wipe vs1) (Rps.mono (e3.trans (e5.trans e6)) _ _ r') (cond := cond1) (elt := elt) ?_
          refine h6.bind.nox.mono (fun rs ρ7 h7 => ?_) fun _ _ h => h
          obtain ⟨rs', ρ8, h8, h9⟩ := h7.bind.some
          have hlen : acc.length + (rs ++ rs').length ≤ 1000000 := h9.1
          rw [List.length_append] at hlen
          refine ⟨by omega, fun F'' accV'' H'' e'' E'' r'' => ?_⟩
          have hw2 : wipe (wipe σ2 vs1) vs = wipe σ vs := by
            rw [← hw]
            exact wipe_congr (wipe_length σ2 vs1) fun k hk => by rw [wipe_get, if_neg fun m => hk (hvs k m)]
          have E9 := E''.wipe vs
          rw [hw2] at E9
          refine ⟨F'', _, acc ++ rs, accV'', ((e'.trans e3).trans e5).trans (e6.trans e''), E9, r'', ?_⟩
          rw [h8]
          refine ⟨by simp only [List.length_append]; omega, fun F3' accV3 H3' e3' E3' r3' => ?_⟩
          rw [List.append_assoc] at r3'
          exact h9.2 F3' accV3 H3' ((e3.trans e5).trans ((e6.trans e'').trans e3')) E3' r3'
    · have ei : i = ds.length := by omega
      subst ei
      refine .inl ⟨w1.stops H3 (w2 H3 (e'.trans E'.fH)), ?_⟩
      rw [List.drop_length] at h'
      exact h'.2 F' accV H3 (Ex.refl F') E' (by rw [List.append_nil]; exact r')
  · exact h.elim

variable {elt tg tg1 iter iter1 : Expr} {ifs ifs1 : List Expr} {scope : Scope} {own : List (Str × Nat)} {pos : Pos} {it it1 : IF} {g g1 : TG} {sl sl1 vs1 : List Nat} {sem sem1 : D → Rho → Option Rho} {cond cond1 : TF} {ef : EF}
def DTs (X : Cx) (G : Gx) (W : WX) (es : List Expr) (f : TF) : Prop := PTs X es (tT G W f)
def fYes : TF := fun ρ => .ok true ρ
theorem dts_nil : DTs X G W [] fYes := ⟨fun pins s σ H Q I ⟨I', F, R, ρ, E, h⟩ => pts_nil.run pins s σ H Q I (h F H (Ex.refl F) E)⟩
theorem dts_one {c : Expr} {f : TF} (h : DT X G W c f) : DTs X G W [c] f := pts_one h
/-- the block of a comprehension -/
abbrev Blk (X : Cx) (scope : Scope) (P : Cx → Prop) : Prop := ∀ (s : Shared) (H : Hp) (C : Addr) (cl : List (Str × Addr)) (fp : List Addr), P (X.blk s H scope (compEnvC scope cl C X.env) fp)
theorem de_lc (own : List (Str × Nat)) (hc : X.calm = true) (hN : X.N.Nodup) (hi : DI X G W tg iter it) (ok : BlkOk X.N X.env.scope scope own) (hg : Blk X scope fun X => PG X tg g) (hk : TgOk G g sl sem) (hsl : ∀ k ∈ sl, k ∈ own.map (·.2)) (ht : Blk X scope fun X => DTs X G WF ifs cond)
    (he : Blk X scope fun X => DE X G WF elt ef) (hs : ∀ x, foldedSetIterable iter X.env x = pure x := by intro _; rfl) : DE X G W (.ListComp elt [⟨tg, iter, ifs, 0⟩] scope pos) (eLc (own.map (·.2)) it sem cond ef) :=
  de_of (pe_lc hc hN hi ok hg ht he hs) (tD_lc hk hsl)
theorem ds_setLc {i : Nat} {y : Str} {py spos : Pos} (own : List (Str × Nat)) (hc : X.calm = true) (hN : X.N.Nodup) (hy : X.N[i]? = some y) (hyl : X.env.scope.names.lookup y = some .local)
    (hsw : swapsWith (.ListComp elt [⟨tg, iter, ifs, 0⟩] scope pos) (some (.Name y py)) spos.line X.env = pure true) (hi : DI X G W tg iter it) (ok : BlkOk X.N X.env.scope scope own) (hg : Blk X scope fun X => PG X tg g) (hk : TgOk G g sl sem) (hsl : ∀ k ∈ sl, k ∈ own.map (·.2)) (ht : Blk X scope fun X => DTs X G WF ifs cond)
    (he : Blk X scope fun X => DE X G WF elt ef) (hs : ∀ x, foldedSetIterable iter X.env x = pure x := by intro _; rfl) : DS X G W (.Assign [.Name y py] (.ListComp elt [⟨tg, iter, ifs, 0⟩] scope pos) spos) (sSet i (eLc (own.map (·.2)) it sem cond ef)) :=
  ds_of (ps_setLc hc hN hy hyl hsw hi ok hg ht he hs) (tS_set (tD_lc hk hsl))
theorem de_lc2 (own : List (Str × Nat)) (vs1 : List Nat) (hc : X.calm = true) (hN : X.N.Nodup) (hi : DI X G W tg iter it) (ok : BlkOk X.N X.env.scope scope own) (hv : ∀ i ∈ vs1, i ∈ own.map (·.2)) (hg : Blk X scope fun X => PG X tg g) (hk : TgOk G g sl sem) (hsl : ∀ k ∈ sl, k ∈ own.map (·.2)) (ht : Blk X scope fun X => DTs X G WF ifs cond)
    (hi1 : Blk X scope fun X => DI X G WF tg1 iter1 it1) (hg1 : Blk X scope fun X => PG X tg1 g1) (hk1 : TgOk G g1 sl1 sem1) (hsl1 : ∀ k ∈ sl1, k ∈ vs1) (ht1 : Blk X scope fun X => DTs X G WF ifs1 cond1) (he : Blk X scope fun X => DE X G WF elt ef)
    (hs : ∀ x, foldedSetIterable iter X.env x = pure x := by intro _; rfl) (hs1 : ∀ env x, foldedSetIterable iter1 env x = pure x := by intro _ _; rfl) : DE X G W (.ListComp elt [⟨tg, iter, ifs, 0⟩, ⟨tg1, iter1, ifs1, 0⟩] scope pos) (eLc2 (own.map (·.2)) vs1 it sem cond it1 sem1 cond1 ef) :=
  de_of (pe_lc2 hc hN hi ok hv hg ht hi1 hg1 ht1 he hs hs1) (tD_lc2 hk hsl hk1 hsl1 hv)
theorem ds_setLc2 {i : Nat} {y : Str} {py spos : Pos} (own : List (Str × Nat)) (vs1 : List Nat) (hc : X.calm = true) (hN : X.N.Nodup) (hy : X.N[i]? = some y) (hyl : X.env.scope.names.lookup y = some .local)
    (hsw : swapsWith (.ListComp elt [⟨tg, iter, ifs, 0⟩, ⟨tg1, iter1, ifs1, 0⟩] scope pos) (some (.Name y py)) spos.line X.env = pure true) (hi : DI X G W tg iter it) (ok : BlkOk X.N X.env.scope scope own) (hv : ∀ i ∈ vs1, i ∈ own.map (·.2)) (hg : Blk X scope fun X => PG X tg g) (hk : TgOk G g sl sem) (hsl : ∀ k ∈ sl, k ∈ own.map (·.2)) (ht : Blk X scope fun X => DTs X G WF ifs cond)
    (hi1 : Blk X scope fun X => DI X G WF tg1 iter1 it1) (hg1 : Blk X scope fun X => PG X tg1 g1) (hk1 : TgOk G g1 sl1 sem1) (hsl1 : ∀ k ∈ sl1, k ∈ vs1) (ht1 : Blk X scope fun X => DTs X G WF ifs1 cond1) (he : Blk X scope fun X => DE X G WF elt ef)
    (hs : ∀ x, foldedSetIterable iter X.env x = pure x := by intro _; rfl) (hs1 : ∀ env x, foldedSetIterable iter1 env x = pure x := by intro _ _; rfl) : DS X G W (.Assign [.Name y py] (.ListComp elt [⟨tg, iter, ifs, 0⟩, ⟨tg1, iter1, ifs1, 0⟩] scope pos) spos) (sSet i (eLc2 (own.map (·.2)) vs1 it sem cond it1 sem1 cond1 ef)) :=
  ds_of (ps_setLc2 hc hN hy hyl hsw hi ok hv hg ht hi1 hg1 ht1 he hs hs1) (tS_set (tD_lc2 hk hsl hk1 hsl1 hv))
end
end VI

end
section
set_option Elab.async false
set_option linter.all false
set_option maxRecDepth 100000
namespace VI
open PySem L2

/-! ### defs as functions of data -/
/-- an argument: fixed data, or an owned thing lent to be changed -/
inductive FA where
  | fz (d : D) | io (o : O)
/-- what a def gives: the value, and what the lent things have become -/
inductive FO where
  | ok (r : RV) (ios : List O) | ex (x : Xn) (ios : List O) | bad
abbrev FF := List FA → FO
def FA.sv : FA → SV
  | .fz d => .fz d
  | .io o => .io o
def rho0 (args : List FA) : Rho := args.map FA.sv
/-- the arguments behind the call -/
def rhoIo : List FA → List O → Rho
  | [], _ => []
  | .fz d :: as, os => .fz d :: rhoIo as os
  | .io _ :: as, o :: os => .io o :: rhoIo as os
  | .io _ :: as, [] => .no :: rhoIo as []
def iosOf : List FA → Rho → Option (List O)
  | [], _ => some []
  | .fz _ :: as, ρ => iosOf as ρ.tail
  | .io _ :: as, ρ => match ρ.head? with
    | some (.io o) => (iosOf as ρ.tail).map (o :: ·)
    | _ => none
/-- a def by its body, n slots in all -/
def semDef (n : Nat) (body : SF) : FF := fun args => match body (rho0 args ++ List.replicate (n - args.length) .no) with
  | .ok (.rt r) ρ => match iosOf args ρ with
    | some ios => .ok r ios
    | none => .bad
  | .ok .nx ρ => match iosOf args ρ with
    | some ios => .ok (.fz .non) ios
    | none => .bad
  | .ok _ _ => .bad
  | .ex x ρ => match iosOf args ρ with
    | some ios => .ex x ios
    | none => .bad
  | .bad => .bad
def postF (okP : RV → List O → Prop) (exP : Xn → List O → Prop) : FO → Prop
  | .ok r ios => okP r ios
  | .ex x ios => exP x ios
  | .bad => False
/-- the promise of a def of np parameters that is told by φ -/
def spF (G : Gx) (np : Nat) (φ : FF) : Sp := fun vs H Q E => vs.length = np ∧ ∃ (F R : Hp) (args : List FA), args.length = np ∧ Er G (fun i => vs[i]?) F R (rho0 args) (vs.map some) H ∧
  postF (fun r ios => ∀ v F2 R2 H2, Ex F F2 → RvOk G F2 R R2 r v → Er G (fun i => vs[i]?) F2 R2 (rhoIo args ios) (vs.map some) H2 → Q v H2)
    (fun x ios => ∀ c d F2 H2, Ex F F2 → XnOk G F2 x c d → Er G (fun i => vs[i]?) F2 R (rhoIo args ios) (vs.map some) H2 → E c d H2) (φ args)

section
variable {G : Gx} {I : Nat → Option V} {F F2 R R2 H H2 : Hp} {ρ : Rho} {σ : St}
theorem get_rho0 {args : List FA} {i : Nat} : (rho0 args)[i]? = args[i]?.map FA.sv := by simp [rho0]
theorem rhoIo_length : ∀ (args : List FA) (ios : List O), (rhoIo args ios).length = args.length
  | [], _ => rfl
  | .fz d :: as, os => by simp [rhoIo, rhoIo_length as os]
  | .io _ :: as, o :: os => by simp [rhoIo, rhoIo_length as os]
  | .io _ :: as, [] => by simp [rhoIo, rhoIo_length as []]
theorem rhoIo_get : ∀ {args : List FA} {ρ : Rho} {ios : List O} {i : Nat} {s : SV}, iosOf args ρ = some ios → (rhoIo args ios)[i]? = some s → (∃ d, args[i]? = some (.fz d) ∧ s = .fz d) ∨ ∃ o o', args[i]? = some (.io o) ∧ s = .io o' ∧ ρ[i]? = some (.io o')
  | [], ρ, ios, i, s, h, k => by simp [rhoIo] at k
  | .fz d :: as, ρ, ios, 0, s, h, k => by
    simp only [rhoIo, List.getElem?_cons_zero, Option.some.injEq] at k
    exact .inl ⟨d, rfl, k.symm⟩
  | .fz d :: as, ρ, ios, i + 1, s, h, k => by
    simp only [rhoIo, List.getElem?_cons_succ] at k
    rcases rhoIo_get (i := i) (show iosOf as ρ.tail = some ios from h) k with ⟨d', h1, h2⟩ | ⟨o, o', h1, h2, h3⟩
    · exact .inl ⟨d', by simpa using h1, h2⟩
    · exact .inr ⟨o, o', by simpa using h1, h2, by simpa using h3⟩
  | .io o :: as, ρ, ios, i, s, h, k => by
    unfold iosOf at h
    split at h
    · rename_i o' ho
      obtain ⟨ios', h1, h2⟩ := Option.map_eq_some_iff.mp h
      subst h2
      cases i with
      | zero =>
        simp only [rhoIo, List.getElem?_cons_zero, Option.some.injEq] at k
        exact .inr ⟨o, o', rfl, k.symm, by cases ρ <;> simp_all⟩
      | succ i =>
        simp only [rhoIo, List.getElem?_cons_succ] at k
        rcases rhoIo_get (i := i) h1 k with ⟨d', h1, h2⟩ | ⟨o, o', h1, h2, h3⟩
        · exact .inl ⟨d', by simpa using h1, h2⟩
        · exact .inr ⟨o, o', by simpa using h1, h2, by simpa using h3⟩
    · cases h
/-- at a def's end: back to the arguments -/
theorem Er.toArgs {vs : List V} {args : List FA} {ios : List O} {F0 R0 H0 : Hp} (E0 : Er G (fun i => vs[i]?) F0 R0 (rho0 args) (vs.map some) H0) (e : Ex F0 F) (E : Er G (fun i => vs[i]?) F R ρ σ H) (h : iosOf args ρ = some ios) :
    Er G (fun i => vs[i]?) F R (rhoIo args ios) (vs.map some) H := by
  obtain ⟨fp0, q0⟩ := E0.own
  obtain ⟨fp, q⟩ := E.own
  have hl : vs.length = args.length := by have := E0.len; simpa [rho0] using this
  refine ⟨E.fH, E.rH, E.dj, by rw [rhoIo_length]; simpa using hl, fun i => match args[i]? with
      | some (.io _) => fp i
      | _ => [], fun i s hs => ?_, fun i hi => ?_, fun i c hc => ?_, fun i => ?_, fun i j hij c hc c' hc' => ?_⟩
  · rcases rhoIo_get h hs with ⟨d, h1, rfl⟩ | ⟨o, o', h1, rfl, h3⟩
    · simp only [h1]
      obtain ⟨_, v, h4, h5⟩ := q0.ok i (.fz d) (by rw [get_rho0, h1]; rfl)
      exact ⟨rfl, v, h4, Rp.mono e d v h5⟩
    · simp only [h1]
      obtain ⟨v, h4, h5, h6⟩ := q.ok i _ h3
      exact ⟨v, by rw [List.getElem?_map]; simp [show vs[i]? = some v from h5], h5, h6⟩
  · have : args[i]? = none := by
      have := List.getElem?_eq_none_iff.mp hi
      rw [rhoIo_length] at this
      exact List.getElem?_eq_none this
    simp only [this]
  · split at hc
    · exact q.at_ i c hc
    · cases hc
  · split
    · exact q.nd i
    · exact List.nodup_nil
  · split at hc
    · split at hc'
      · exact q.dj i j hij c hc c' hc'
      · cases hc'
    · cases hc
end

/-! ### a def keeps its promise -/
section
open PySem.Spec PyProof.Rows
variable {P : Program} {w : World} {K : PySem.W.Frag} {mg : Str → Option Value} {base : Heap} {G : Gx}
/-- at the start -/
theorem Er.start {vs : List V} {args : List FA} {F R H : Hp} {n : Nat} (E : Er G (fun i => vs[i]?) F R (rho0 args) (vs.map some) H) : Er G (fun i => vs[i]?) F R (rho0 args ++ List.replicate (n - args.length) .no) (vs.map some ++ List.replicate (n - vs.length) none) H := by
  have hl : vs.length = args.length := by have := E.len; simpa [rho0] using this
  obtain ⟨fp, q⟩ := E.own
  refine ⟨E.fH, E.rH, E.dj, by simp [rho0, hl], fp, fun i s hs => ?_, fun i hi => ?_, q.at_, q.nd, q.dj⟩
  · by_cases h : i < args.length
    · rw [List.getElem?_append_left (by simpa [rho0] using h)] at hs
      rw [List.getElem?_append_left (by simpa [hl] using h)]
      exact q.ok i s hs
    · rw [List.getElem?_append_right (by simpa [rho0] using h)] at hs
      have : s = .no := by
        obtain ⟨_, hs⟩ := List.getElem?_eq_some_iff.mp hs
        simpa using hs.symm
      subst this
      exact q.out i (by rw [get_rho0, List.getElem?_eq_none (by omega)]; rfl)
  · have := List.getElem?_eq_none_iff.mp hi
    rw [List.length_append] at this
    exact q.out i (List.getElem?_eq_none (by omega))
theorem def_ok {x qual : Str} {st : Stmt} {f : Addr} {fd : FuncData} {N ps : List Str} {k : Nat} {body : SF} (Fn : Fun K x qual st f fd) (S : FnScope N ps (defScope st))
    (hb : ∀ (cdv : Value) (A : Around) (outer : List PySem.Env) (s : Shared) (H : Hp) (E : XK), Room k (A.deeper (envOfC qual (defScope st) s.heap.objs.size f cdv)) →
      DSs (cxOf (L2.CX P w) P w K mg base N qual (defScope st) f cdv A outer s H E) G (fun c d _ H => E c d H) (defBody st) body) :
    FnOk P w K mg base (L2.CX P w) (k + 1) f fd ps (spF G ps.length (semDef N.length body)) := by
  refine Fn.okX S (fun vs H Q E h => h.1) fun cdv A outer s H vs Q E hr h => ?_
  obtain ⟨hl, F, R, args, ha, Er0, hp⟩ := h
  refine ⟨_, hb cdv A outer s H E hr, (fun i => vs[i]?), F, R, _, Er0.start (n := N.length), ?_⟩
  unfold semDef at hp
  revert hp
  cases hbd : body (rho0 args ++ List.replicate (N.length - args.length) .no) with
  | bad => exact fun h => h.elim
  | ex x ρ =>
    intro hp
    cases hi : iosOf args ρ with
    | none => simp only [hi] at hp; exact hp.elim
    | some ios =>
      simp only [hi] at hp
      exact fun c d σ' F2 H2 e2 q2 E2 => hp c d F2 H2 e2 q2 (Er0.toArgs e2 E2 hi)
  | ok c ρ =>
    intro hp
    cases c with
    | nx =>
      cases hi : iosOf args ρ with
      | none => simp only [hi] at hp; exact hp.elim
      | some ios =>
        simp only [hi] at hp
        exact fun σ' F2 H2 e2 E2 => hp .non F2 R H2 e2 ⟨rfl, by simp only [Rp]⟩ (Er0.toArgs e2 E2 hi)
    | rt r =>
      cases hi : iosOf args ρ with
      | none => simp only [hi] at hp; exact hp.elim
      | some ios =>
        simp only [hi] at hp
        exact fun v σ' F2 R2 H2 e2 q2 E2 => hp v F2 R2 H2 e2 q2 (Er0.toArgs e2 E2 hi)
    | bk => exact hp.elim
    | ct => exact hp.elim
end
end VI

end
section
set_option Elab.async false
set_option linter.all false
set_option maxRecDepth 100000
namespace VI
open PySem L2

/-! ### calls -/
inductive Md where
  | v | io | br
def mkArg (ρ : Rho) : Md → OV → Option FA
  | .v, .dt d => some (.fz d)
  | .io, .pk i => (ρ.own i).map FA.io
  | .br, .pk i => (ρ.own i).map fun o => .fz o.toD
  | .br, .dt d => some (.fz d)
  | _, _ => none
def mkArgs (ρ : Rho) : List Md → List OV → Option (List FA)
  | [], [] => some []
  | m :: ms, o :: os => (mkArg ρ m o).bind fun a => (mkArgs ρ ms os).map fun as => a :: as
  | _, _ => none
def ioAt : List Md → List OV → Nat → List (Nat × Nat)
  | .io :: ms, .pk j :: os, p => (p, j) :: ioAt ms os (p + 1)
  | _ :: ms, _ :: os, p => ioAt ms os (p + 1)
  | _, _, _ => []
def brIx : List Md → List OV → List Nat
  | .br :: ms, .pk j :: os => j :: brIx ms os
  | _ :: ms, _ :: os => brIx ms os
  | _, _ => []
theorem mkArgs_get {ρ : Rho} : ∀ {ms : List Md} {os : List OV} {args : List FA} {i : Nat} {a : FA}, mkArgs ρ ms os = some args → args[i]? = some a → ∃ m o, ms[i]? = some m ∧ os[i]? = some o ∧ mkArg ρ m o = some a
  | [], [], args, i, a, h, k => by cases h; simp at k
  | [], o :: os, args, i, a, h, k => by cases h
  | m :: ms, [], args, i, a, h, k => by cases h
  | m :: ms, o :: os, args, i, a, h, k => by
    obtain ⟨a0, h1, h2⟩ := Option.bind_eq_some_iff.mp h
    obtain ⟨as, h3, h4⟩ := Option.map_eq_some_iff.mp h2
    subst h4
    cases i with
    | zero =>
      simp only [List.getElem?_cons_zero, Option.some.injEq] at k
      subst k
      exact ⟨m, o, rfl, rfl, h1⟩
    | succ i =>
      obtain ⟨m', o', q1, q2, q3⟩ := mkArgs_get (i := i) h3 (by simpa using k)
      exact ⟨m', o', by simpa using q1, by simpa using q2, q3⟩
theorem mkArgs_length {ρ : Rho} : ∀ {ms : List Md} {os : List OV} {args : List FA}, mkArgs ρ ms os = some args → args.length = os.length
  | [], [], args, h => by cases h; rfl
  | [], o :: os, args, h => by cases h
  | m :: ms, [], args, h => by cases h
  | m :: ms, o :: os, args, h => by
    obtain ⟨a0, h1, h2⟩ := Option.bind_eq_some_iff.mp h
    obtain ⟨as, h3, h4⟩ := Option.map_eq_some_iff.mp h2
    subst h4
    simp [mkArgs_length h3]
theorem ioAt_mem : ∀ {ms : List Md} {os : List OV} {p i j : Nat}, ms[i]? = some .io → os[i]? = some (.pk j) → (p + i, j) ∈ ioAt ms os p
  | [], os, p, i, j, h, k => by simp at h
  | m :: ms, [], p, i, j, h, k => by simp at k
  | m :: ms, o :: os, p, 0, j, h, k => by
    simp only [List.getElem?_cons_zero, Option.some.injEq] at h k
    subst h k
    simp [ioAt]
  | m :: ms, o :: os, p, i + 1, j, h, k => by
    have := ioAt_mem (p := p + 1) (i := i) (j := j) (ms := ms) (os := os) (by simpa using h) (by simpa using k)
    have e : p + 1 + i = p + (i + 1) := by omega
    rw [e] at this
    cases m <;> cases o <;> simp [ioAt, this]
theorem ioAt_of : ∀ {ms : List Md} {os : List OV} {p x j : Nat}, (x, j) ∈ ioAt ms os p → ∃ i, x = p + i ∧ ms[i]? = some .io ∧ os[i]? = some (.pk j)
  | [], os, p, x, j, h => by simp [ioAt] at h
  | m :: ms, [], p, x, j, h => by cases m <;> simp [ioAt] at h
  | m :: ms, o :: os, p, x, j, h => by
    have step : (x, j) ∈ ioAt ms os (p + 1) → ∃ i, x = p + i ∧ (m :: ms)[i]? = some .io ∧ (o :: os)[i]? = some (.pk j) := fun h => by
      obtain ⟨i, h1, h2, h3⟩ := ioAt_of h
      exact ⟨i + 1, by omega, by simpa using h2, by simpa using h3⟩
    cases m with
    | io =>
      cases o with
      | pk j' =>
        simp only [ioAt, List.mem_cons] at h
        rcases h with h | h
        · cases h
          exact ⟨0, rfl, rfl, rfl⟩
        · exact step h
      | dt d => exact step (by simpa [ioAt] using h)
    | v => cases o <;> exact step (by simpa [ioAt] using h)
    | br => cases o <;> exact step (by simpa [ioAt] using h)
theorem brIx_mem : ∀ {ms : List Md} {os : List OV} {i j : Nat}, ms[i]? = some .br → os[i]? = some (.pk j) → j ∈ brIx ms os
  | [], os, i, j, h, k => by simp at h
  | m :: ms, [], i, j, h, k => by simp at k
  | m :: ms, o :: os, 0, j, h, k => by
    simp only [List.getElem?_cons_zero, Option.some.injEq] at h k
    subst h k
    simp [brIx]
  | m :: ms, o :: os, i + 1, j, h, k => by
    have := brIx_mem (i := i) (j := j) (ms := ms) (os := os) (by simpa using h) (by simpa using k)
    cases m <;> cases o <;> simp [brIx, this]
open Classical in
/-- S taken from the heap -/
noncomputable def lay (S : Addr → Prop) (H F : Hp) : Hp := fun a => if S a then H a else F a
theorem lay_in {S : Addr → Prop} {H F : Hp} {a : Addr} (h : S a) : lay S H F a = H a := by unfold lay; rw [if_pos h]
theorem lay_out {S : Addr → Prop} {H F : Hp} {a : Addr} (h : ¬ S a) : lay S H F a = F a := by unfold lay; rw [if_neg h]
/-- the cells of some slots -/
def CellsOf (fp : Nat → Cells) (p : Nat → Prop) (a : Addr) : Prop := ∃ k, p k ∧ ∃ c ∈ fp k, c.1 = a
section
variable {G : Gx} {W : WX} {I I' : Nat → Option V} {F F2 R R2 H H2 : Hp} {ρ ρ2 : Rho} {σ σ' : St} {fp fp2 : Nat → Cells}
/-- what a call takes along -/
theorem call_out (E : Er G I F R ρ σ H) (q : Fp G I F R ρ σ H fp) (br : List Nat) (j : Nat) (hj : j ∉ br) :
    ∃ F' R', F' = lay (CellsOf fp (· ∈ br)) H F ∧ R' = lay (CellsOf fp fun k => k ∉ br ∧ k ≠ j) H R ∧ Ex F F' ∧ Ex R R' ∧ Ex F' H ∧ Ex R' H ∧ (∀ a o, F' a = some o → R' a = none) ∧ (∀ c ∈ fp j, F' c.1 = none ∧ R' c.1 = none) ∧ (∀ k ∈ br, ∀ c ∈ fp k, F' c.1 = some c.2) ∧ (∀ k, k ∉ br → k ≠ j → ∀ c ∈ fp k, R' c.1 = some c.2) := by
  refine ⟨_, _, rfl, rfl, fun a o e => ?_, fun a o e => ?_, fun a o e => ?_, fun a o e => ?_, fun a o e => ?_, fun c hc => ?_, fun k hk c hc => ?_, fun k hk hkj c hc => ?_⟩
  · rw [lay_out]
    · exact e
    · rintro ⟨k, _, c, hc, rfl⟩
      rw [(q.at_ k c hc).2.1] at e; cases e
  · rw [lay_out]
    · exact e
    · rintro ⟨k, _, c, hc, rfl⟩
      rw [(q.at_ k c hc).2.2] at e; cases e
  · by_cases h : CellsOf fp (· ∈ br) a
    · rw [lay_in h] at e; exact e
    · rw [lay_out h] at e; exact E.fH a o e
  · by_cases h : CellsOf fp (fun k => k ∉ br ∧ k ≠ j) a
    · rw [lay_in h] at e; exact e
    · rw [lay_out h] at e; exact E.rH a o e
  · by_cases h : CellsOf fp (· ∈ br) a
    · obtain ⟨k, hk, c, hc, rfl⟩ := h
      rw [lay_out]
      · exact (q.at_ k c hc).2.2
      · rintro ⟨k', ⟨hk', _⟩, c', hc', e'⟩
        exact q.dj k k' (fun z => hk' (z ▸ hk)) c hc c' hc' e'.symm
    · rw [lay_out h] at e
      rw [lay_out]
      · exact E.dj a o e
      · rintro ⟨k', _, c', hc', rfl⟩
        rw [(q.at_ k' c' hc').2.1] at e; cases e
  · obtain ⟨_, h2, h3⟩ := q.at_ j c hc
    constructor
    · rw [lay_out]
      · exact h2
      · rintro ⟨k, hk, c', hc', e'⟩
        exact q.dj k j (fun z => hj (z ▸ hk)) c' hc' c hc e'
    · rw [lay_out]
      · exact h3
      · rintro ⟨k, ⟨_, hk⟩, c', hc', e'⟩
        exact q.dj k j hk c' hc' c hc e'
  · rw [lay_in ⟨k, hk, c, hc, rfl⟩]
    exact (q.at_ k c hc).1
  · rw [lay_in ⟨k, ⟨hk, hkj⟩, c, hc, rfl⟩]
    exact (q.at_ k c hc).1
/-- what comes back: Fz, Rz what is fixed and framed from there on -/
theorem call_back {F' R' Fz Rz : Hp} {br : List Nat} {j p : Nat} {ρ' : Rho} (E : Er G I F R ρ σ H) (q : Fp G I F R ρ σ H fp) (hbr : ∀ k ∈ br, ∀ c ∈ fp k, F' c.1 = some c.2) (hot : ∀ k, k ∉ br → k ≠ j → ∀ c ∈ fp k, R' c.1 = some c.2)
    (E2 : Er G I' F2 R2 ρ' σ' H2) (q2 : Fp G I' F2 R2 ρ' σ' H2 fp2) (eF : Ex F' F2) (eR : Ex R' R2)
    (z1 : Ex F Fz) (z2 : Ex Fz F2) (z3 : ∀ k ∈ br, ∀ c ∈ fp k, Fz c.1 = none) (z4 : Ex Rz R2) (z5 : ∀ k, k ∉ br → k ≠ j → ∀ c ∈ fp k, Rz c.1 = none)
    (hl : ρ2.length = ρ.length) (hk : ∀ k, k ≠ j → ρ2[k]? = ρ[k]?) (hs : ∀ s, ρ2[j]? = some s → SlotOk G I Fz j s σ[j]? (fp2 p)) (hn : ρ2[j]? = none → fp2 p = []) : Er G I Fz Rz ρ2 σ H2 := by
  have nz : ∀ a, R2 a = none → Rz a = none := fun a e => by
    cases z : Rz a with
    | none => rfl
    | some o => rw [z4 a o z] at e; cases e
  have nf : ∀ a, F2 a = none → Fz a = none := fun a e => by
    cases z : Fz a with
    | none => rfl
    | some o => rw [z2 a o z] at e; cases e
  have key : ∀ k, k ≠ j → ∀ c ∈ fp k, H2 c.1 = some c.2 ∧ Fz c.1 = none ∧ Rz c.1 = none ∧ (F2 c.1 ≠ none ∨ R2 c.1 ≠ none) := fun k hkj c hc => by
    by_cases hb : k ∈ br
    · have h2 := eF _ _ (hbr k hb c hc)
      exact ⟨E2.fH _ _ h2, z3 k hb c hc, nz _ (E2.dj _ _ h2), .inl (by rw [h2]; exact fun z => nomatch z)⟩
    · have h2 := eR _ _ (hot k hb hkj c hc)
      refine ⟨E2.rH _ _ h2, ?_, z5 k hb hkj c hc, .inr (by rw [h2]; exact fun z => nomatch z)⟩
      apply nf
      cases z : F2 c.1 with
      | none => rfl
      | some u => rw [E2.dj _ _ z] at h2; cases h2
  refine ⟨z2.trans E2.fH, z4.trans E2.rH, fun a o e => nz a (E2.dj a o (z2 a o e)), by rw [hl]; exact E.len, fun k => if k = j then fp2 p else fp k, fun k s h => ?_, fun k h => ?_, fun k c hc => ?_, fun k => ?_, fun k k' hkk c hc c' hc' => ?_⟩
  · by_cases e : k = j
    · subst e; rw [if_pos rfl]; exact hs s h
    · rw [if_neg e]; rw [hk k e] at h; exact (q.ok k s h).mono z1
  · by_cases e : k = j
    · subst e; rw [if_pos rfl]; exact hn h
    · rw [if_neg e]; rw [hk k e] at h; exact q.out k h
  · by_cases e : k = j
    · rw [if_pos e] at hc
      obtain ⟨h1, h2, h3⟩ := q2.at_ p c hc
      exact ⟨h1, nf _ h2, nz _ h3⟩
    · rw [if_neg e] at hc
      obtain ⟨h1, h2, h3, _⟩ := key k e c hc
      exact ⟨h1, h2, h3⟩
  · by_cases e : k = j
    · rw [if_pos e]; exact q2.nd p
    · rw [if_neg e]; exact q.nd k
  · have apart : ∀ k, k ≠ j → ∀ c ∈ fp k, ∀ c' ∈ fp2 p, c.1 ≠ c'.1 := fun k hkj c hc c' hc' z => by
      obtain ⟨_, h2, h3⟩ := q2.at_ p c' hc'
      rcases (key k hkj c hc).2.2.2 with h | h
      · exact h (z ▸ h2)
      · exact h (z ▸ h3)
    by_cases e : k = j
    · by_cases e' : k' = j
      · exact absurd (e.trans e'.symm) hkk
      · rw [if_pos e] at hc
        rw [if_neg e'] at hc'
        exact fun z => apart k' e' c' hc' c hc z.symm
    · by_cases e' : k' = j
      · rw [if_neg e] at hc
        rw [if_pos e'] at hc'
        exact apart k e c hc c' hc'
      · rw [if_neg e] at hc
        rw [if_neg e'] at hc'
        exact q.dj k k' hkk c hc c' hc'
def D.flat : D → Bool
  | .non => true
  | .bl _ => true
  | .int _ => true
  | .str _ => true
  | _ => false
def O.flat : O → Bool
  | .lst ds => ds.all D.flat
  | .l2 _ => false
  | .dk _ ds => ds.all D.flat
def RV.flat : RV → Bool
  | .fz d => d.flat
  | .ow _ => false
theorem Rp.flat {d : D} {v : V} (h : Rp G F d v) (hf : d.flat = true) : Rp G F2 d v := by
  cases d <;> first | (simpa only [Rp] using h) | (cases hf)
theorem Rps.flat : ∀ {ds : List D} {vs : List V}, Rps G F ds vs → ds.all D.flat = true → Rps G F2 ds vs
  | [], vs, h, _ => by rw [h.invn]; exact Rps.nil
  | d :: ds, vs, h, hf => by
    obtain ⟨v, vt, rfl, h1, h2⟩ := h.inv
    simp only [List.all_cons, Bool.and_eq_true] at hf
    exact Rps.cons (h1.flat hf.1) (Rps.flat h2 hf.2)
theorem OC.flat {o : O} {v : V} {cs : Cells} (h : OC G F o v cs) (hf : o.flat = true) : OC G F2 o v cs := by
  cases o with
  | lst ds =>
    obtain ⟨p, xs, h1, h2, h3⟩ := h
    exact ⟨p, xs, h1, h2, h3.flat hf⟩
  | l2 _ => cases hf
  | dk ks ds =>
    obtain ⟨p, xs, h1, h2, h3, h4⟩ := h
    exact ⟨p, xs, h1, h2, h3, h4.flat hf⟩
/-- the lent thing as it came back -/
def setIo (ρ : Rho) : List (Nat × Nat) → List O → Option Rho
  | [], [] => some ρ
  | [(_, j)], [o] => some (ρ.set j ((ρ.getD j .no).re o))
  | _, _ => none
def okIx (ms : List Md) (os : List OV) : Bool := match ioAt ms os 0 with
  | [] => true
  | [(_, j)] => !(brIx ms os).contains j
  | _ => false
def callRes (ρ1 : Rho) (ms : List Md) (os : List OV) : FO → Rs RV
  | .bad => .bad
  | .ok r ios => match setIo ρ1 (ioAt ms os 0) ios with
    | none => .bad
    | some ρ2 => if (brIx ms os).isEmpty || (r.flat && ios.all O.flat) then .ok r ρ2 else .bad
  | .ex x ios => match setIo ρ1 (ioAt ms os 0) ios with
    | none => .bad
    | some ρ2 => if (brIx ms os).isEmpty then .ex x ρ2 else .bad
def eCall (φ : FF) (ms : List Md) (a : AF) : EF := fun ρ => (a ρ).bind fun os ρ1 => match mkArgs ρ1 ms os with
  | none => .bad
  | some args => if okIx ms os then callRes ρ1 ms os (φ args) else .bad
theorem OvsOk.get {os : List OV} {vs : List V} (h : OvsOk G F σ os vs) : ∀ {i : Nat} {o : OV}, os[i]? = some o → ∃ v, vs[i]? = some v ∧ OvOk G F σ o v := by
  induction h with
  | nil => intro i o h; simp at h
  | @cons o v os vs a _ ih =>
    intro i o' h
    cases i with
    | zero =>
      simp only [List.getElem?_cons_zero, Option.some.injEq] at h
      subst h
      exact ⟨v, rfl, a⟩
    | succ i =>
      obtain ⟨w, h1, h2⟩ := ih (i := i) (by simpa using h)
      exact ⟨w, by simpa using h1, h2⟩
end
end VI

end
section
set_option Elab.async false
set_option linter.all false
set_option maxRecDepth 100000
namespace VI
open PySem L2
section
variable {G : Gx} {W : WX} {I I' : Nat → Option V} {F F2 R R2 H H2 : Hp} {ρ ρ2 : Rho} {σ σ' : St} {fp fp2 : Nat → Cells}
theorem rhoIo_one {o' : O} : ∀ {args : List FA} {p : Nat} {o : O}, args[p]? = some (.io o) → (∀ i o, args[i]? = some (.io o) → i = p) → (rhoIo args [o'])[p]? = some (.io o')
  | [], p, o, h, _ => by simp at h
  | .fz d :: as, 0, o, h, _ => by simp at h
  | .fz d :: as, p + 1, o, h, k => by
    simp only [rhoIo, List.getElem?_cons_succ]
    exact rhoIo_one (o := o) (by simpa using h) fun i o hi => by
      have := k (i + 1) o (by simpa using hi)
      omega
  | .io o1 :: as, 0, o, h, _ => by simp [rhoIo]
  | .io o1 :: as, p + 1, o, h, k => by
    have := k 0 o1 (by simp)
    omega
theorem addc_sub {cs : Cells} {R R' : Hp} (nd : (cs.map (·.1)).Nodup) (e : Ex R R') : Ex (addc cs R) (addc cs R') := fun a o h => by
  rcases addc_cases h with ⟨c, hc, rfl, rfl⟩ | ⟨h1, h2⟩
  · exact addc_in nd hc
  · rw [addc_not h1]; exact e a o h2
theorem call_ok {φ : FF} {ms : List Md} {os : List OV} {vs : List V} {args : List FA} (E : Er G I F R ρ σ H) (hv : OvsOk G F σ os vs) (hm : mkArgs ρ ms os = some args) (hok : okIx ms os = true) {Q : VK}
    (h : Post (okE G I F R σ Q) (exP G W I F R σ) (callRes ρ ms os (φ args))) : spF G os.length φ vs H Q (fun c d H' => W c d σ H') := by
  obtain ⟨fp, q⟩ := E.own
  have hlen := mkArgs_length hm
  have hvl := hv.length
  -- the lent slot, its place among the arguments (both beyond the ends where nothing is lent)
  obtain ⟨p, j, hj, hio, hout⟩ : ∃ p j, j ∉ brIx ms os ∧ (∀ i j', ms[i]? = some .io → os[i]? = some (.pk j') → i = p ∧ j' = j) ∧
      ((ioAt ms os 0 = [] ∧ j = ρ.length ∧ p = args.length) ∨ (ioAt ms os 0 = [(p, j)] ∧ ms[p]? = some .io ∧ os[p]? = some (.pk j))) := by
    unfold okIx at hok
    split at hok
    · rename_i hio
      refine ⟨args.length, ρ.length, fun z => ?_, fun i j' h1 h2 => ?_, .inl ⟨hio, rfl, rfl⟩⟩
      · have key : ∀ (ms : List Md) (os : List OV) (args : List FA) (j : Nat), mkArgs ρ ms os = some args → j ∈ brIx ms os → ∃ o, ρ.own j = some o := by
          intro ms
          induction ms with
          | nil => intro os args j _ h; cases os <;> simp [brIx] at h
          | cons m ms ih =>
            intro os args j h1 h2
            cases os with
            | nil => cases m <;> simp [brIx] at h2
            | cons o os =>
              obtain ⟨a0, h3, h4⟩ := Option.bind_eq_some_iff.mp h1
              obtain ⟨as, h5, _⟩ := Option.map_eq_some_iff.mp h4
              cases m with
              | br =>
                cases o with
                | dt d => exact ih os as j h5 (by simpa [brIx] using h2)
                | pk j' =>
                  simp only [brIx, List.mem_cons] at h2
                  rcases h2 with rfl | h2
                  · obtain ⟨o, ho, _⟩ := Option.map_eq_some_iff.mp (show (ρ.own j).map _ = some a0 from h3)
                    exact ⟨o, ho⟩
                  · exact ih os as j h5 h2
              | v => exact ih os as j h5 (by cases o <;> simpa [brIx] using h2)
              | io => exact ih os as j h5 (by cases o <;> simpa [brIx] using h2)
        obtain ⟨o, ho⟩ := key ms os args _ hm z
        unfold Rho.own at ho
        rw [List.getElem?_eq_none (Nat.le_refl _)] at ho
        cases ho
      · have := ioAt_mem (p := 0) h1 h2
        rw [hio] at this; cases this
    · rename_i p j hio
      obtain ⟨i, h1, h2, h3⟩ := ioAt_of (ms := ms) (os := os) (p := 0) (x := p) (j := j) (by rw [hio]; simp)
      have : p = i := by omega
      subst this
      refine ⟨p, j, by simpa using hok, fun i j' h4 h5 => ?_, .inr ⟨hio, h2, h3⟩⟩
      have := ioAt_mem (p := 0) h4 h5
      rw [hio] at this
      simp at this
      exact this
    · cases hok
  obtain ⟨F', R', eF', eR', eFF, eRR, eFH, eRH, dj', hcj, hcb, hco⟩ := call_out E q (brIx ms os) j hj
  have hget : ∀ i a, args[i]? = some a → ∃ m o v, ms[i]? = some m ∧ os[i]? = some o ∧ mkArg ρ m o = some a ∧ vs[i]? = some v ∧ OvOk G F σ o v := fun i a hi => by
    obtain ⟨m, o, h1, h2, h3⟩ := mkArgs_get hm hi
    obtain ⟨v, h4, h5⟩ := hv.get h2
    exact ⟨m, o, v, h1, h2, h3, h4, h5⟩
  have Ec : Er G (fun i => vs[i]?) F' R' (rho0 args) (vs.map some) H := by
    refine ⟨eFH, eRH, dj', by simp [rho0, hlen, hvl], fun i => if i = p then fp j else [], fun i s hs => ?_, fun i hi => ?_, fun i c hc => ?_, fun i => ?_, fun i k hik c hc c' hc' => ?_⟩
    · rw [get_rho0] at hs
      obtain ⟨a, ha, rfl⟩ := Option.map_eq_some_iff.mp hs
      obtain ⟨m, o, v, h1, h2, h3, h4, h5⟩ := hget i a ha
      have hvs : (vs.map some)[i]? = some (some v) := by rw [List.getElem?_map, h4]; rfl
      have hne : m ≠ .io → i ≠ p := fun hm' e => by
        rcases hout with ⟨_, _, hp⟩ | ⟨_, hp, _⟩
        · have := (List.getElem?_eq_some_iff.mp ha).1
          omega
        · rw [e, hp] at h1
          exact hm' (Option.some.inj h1).symm
      rw [hvs]
      cases m with
      | v =>
        cases o with
        | pk _ => cases h3
        | dt d =>
          cases h3
          rw [if_neg (hne (fun z => nomatch z))]
          exact ⟨rfl, v, rfl, Rp.mono eFF d v h5⟩
      | br =>
        cases o with
        | dt d =>
          cases h3
          rw [if_neg (hne (fun z => nomatch z))]
          exact ⟨rfl, v, rfl, Rp.mono eFF d v h5⟩
        | pk k =>
          obtain ⟨o, ho, rfl⟩ := Option.map_eq_some_iff.mp (show (ρ.own k).map _ = some a from h3)
          rw [if_neg (hne (fun z => nomatch z))]
          obtain ⟨s0, hs0, ho⟩ := Option.bind_eq_some_iff.mp ho
          obtain ⟨v', h6, h7, _⟩ := (q.ok k s0 hs0).own ho
          have h5 : σ[k]? = some (some v) := h5
          rw [h5] at h6
          cases h6
          have hb := brIx_mem h1 h2
          refine ⟨rfl, v, rfl, Rp.mono (fun a o' e => ?_) _ _ (h7.rp (q.nd k) (addc_ex fun c hc => (q.at_ k c hc).2.1))⟩
          rcases addc_cases e with ⟨c, hc, rfl, rfl⟩ | ⟨_, e⟩
          · exact hcb k hb c hc
          · exact eFF _ _ e
      | io =>
        cases o with
        | dt _ => cases h3
        | pk k =>
          obtain ⟨o, ho, rfl⟩ := Option.map_eq_some_iff.mp (show (ρ.own k).map _ = some a from h3)
          obtain ⟨e1, e2⟩ := hio i k h1 h2
          subst e1 e2
          rw [if_pos rfl]
          obtain ⟨s0, hs0, ho⟩ := Option.bind_eq_some_iff.mp ho
          obtain ⟨v', h6, h7, _⟩ := (q.ok k s0 hs0).own ho
          have h5 : σ[k]? = some (some v) := h5
          rw [h5] at h6
          cases h6
          exact ⟨v, rfl, h4, h7.mono eFF⟩
    · by_cases e : i = p
      · rw [if_pos e]
        rcases hout with ⟨_, hp, _⟩ | ⟨_, hp, hp'⟩
        · subst hp; exact q.out _ (List.getElem?_eq_none (Nat.le_refl _))
        · have h1 := List.getElem?_eq_none_iff.mp hi
          have h2 := (List.getElem?_eq_some_iff.mp hp').1
          simp only [rho0, List.length_map] at h1
          omega
      · rw [if_neg e]
    · by_cases e : i = p
      · rw [if_pos e] at hc
        obtain ⟨h1, h2⟩ := hcj c hc
        exact ⟨(q.at_ j c hc).1, h1, h2⟩
      · rw [if_neg e] at hc; cases hc
    · by_cases e : i = p
      · rw [if_pos e]; exact q.nd j
      · rw [if_neg e]; exact List.nodup_nil
    · by_cases e : i = p
      · by_cases e' : k = p
        · exact absurd (e.trans e'.symm) hik
        · rw [if_neg e'] at hc'; cases hc'
      · rw [if_neg e] at hc; cases hc
  -- what comes back
  have back : ∀ (ios : List O) (ρ2 : Rho) (F2 R2 H2 Fz Rz : Hp), setIo ρ (ioAt ms os 0) ios = some ρ2 → Er G (fun i => vs[i]?) F2 R2 (rhoIo args ios) (vs.map some) H2 → Ex F' F2 → Ex R' R2 → Ex F Fz → Ex Fz F2 → (∀ k ∈ brIx ms os, ∀ c ∈ fp k, Fz c.1 = none) →
      Ex Rz R2 → (∀ k, k ∉ brIx ms os → k ≠ j → ∀ c ∈ fp k, Rz c.1 = none) → (∀ o ∈ ios, ∀ v cs, OC G F2 o v cs → OC G Fz o v cs) → Er G I Fz Rz ρ2 σ H2 := by
    intro ios ρ2 F2 R2 H2 Fz Rz hset E2 e1 e2 z1 z2 z3 z4 z5 hoc
    obtain ⟨fp2, q2⟩ := E2.own
    rcases hout with ⟨hio', hj', hp'⟩ | ⟨hio', hpm, hpo⟩
    · rw [hio'] at hset
      cases ios with
      | nil =>
        cases hset
        refine call_back (p := p) E q hcb hco E2 q2 e1 e2 z1 z2 z3 z4 z5 rfl (fun _ _ => rfl) (fun s hs => ?_) (fun _ => ?_)
        · rw [hj', List.getElem?_eq_none (Nat.le_refl _)] at hs; cases hs
        · exact q2.out p (List.getElem?_eq_none (by rw [rhoIo_length]; omega))
      | cons o os => cases hset
    · rw [hio'] at hset
      cases ios with
      | nil => cases hset
      | cons o' os' =>
        cases os' with
        | cons _ _ => cases hset
        | nil =>
          cases hset
          have hpa : p < args.length := by rw [hlen]; exact (List.getElem?_eq_some_iff.mp hpo).1
          have ha := List.getElem?_eq_getElem hpa
          obtain ⟨m, o, v, h1, h2, h3, h4, h5⟩ := hget p _ ha
          rw [hpm] at h1; cases h1
          rw [hpo] at h2; cases h2
          obtain ⟨o0, ho0, h3⟩ := Option.map_eq_some_iff.mp (show (ρ.own j).map _ = some _ from h3)
          obtain ⟨s0, hs0, ho0⟩ := Option.bind_eq_some_iff.mp ho0
          have hall : ∀ i o, args[i]? = some (.io o) → i = p := fun i o hi => by
            obtain ⟨m, o1, v1, g1, g2, g3, _, _⟩ := hget i _ hi
            cases m with
            | v => cases o1 <;> cases g3
            | br =>
              cases o1 with
              | dt _ => cases g3
              | pk k =>
                obtain ⟨_, _, g⟩ := Option.map_eq_some_iff.mp (show (ρ.own k).map _ = some _ from g3)
                cases g
            | io =>
              cases o1 with
              | dt _ => cases g3
              | pk k => exact (hio i k g1 g2).1
          have hri : (rhoIo args [o'])[p]? = some (.io o') := rhoIo_one (o := o0) (by rw [ha, ← h3]) hall
          obtain ⟨v', g1, g2, g3⟩ := q2.ok p _ hri
          have g2 : vs[p]? = some v' := g2
          rw [h4] at g2; cases g2
          obtain ⟨v'', g4, g5, g6⟩ := ((q.ok j s0 hs0).mono z1).own ho0
          have h5 : σ[j]? = some (some v) := h5
          rw [h5] at g4; cases g4
          refine call_back (p := p) E q hcb hco E2 q2 e1 e2 z1 z2 z3 z4 z5 (by simp) (fun k hk => List.getElem?_set_ne (Ne.symm hk)) (fun s hs => ?_) (fun hn => ?_)
          · have := getset_self hs
            subst this
            have e0 : ρ.getD j .no = s0 := by simp [List.getD, hs0]
            rw [e0]
            exact g6 o' _ (hoc o' (List.mem_cons_self ..) _ _ g3)
          · have := List.getElem?_eq_none_iff.mp hn
            have h9 := (List.getElem?_eq_some_iff.mp hs0).1
            simp at this
            omega
  have rn : ∀ k, ∀ c ∈ fp k, R c.1 = none := fun k c hc => (q.at_ k c hc).2.2
  refine ⟨hvl, F', R', args, hlen, Ec, ?_⟩
  cases hφ : φ args with
  | bad => rw [hφ] at h; exact h.elim
  | ex x ios =>
    rw [hφ] at h
    simp only [callRes] at h
    split at h
    · exact h.elim
    · rename_i ρ2 hset
      split at h
      · rename_i hb
        intro c d F2 H2 e2 q2 E2
        have hb' : brIx ms os = [] := by simpa using hb
        refine h c d F2 H2 (eFF.trans e2) q2 (back ios ρ2 F2 R' H2 F2 R hset E2 e2 (Ex.refl _) (eFF.trans e2) (Ex.refl _) (fun k hk => by rw [hb'] at hk; cases hk) eRR (fun k _ _ c hc => rn k c hc) fun o _ v cs z => z)
      · exact h.elim
  | ok r ios =>
    rw [hφ] at h
    simp only [callRes] at h
    split at h
    · exact h.elim
    · rename_i ρ2 hset
      split at h
      · rename_i hb
        intro v F2 R2 H2 e2 q2 E2
        have eR2 : Ex R' R2 := q2.ex
        by_cases hb' : brIx ms os = []
        · have nb : ∀ k ∈ brIx ms os, ∀ c ∈ fp k, F2 c.1 = none := fun k hk => by rw [hb'] at hk; cases hk
          cases r with
          | fz d =>
            obtain ⟨e3, q3⟩ := q2
            subst e3
            exact h v F2 R H2 (eFF.trans e2) ⟨rfl, q3⟩ (back ios ρ2 F2 R2 H2 F2 R hset E2 e2 eR2 (eFF.trans e2) (Ex.refl _) nb (eRR.trans eR2) (fun k _ _ c hc => rn k c hc) fun o _ v cs z => z)
          | ow o =>
            obtain ⟨cs, c1, c2, c3, c4⟩ := q2
            subst c2
            have cR : ∀ c ∈ cs, R c.1 = none := fun c hc => by
              cases z : R c.1 with
              | none => rfl
              | some u => have := c4 c hc; rw [eRR _ _ z] at this; cases this
            refine h v F2 (addc cs R) H2 (eFF.trans e2) ⟨cs, c1, rfl, c3, cR⟩ (back ios ρ2 F2 _ H2 F2 (addc cs R) hset E2 e2 eR2 (eFF.trans e2) (Ex.refl _) nb (addc_sub c3 eRR) (fun k hk hkj c hc => ?_) fun o _ v cs z => z)
            rw [addc_not fun c' hc' z => ?_]
            · exact rn k c hc
            · have h1 := hco k hk hkj c hc
              rw [← z, c4 c' hc'] at h1; cases h1
        · have hf : r.flat = true ∧ ios.all O.flat = true := by
            simpa [hb'] using hb
          cases r with
          | ow o => exact absurd hf.1 (by simp [RV.flat])
          | fz d =>
            obtain ⟨e3, q3⟩ := q2
            subst e3
            exact h v F R H2 (Ex.refl F) ⟨rfl, q3.flat hf.1⟩ (back ios ρ2 F2 R2 H2 F R hset E2 e2 eR2 (Ex.refl F) (eFF.trans e2) (fun k _ c hc => (q.at_ k c hc).2.1) (eRR.trans eR2) (fun k _ _ c hc => rn k c hc) fun o ho v cs z => z.flat (List.all_eq_true.mp hf.2 o ho))
      · exact h.elim
theorem tD_call {φ : FF} {ms : List Md} {n : Nat} {a : AF} (hn : ∀ ρ os ρ', a ρ = .ok os ρ' → os.length = n) : ∀ σ H Q, tD G W (eCall φ ms a) σ H Q → tAs G W a σ H fun vs H1 => spF G n φ vs H1 Q (fun c d H' => W c d σ H') := fun σ H Q ⟨I, F, R, ρ, E, h⟩ => by
  refine ⟨I, F, R, ρ, E, ?_⟩
  unfold eCall at h
  cases ha : a ρ with
  | bad => rw [ha] at h; exact h
  | ex x ρ1 => rw [ha] at h; exact h
  | ok os ρ1 =>
    rw [ha] at h
    intro vs F2 H2 e2 q2 E2
    have hn' := hn ρ os ρ1 ha
    subst hn'
    have h : Post (okE G I F R σ Q) (exP G W I F R σ) (match mkArgs ρ1 ms os with
      | none => .bad
      | some args => if okIx ms os then callRes ρ1 ms os (φ args) else .bad) := h
    split at h
    · exact h.elim
    · rename_i args hm
      split at h
      · rename_i hok
        exact call_ok E2 q2 hm hok (postE.mono e2 h)
      · exact h.elim
/-- a list of arguments of a given length -/
def AF.len (a : AF) (n : Nat) : Prop := ∀ ρ os ρ', a ρ = .ok os ρ' → os.length = n
theorem len_nil : AF.len aNil 0 := fun ρ os ρ' h => by cases h; rfl
theorem len_cons {g : OF} {a : AF} {n : Nat} (h : AF.len a n) : AF.len (aCons g a) (n + 1) := fun ρ os ρ' k => by
  unfold aCons at k
  cases hg : g ρ with
  | bad => rw [hg] at k; cases k
  | ex x ρ1 => rw [hg] at k; cases k
  | ok o ρ1 =>
    rw [hg] at k
    have k : (a ρ1).bind _ = .ok os ρ' := k
    cases ha : a ρ1 with
    | bad => rw [ha] at k; cases k
    | ex x ρ2 => rw [ha] at k; cases k
    | ok os' ρ2 =>
      rw [ha] at k
      have := h _ _ _ ha
      cases k
      simp [this]
end
section
variable {G : Gx} {W : WX} {X : Cx} {k : Nat} {f : Addr} {fd : FuncData} {ps : List Str} {x : Str} {p pos : Pos} {e : Expr} {es : List Expr}
theorem de_call {φ : FF} (ms : List Md) {a : AF} (Fk : FnOk X.prog X.w X.K X.mg X.base (L2.CX X.prog X.w) k f fd ps (spF G ps.length φ)) (tk : Takes X W) (hr : Room k X.A) (hg : Gl X x) (hm : X.mg x = some (.ref f)) (hk : PySem.W.keepIn X.K (.ref f) = true) (hb : Binds X.K fd ps [])
    (ha : DA X G W (e :: es) a) (hn : AF.len a ps.length) (hdb : (x == ("__debug__" : Str)) = false := by decide) (he : starEach (e :: es) X.env = (false, eval e X.env) :: starEach es X.env := by rfl) (hpl : (backTo pos (starEach es X.env)).any (·.1) = false := by rfl) :
    DE X G W (.Call (.Name x p) (e :: es) [] pos) (eCall φ ms a) :=
  de_of (pe_callSD (E := fun σ => WE W σ) (dvs := []) (ds := []) Fk hr hg hm hk hb .nil (fun σ => passAt tk σ) ha hdb he hpl) fun σ H Q h => by
    have := tD_call hn σ H Q h
    obtain ⟨I, F, R, ρ, E, h⟩ := this
    exact ⟨I, F, R, ρ, E, h.mono (fun os ρ' h vs F2 H2 e2 q2 E2 => by
      show spF G ps.length φ (vs ++ []) H2 Q _
      rw [List.append_nil]
      exact h vs F2 H2 e2 q2 E2) fun _ _ h => h⟩
theorem de_call0 {φ : FF} (Fk : FnOk X.prog X.w X.K X.mg X.base (L2.CX X.prog X.w) k f fd [] (spF G 0 φ)) (tk : Takes X W) (hr : Room k X.A) (hg : Gl X x) (hm : X.mg x = some (.ref f)) (hk : PySem.W.keepIn X.K (.ref f) = true) (hb : Binds X.K fd [] [])
    (hdb : (x == ("__debug__" : Str)) = false := by decide) : DE X G W (.Call (.Name x p) [] [] pos) (fun ρ => (eCall φ [] aNil ρ).nox) :=
  de_of (pe_call0 (CX := L2.CX X.prog X.w) (E := E0) (dvs := []) (ds := []) Fk hr hg hm hk hb .nil passL hdb) fun σ H Q ⟨I, F, R, ρ, E, h⟩ => by
    have := tD_call (G := G) (W := WF) (φ := φ) (ms := []) len_nil σ H Q ⟨I, F, R, ρ, E, h.nox.mono (fun _ _ h => h) fun _ _ h => h.elim⟩
    obtain ⟨I, F, R, ρ, E, h⟩ := this
    exact h [] F H (Ex.refl F) .nil E
end
end VI

end
section
set_option Elab.async false
set_option linter.all false
set_option maxRecDepth 100000
namespace VI
open PySem L2 PySem.Spec PyProof.Rows

/-! ### data without objects -/
mutual
def D.pd : D → PyData
  | .non => .none
  | .bl b => .bool b
  | .int i => .int i
  | .str s => .str s
  | .lst ds => .list (D.pds ds)
  | .tup ds => .tuple (D.pds ds)
  | .wtup _ => .none
  | .scr _ => .none
  | .obj _ _ => .none
  | .fn _ => .none
  | .ty _ => .none
  | .dk _ _ => .none
def D.pds : List D → List PyData
  | [] => []
  | d :: ds => d.pd :: D.pds ds
end
theorem pds_map : ∀ ds : List D, D.pds ds = ds.map D.pd
  | [] => by simp [D.pds]
  | d :: ds => by simp [D.pds, pds_map ds]
/-- data at most n deep -/
def D.le : Nat → D → Bool
  | _, .non => true
  | _, .bl _ => true
  | _, .int _ => true
  | _, .str s => PyData.canLay0 (.str s)
  | n + 1, .lst ds => ds.all (D.le n)
  | n + 1, .tup ds => ds.all (D.le n)
  | _, _ => false
theorem le_ok : ∀ (n : Nat) (d : D), D.le n d = true → d.pd.canLay0 = true ∧ d.pd.depth ≤ n := by
  have lists : ∀ (n : Nat), (∀ d : D, D.le n d = true → d.pd.canLay0 = true ∧ d.pd.depth ≤ n) → ∀ ds : List D, ds.all (D.le n) = true → PyData.canLayAll0 (D.pds ds) = true ∧ PyData.depthAll (D.pds ds) ≤ n := by
    intro n ih ds
    induction ds with
    | nil => intro _; simp [D.pds, PyData.canLayAll0, PyData.depthAll]
    | cons d ds ihd =>
      intro h
      simp only [List.all_cons, Bool.and_eq_true] at h
      obtain ⟨h1, h2⟩ := ih d h.1
      obtain ⟨h3, h4⟩ := ihd h.2
      simp only [D.pds, PyData.canLayAll0, PyData.depthAll, Bool.and_eq_true]
      exact ⟨⟨h1, h3⟩, by omega⟩
  intro n
  induction n with
  | zero =>
    intro d h
    cases d with
    | str s => exact ⟨h, by simp [D.pd, PyData.depth]⟩
    | lst _ => simp [D.le] at h
    | tup _ => simp [D.le] at h
    | wtup _ => simp [D.le] at h
    | scr _ => simp [D.le] at h
    | obj _ _ => simp [D.le] at h
    | fn _ => simp [D.le] at h
    | ty _ => simp [D.le] at h
    | dk _ _ => simp [D.le] at h
    | _ => simp [D.pd, PyData.depth, PyData.canLay0]
  | succ n ih =>
    intro d h
    cases d with
    | str s => exact ⟨h, by simp [D.pd, PyData.depth]⟩
    | lst ds =>
      obtain ⟨h1, h2⟩ := lists n ih ds (by simpa [D.le] using h)
      simp only [D.pd, PyData.canLay0, PyData.depth]
      exact ⟨h1, by omega⟩
    | tup ds =>
      obtain ⟨h1, h2⟩ := lists n ih ds (by simpa [D.le] using h)
      simp only [D.pd, PyData.canLay0, PyData.depth]
      exact ⟨h1, by omega⟩
    | wtup _ => simp [D.le] at h
    | scr _ => simp [D.le] at h
    | obj _ _ => simp [D.le] at h
    | fn _ => simp [D.le] at h
    | ty _ => simp [D.le] at h
    | dk _ _ => simp [D.le] at h
    | _ => simp [D.pd, PyData.depth, PyData.canLay0]
def D.okd (d : D) : Bool := D.le 12 d
theorem shaped_of {d : D} {n : Nat} (hn : n ≤ 64) (h : D.le n d = true) : SeqAt.shaped d.pd = true := by
  obtain ⟨h1, h2⟩ := le_ok n d h
  unfold SeqAt.shaped
  rw [Bool.and_eq_true]
  exact ⟨h1, by simpa using Nat.le_trans h2 hn⟩
section
variable {G : Gx} {F H : Hp}
theorem rp_dp : ∀ (n : Nat) (d : D) (v : V), D.le n d = true → Rp G F d v → Dp G.K F v d.pd := by
  have lists : ∀ (n : Nat), (∀ (d : D) (v : V), D.le n d = true → Rp G F d v → Dp G.K F v d.pd) → ∀ (ds : List D) (vs : List V), ds.all (D.le n) = true → Rps G F ds vs → DpAll G.K F vs (D.pds ds) := by
    intro n ih ds
    induction ds with
    | nil => intro vs _ h; rw [h.invn]; exact .nil
    | cons d ds ihd =>
      intro vs h r
      obtain ⟨v, vt, rfl, h1, h2⟩ := r.inv
      simp only [List.all_cons, Bool.and_eq_true] at h
      exact .cons (ih d v h.1 h1) (ihd vt h.2 h2)
  intro n
  induction n with
  | zero =>
    intro d v h r
    cases d <;> first | (simp [D.le] at h; done) | (simp only [Rp] at r; subst r; simp only [D.pd]; constructor)
  | succ n ih =>
    intro d v h r
    cases d with
    | lst ds =>
      simp only [Rp] at r
      obtain ⟨a, xs, rfl, h2, h3⟩ := r
      exact .lst (SqL.of h2) (lists n ih ds xs (by simpa [D.le] using h) h3)
    | tup ds =>
      simp only [Rp] at r
      obtain ⟨a, xs, rfl, h2, h3⟩ := r
      exact .tup h2.sq (lists n ih ds xs (by simpa [D.le] using h) h3)
    | wtup _ => simp [D.le] at h
    | scr _ => simp [D.le] at h
    | obj _ _ => simp [D.le] at h
    | fn _ => simp [D.le] at h
    | ty _ => simp [D.le] at h
    | dk _ _ => simp [D.le] at h
    | _ => simp only [Rp] at r; subst r; simp only [D.pd]; constructor
theorem rps_dp {n : Nat} : ∀ {ds : List D} {vs : List V}, ds.all (D.le n) = true → Rps G F ds vs → DpAll G.K F vs (D.pds ds)
  | [], vs, _, h => by rw [h.invn]; exact .nil
  | d :: ds, vs, h, r => by
    obtain ⟨v, vt, rfl, h1, h2⟩ := r.inv
    simp only [List.all_cons, Bool.and_eq_true] at h
    exact .cons (rp_dp n d v h.1 h1) (rps_dp h.2 h2)
theorem vw_dp {n : Nat} {d : D} {v : V} (e : Ex F H) (h : D.le n d = true) (r : Vw G F H d v) : Dp G.K H v d.pd := by
  cases d with
  | lst ds =>
    cases n with
    | zero => simp [D.le] at h
    | succ n =>
      obtain ⟨a, xs, rfl, h2, h3⟩ := r
      exact .lst (SqL.of h2) (rps_dp (by simpa [D.le] using h) (Rps.mono e _ _ h3))
  | dk _ _ => cases n <;> simp [D.le] at h
  | _ => exact rp_dp n _ v h (Rp.mono e _ v r)
end

/-! ### comparisons -/
def D.eqb (d e : D) : Bool := PyData.eqv d.pd e.pd
def semEq : D → D → Option PR := fun d e => if d.okd && e.okd then some (.sc (.bl (D.eqb d e))) else none
def semNe : D → D → Option PR := fun d e => if d.okd && e.okd then some (.sc (.bl (!D.eqb d e))) else none
section
variable {G : Gx}
theorem pr_eq : PrOk2 G (rEqD G.K) semEq := fun F H x y d e p Q ex hx hy hs hp => by
  unfold semEq at hs
  split at hs
  · rename_i h
    rw [Bool.and_eq_true] at h
    cases hs
    exact ⟨_, _, vw_dp ex h.1 hx, vw_dp ex h.2 hy, shaped_of (by decide) h.1, shaped_of (by decide) h.2, hp _ (by simp only [Rp]; rfl)⟩
  · cases hs
theorem pr_ne : PrOk2 G (rNeD G.K) semNe := fun F H x y d e p Q ex hx hy hs hp => by
  unfold semNe at hs
  split at hs
  · rename_i h
    rw [Bool.and_eq_true] at h
    cases hs
    exact ⟨_, _, vw_dp ex h.1 hx, vw_dp ex h.2 hy, shaped_of (by decide) h.1, shaped_of (by decide) h.2, hp _ (by simp only [Rp]; rfl)⟩
  · cases hs
/-- a comparison of ints -/
def semI (f : Int → Int → Bool) : D → D → Option PR
  | .int i, .int j => some (.sc (.bl (f i j)))
  | _, _ => none
theorem pr_I {f : Int → Int → Bool} : PrOk2 G (rI0 fun i j => .bl (f i j)) (semI f) := fun F H x y d e p Q ex hx hy hs hp => by
  unfold semI at hs
  split at hs
  · cases hs
    exact ⟨_, _, by simpa only [Vw, Rp] using hx, by simpa only [Vw, Rp] using hy, hp _ (by simp only [Rp])⟩
  · cases hs
/-- arithmetic of ints under a condition -/
def semA (c : Int → Int → Bool) (f : Int → Int → Int) : D → D → Option PR
  | .int i, .int j => if c i j then some (.sc (.int (f i j))) else none
  | _, _ => none
theorem pr_A {C : Int → Int → Prop} {c : Int → Int → Bool} {f : Int → Int → Int} (hc : ∀ i j, c i j = true → C i j) : PrOk2 G (rI C fun i j => .int (f i j)) (semA c f) := fun F H x y d e p Q ex hx hy hs hp => by
  unfold semA at hs
  split at hs
  · split at hs
    · rename_i h
      cases hs
      exact ⟨_, _, by simpa only [Vw, Rp] using hx, by simpa only [Vw, Rp] using hy, hc _ _ h, hp _ (by simp only [Rp])⟩
    · cases hs
  · cases hs
theorem PrOk2.or {r r' : R2} {s s' : D → D → Option PR} (h : PrOk2 G r s) (h' : PrOk2 G r' s') : PrOk2 G (fun x y H Q => r x y H Q ∨ r' x y H Q) (fun d e => (s d e).or (s' d e)) := fun F H x y d e p Q ex hx hy hs hp => by
  cases hd : s d e with
  | some q => 
    simp only [hd, Option.some_or] at hs
    cases hs
    exact .inl (h F H x y d e _ Q ex hx hy hd hp)
  | none =>
    simp only [hd, Option.none_or] at hs
    exact .inr (h' F H x y d e p Q ex hx hy hs hp)
/-! +  -/
def semCatS : D → D → Option PR
  | .str a, .str b => if a.length + b.length ≤ 1000000 then some (.sc (.str (a ++ b))) else none
  | _, _ => none
def semCatL : D → D → Option PR
  | .lst a, .lst b => if a.length + b.length ≤ 1000000 then some (.nl (a ++ b)) else none
  | _, _ => none
def semCatT : D → D → Option PR
  | .tup a, .tup b => if a.length + b.length ≤ 1000000 then (if a.isEmpty then some (.sc (.tup b)) else if b.isEmpty then some (.sc (.tup a)) else some (.nt (a ++ b))) else none
  | _, _ => none
def semAddI : D → D → Option PR
  | .int i, .int j => some (.sc (.int (i + j)))
  | _, _ => none
theorem pr_addI : PrOk2 G (rI0 fun i j => .int (i + j)) semAddI := fun F H x y d e p Q ex hx hy hs hp => by
  unfold semAddI at hs
  split at hs
  · cases hs
    exact ⟨_, _, by simpa only [Vw, Rp] using hx, by simpa only [Vw, Rp] using hy, hp _ (by simp only [Rp])⟩
  · cases hs
theorem pr_catL : PrOk2 G rCat semCatL := fun F H x y d e p Q ex hx hy hs hp => by
  unfold semCatL at hs
  split at hs
  · split at hs
    · rename_i h
      cases hs
      obtain ⟨a, xs, rfl, h2, h3⟩ := hx
      obtain ⟨b, ys, rfl, h4, h5⟩ := hy
      exact ⟨a, b, xs, ys, rfl, rfl, h2, h4, by rw [h3.length, h5.length, sizeLine_eq]; omega, fun q hq => hp q _ (h3.append h5) hq⟩
    · cases hs
  · cases hs
theorem vw_tup {F H : Hp} {ds : List D} {v : V} (e : Ex F H) (h : Vw G F H (.tup ds) v) : ∃ a xs, v = .ref a ∧ SqT G.K H a xs ∧ Rps G F ds xs := by
  have h : Rp G F (.tup ds) v := h
  simp only [Rp] at h
  obtain ⟨a, xs, h1, h2, h3⟩ := h
  exact ⟨a, xs, h1, ex_t e h2.sq, h3⟩
theorem pr_catT : PrOk2 G (rCatF G.K) semCatT := fun F H x y d e p Q ex hx hy hs hp => by
  unfold semCatT at hs
  split at hs
  · split at hs
    · rename_i h
      have hx' := hx
      have hy' := hy
      obtain ⟨a, xs, rfl, h2, h3⟩ := vw_tup ex hx
      obtain ⟨b, ys, rfl, h4, h5⟩ := vw_tup ex hy
      refine ⟨a, b, xs, ys, rfl, rfl, h2, h4, by rw [h3.length, h5.length, sizeLine_eq]; omega, fun e => ?_, fun e e' => ?_, fun e e' q o hd hq => ?_⟩
      · subst e
        have hl := h3.length
        split at hs
        · cases hs; exact hp _ hy'
        · rename_i hne
          exact absurd (List.isEmpty_iff.mpr (List.length_eq_zero_iff.mp hl.symm)) hne
      · subst e'
        have hl := h5.length
        have hl3 := h3.length
        split at hs
        · rename_i he
          rw [List.isEmpty_iff.mp he] at hl3
          exact absurd (List.length_eq_zero_iff.mp hl3) e
        · split at hs
          · cases hs; exact hp _ hx'
          · rename_i hne
            exact absurd (List.isEmpty_iff.mpr (List.length_eq_zero_iff.mp hl.symm)) hne
      · have hl3 := h3.length
        have hl5 := h5.length
        split at hs
        · rename_i he
          rw [List.isEmpty_iff.mp he] at hl3
          exact absurd (List.length_eq_zero_iff.mp hl3) e
        · split at hs
          · rename_i he
            rw [List.isEmpty_iff.mp he] at hl5
            exact absurd (List.length_eq_zero_iff.mp hl5) e'
          · cases hs
            exact hp q _ o hd (h3.append h5) hq
    · cases hs
  · cases hs
def semAdd : D → D → Option PR := fun d e => (semAddI d e).or ((semCatL d e).or (semCatT d e))
theorem op_addA {X : Cx} : OpR X (binaryOp .Add) (fun x y H Q => rI0 (fun i j => .int (i + j)) x y H Q ∨ rCat x y H Q ∨ rCatF X.K x y H Q) := op_add.or (op_cat.or op_catF)
theorem pr_add : PrOk2 G (fun x y H Q => rI0 (fun i j => .int (i + j)) x y H Q ∨ rCat x y H Q ∨ rCatF G.K x y H Q) semAdd := pr_addI.or (pr_catL.or pr_catT)
def semSub : D → D → Option PR
  | .int i, .int j => some (.sc (.int (i - j)))
  | _, _ => none
theorem pr_sub : PrOk2 G (rI0 fun i j => .int (i - j)) semSub := fun F H x y d e p Q ex hx hy hs hp => by
  unfold semSub at hs
  split at hs
  · cases hs
    exact ⟨_, _, by simpa only [Vw, Rp] using hx, by simpa only [Vw, Rp] using hy, hp _ (by simp only [Rp])⟩
  · cases hs
def cMul (i j : Int) : Bool := decide (i.natAbs < 18446744073709551616) || decide (j.natAbs < 18446744073709551616)
theorem cMul_ok {i j : Int} (h : cMul i j = true) : CMul i j := by
  unfold cMul at h
  rw [Bool.or_eq_true] at h
  rcases h with h | h
  · have := of_decide_eq_true h
    exact .inl (by omega)
  · have := of_decide_eq_true h
    exact .inr (by omega)
def semRep : D → D → Option PR
  | .lst a, .int k => if decide (k ≤ 100000) && decide (-100000 ≤ k) && decide (a.length * k.toNat ≤ 1000000) then some (.nl (List.replicate k.toNat a).flatten) else none
  | _, _ => none
theorem Rps.rep {F : Hp} {ds : List D} {xs : List V} (h : Rps G F ds xs) : ∀ k : Nat, Rps G F (List.replicate k ds).flatten (List.replicate k xs).flatten
  | 0 => by simpa using Rps.nil
  | k + 1 => by
    rw [List.replicate_succ, List.replicate_succ, List.flatten_cons, List.flatten_cons]
    exact h.append (Rps.rep h k)
end
end VI

end
section
set_option Elab.async false
set_option linter.all false
set_option maxRecDepth 100000
namespace VI
open PySem L2 PySem.Spec PyProof.Rows
section
variable {G : Gx}
theorem vw_int {F H : Hp} {i : Int} {v : V} (h : Vw G F H (.int i) v) : v = .int i := by simpa only [Vw, Rp] using h
theorem vw_bl {F H : Hp} {i : Bool} {v : V} (h : Vw G F H (.bl i) v) : v = .bl i := by simpa only [Vw, Rp] using h
theorem vw_str {F H : Hp} {i : Str} {v : V} (h : Vw G F H (.str i) v) : v = .str i := by simpa only [Vw, Rp] using h
/-! ### * // % ** -/
theorem pr_rep : PrOk2 G rRep semRep := fun F H x y d e p Q ex hx hy hs hp => by
  unfold semRep at hs
  split at hs
  · split at hs
    · rename_i h
      simp only [Bool.and_eq_true, decide_eq_true_eq] at h
      cases hs
      obtain ⟨a, xs, rfl, h2, h3⟩ := hx
      have hy := vw_int hy
      exact ⟨a, _, xs, rfl, hy, h2, by omega, by omega, by rw [h3.length, sizeLine_eq]; omega, fun q hq => hp q _ (h3.rep _) hq⟩
    · cases hs
  · cases hs
def semMul : D → D → Option PR := fun d e => (semA cMul (· * ·) d e).or (semRep d e)
theorem op_mulA {X : Cx} : OpR X (binaryOp .Mult) (fun x y H Q => rI CMul (fun i j => .int (i * j)) x y H Q ∨ rRep x y H Q) := op_mul.or op_rep
theorem pr_mul : PrOk2 G (fun x y H Q => rI CMul (fun i j => .int (i * j)) x y H Q ∨ rRep x y H Q) semMul := (pr_A fun _ _ h => cMul_ok h).or pr_rep
def cDiv (_ j : Int) : Bool := decide (0 < j) && decide (j.natAbs < 1073741824)
def semDiv : D → D → Option PR := semA cDiv (· / ·)
theorem pr_div : PrOk2 G (rI CDiv fun i j => .int (i / j)) semDiv := pr_A fun i j h => by
  unfold cDiv at h
  simp only [Bool.and_eq_true, decide_eq_true_eq] at h
  exact ⟨h.1, by omega⟩
def semMod : D → D → Option PR := semA (fun _ j => decide (0 < j)) (· % ·)
theorem pr_mod : PrOk2 G (rI (fun _ j => 0 < j) fun i j => .int (i % j)) semMod := pr_A fun i j h => by simpa using h
def semPow : D → D → Option PR := semA (fun i j => decide (0 ≤ j) && decide (j ≤ 1000000) && decide (i.natAbs < 2 ^ 64)) (fun i j => i ^ j.toNat)
theorem pr_pow : PrOk2 G (rI CPow fun i j => .int (i ^ j.toNat)) semPow := pr_A fun i j h => by
  simp only [Bool.and_eq_true, decide_eq_true_eq] at h
  exact ⟨h.1.1, h.1.2, h.2⟩
def semNeg : D → Option PR
  | .int i => some (.sc (.int (-i)))
  | _ => none
theorem pr_neg : PrOk1 G (rU fun i => .int (-i)) semNeg := fun F H x d p Q ex hx hs hp => by
  unfold semNeg at hs
  split at hs
  · cases hs
    exact ⟨_, by simpa only [Vw, Rp] using hx, hp _ (by simp only [Rp])⟩
  · cases hs
/-! ### in, is -/
theorem vw_flat {F H : Hp} {d : D} {v : V} (hf : d.flat = true) (h : Vw G F H d v) : Rp G F d v := by
  cases d <;> first | exact h | (cases hf)
theorem flat_V {F : Hp} {d : D} {v : V} (hf : d.flat = true) (h : Rp G F d v) : flatV v = true := by
  cases d <;> first | (simp only [Rp] at h; subst h; rfl) | (cases hf)
theorem flat_Vs {F : Hp} : ∀ {ds : List D} {vs : List V}, ds.all D.flat = true → Rps G F ds vs → vs.all flatV = true
  | [], vs, _, h => by rw [h.invn]; rfl
  | d :: ds, vs, hf, h => by
    obtain ⟨v, vt, rfl, h1, h2⟩ := h.inv
    simp only [List.all_cons, Bool.and_eq_true] at hf ⊢
    exact ⟨flat_V hf.1 h1, flat_Vs hf.2 h2⟩
theorem eqV_eqb {F : Hp} {d e : D} {v w : V} (hd : d.flat = true) (he : e.flat = true) (h1 : Rp G F d v) (h2 : Rp G F e w) : eqV v w = D.eqb d e := by
  cases d <;> first
    | (cases hd; done)
    | (cases e <;> first
        | (cases he; done)
        | (simp only [Rp] at h1 h2; subst h1 h2; simp [eqV, D.eqb, D.pd, PyData.eqv]))
theorem inV_any {F : Hp} {d : D} {v : V} (hd : d.flat = true) (h1 : Rp G F d v) : ∀ {es : List D} {vs : List V}, es.all D.flat = true → Rps G F es vs → inV v vs = es.any fun z => D.eqb z d
  | [], vs, _, h => by rw [h.invn]; rfl
  | e :: es, vs, hf, h => by
    obtain ⟨w, vt, rfl, h2, h3⟩ := h.inv
    simp only [List.all_cons, Bool.and_eq_true] at hf
    have := inV_any hd h1 hf.2 h3
    unfold inV at this ⊢
    rw [List.any_cons, List.any_cons, this, eqV_eqb hf.1 hd h2 h1]
theorem any_pds (d : D) : ∀ es : List D, ((D.pds es).any fun z => PyData.eqv z d.pd) = es.any fun z => D.eqb z d
  | [] => by simp [D.pds]
  | e :: es => by simp only [D.pds, List.any_cons, any_pds d es]; rfl
def semInL (neg : Bool) : D → D → Option PR := fun d e => match e with
  | .lst es => if d.okd && es.all (D.le 12) then some (.sc (.bl (if neg then !(es.any fun z => D.eqb z d) else es.any fun z => D.eqb z d))) else none
  | _ => none
def semInT (neg : Bool) : D → D → Option PR := fun d e => match e with
  | .tup es => if d.flat && es.all D.flat then some (.sc (.bl (if neg then !(es.any fun z => D.eqb z d) else es.any fun z => D.eqb z d))) else none
  | _ => none
theorem shaped_lst {es : List D} (h : es.all (D.le 12) = true) : SeqAt.shaped (.list (D.pds es)) = true := shaped_of (n := 13) (d := .lst es) (by decide) (by simpa [D.le] using h)
theorem pr_inL : PrOk2 G (rInD G.K) (semInL false) := fun F H x y d e p Q ex hx hy hs hp => by
  unfold semInL at hs
  split at hs
  · rename_i es
    split at hs
    · rename_i h
      rw [Bool.and_eq_true] at h
      cases hs
      obtain ⟨a, xs, rfl, h2, h3⟩ := hy
      exact ⟨d.pd, D.pds es, vw_dp ex h.1 hx, .lst (SqL.of h2) (rps_dp h.2 (Rps.mono ex _ _ h3)), shaped_of (by decide) h.1, shaped_lst h.2, by
        rw [any_pds]; exact hp _ (by simp only [Rp]; rfl)⟩
    · cases hs
  · cases hs
theorem pr_ninL : PrOk2 G (rNotInD G.K) (semInL true) := fun F H x y d e p Q ex hx hy hs hp => by
  unfold semInL at hs
  split at hs
  · rename_i es
    split at hs
    · rename_i h
      rw [Bool.and_eq_true] at h
      cases hs
      obtain ⟨a, xs, rfl, h2, h3⟩ := hy
      exact ⟨d.pd, D.pds es, vw_dp ex h.1 hx, .lst (SqL.of h2) (rps_dp h.2 (Rps.mono ex _ _ h3)), shaped_of (by decide) h.1, shaped_lst h.2, by
        rw [any_pds]; exact hp _ (by simp only [Rp]; rfl)⟩
    · cases hs
  · cases hs
theorem pr_inT {neg : Bool} : PrOk2 G (rIn G.K neg) (semInT neg) := fun F H x y d e p Q ex hx hy hs hp => by
  unfold semInT at hs
  split at hs
  · rename_i es
    split at hs
    · rename_i h
      rw [Bool.and_eq_true] at h
      cases hs
      obtain ⟨a, xs, rfl, h2, h3⟩ := vw_tup ex hy
      have hx := vw_flat h.1 hx
      refine ⟨a, xs, rfl, .inr h2, flat_V h.1 hx, flat_Vs h.2 h3, ?_⟩
      rw [inV_any h.1 hx h.2 h3]
      exact hp _ (by simp only [Rp])
    · cases hs
  · cases hs
def semIn : D → D → Option PR := fun d e => (semInL false d e).or (semInT false d e)
def semNin : D → D → Option PR := fun d e => (semInL true d e).or (semInT true d e)
theorem op_inA {X : Cx} (hu : X.A.units + 65 < cLine) : OpR X (compareOp .In) (fun x y H Q => rInD X.K x y H Q ∨ rIn X.K false x y H Q) := (op_inD hu).or op_in_seq
theorem op_ninA {X : Cx} (hu : X.A.units + 65 < cLine) : OpR X (compareOp .NotIn) (fun x y H Q => rNotInD X.K x y H Q ∨ rIn X.K true x y H Q) := (op_notInD hu).or op_notIn_seq
theorem pr_in : PrOk2 G (fun x y H Q => rInD G.K x y H Q ∨ rIn G.K false x y H Q) semIn := pr_inL.or pr_inT
theorem pr_nin : PrOk2 G (fun x y H Q => rNotInD G.K x y H Q ∨ rIn G.K true x y H Q) semNin := pr_ninL.or pr_inT
def D.isN : D → Bool
  | .non => true
  | _ => false
theorem isN_V {F H : Hp} {d : D} {v : V} (h : Vw G F H d v) : decide (v = .non) = d.isN := by
  cases d with
  | lst ds => obtain ⟨a, xs, rfl, _⟩ := h; rfl
  | tup ds => simp only [Vw, Rp] at h; obtain ⟨a, xs, rfl, _⟩ := h; rfl
  | wtup ds => simp only [Vw, Rp] at h; obtain ⟨a, xs, rfl, _⟩ := h; rfl
  | scr ds => simp only [Vw, Rp] at h; obtain ⟨a, rfl, _⟩ := h; rfl
  | obj c ds => simp only [Vw, Rp] at h; obtain ⟨a, _, _, _, rfl, _⟩ := h; rfl
  | fn x => simp only [Vw, Rp] at h; obtain ⟨a, rfl, _⟩ := h; rfl
  | dk ks ds => obtain ⟨a, xs, rfl, _⟩ := h; rfl
  | _ => simp only [Vw, Rp] at h; subst h; rfl
def semIsN (neg : Bool) : D → D → Option PR := fun d e => match e with
  | .non => some (.sc (.bl (if neg then !d.isN else d.isN)))
  | _ => none
theorem pr_isN : PrOk2 G (fun x y H Q => y = .non ∧ Q (.bl (decide (x = .non))) H) (semIsN false) := fun F H x y d e p Q ex hx hy hs hp => by
  unfold semIsN at hs
  split at hs
  · cases hs
    refine ⟨by simpa only [Vw, Rp] using hy, ?_⟩
    rw [isN_V hx]
    exact hp _ (by simp only [Rp]; rfl)
  · cases hs
theorem pr_notN : PrOk2 G (fun x y H Q => y = .non ∧ Q (.bl (!decide (x = .non))) H) (semIsN true) := fun F H x y d e p Q ex hx hy hs hp => by
  unfold semIsN at hs
  split at hs
  · cases hs
    refine ⟨by simpa only [Vw, Rp] using hy, ?_⟩
    rw [isN_V hx]
    exact hp _ (by simp only [Rp]; rfl)
  · cases hs
def semIsB (neg : Bool) : D → D → Option PR
  | .bl a, .bl b => some (.sc (.bl (if neg then !decide (a = b) else decide (a = b))))
  | _, _ => none
theorem pr_isB : PrOk2 G rIsB (semIsB false) := fun F H x y d e p Q ex hx hy hs hp => by
  unfold semIsB at hs
  split at hs
  · cases hs
    exact ⟨_, _, by simpa only [Vw, Rp] using hx, by simpa only [Vw, Rp] using hy, hp _ (by simp only [Rp]; rfl)⟩
  · cases hs
theorem pr_notB : PrOk2 G rNotB (semIsB true) := fun F H x y d e p Q ex hx hy hs hp => by
  unfold semIsB at hs
  split at hs
  · cases hs
    exact ⟨_, _, by simpa only [Vw, Rp] using hx, by simpa only [Vw, Rp] using hy, hp _ (by simp only [Rp]; rfl)⟩
  · cases hs
def semIs : D → D → Option PR := fun d e => (semIsN false d e).or (semIsB false d e)
def semNis : D → D → Option PR := fun d e => (semIsN true d e).or (semIsB true d e)
theorem op_isA {X : Cx} : OpR X (compareOp .Is) (fun x y H Q => (y = .non ∧ Q (.bl (decide (x = .non))) H) ∨ rIsB x y H Q) := op_isN.or op_isBl
theorem op_nisA {X : Cx} : OpR X (compareOp .IsNot) (fun x y H Q => (y = .non ∧ Q (.bl (!decide (x = .non))) H) ∨ rNotB x y H Q) := op_notN.or op_notBl
theorem pr_is : PrOk2 G (fun x y H Q => (y = .non ∧ Q (.bl (decide (x = .non))) H) ∨ rIsB x y H Q) semIs := pr_isN.or pr_isB
theorem pr_nis : PrOk2 G (fun x y H Q => (y = .non ∧ Q (.bl (!decide (x = .non))) H) ∨ rNotB x y H Q) semNis := pr_notN.or pr_notB
/-! ### < of data -/
def rLtD (K : PySem.W.Frag) : R2 := fun x y H Q => ∃ d e, Dp K H x d ∧ Dp K H y e ∧ SeqAt.shaped d = true ∧ SeqAt.shaped e = true ∧ W.alike d e = true ∧ d ≠ .none ∧ Q (.bl (W.dataLt d e)) H
theorem op_ltD {X : Cx} (hu : X.A.units + 64 < cLine) : OpR X (compareOp .Lt) (rLtD X.K) := by
  intro pins s σ H x y v u Q I rx ry h
  obtain ⟨d, e, hd, he, sd, se, ha, hn, q⟩ := h
  obtain ⟨as, r1⟩ := Dp.reads I d x v hd rx
  obtain ⟨bs, r2⟩ := Dp.reads I e y u he ry
  have hdp : d.depth ≤ 64 := by
    unfold SeqAt.shaped at sd
    rw [Bool.and_eq_true] at sd
    exact of_decide_eq_true sd.2
  exact W.rcLt_alike d e X.A s v u as bs r1 r2 ha hn (by omega) _ _ _ _ ⟨.bl _, H, I, rfl, q⟩
def D.ltb (d e : D) : Bool := W.dataLt d.pd e.pd
def D.isT : D → Bool
  | .tup _ => true
  | .lst _ => true
  | _ => false
def semLtD : D → D → Option PR := fun d e => if d.okd && e.okd && W.alike d.pd e.pd && d.isT then some (.sc (.bl (D.ltb d e))) else none
theorem pr_ltD : PrOk2 G (rLtD G.K) semLtD := fun F H x y d e p Q ex hx hy hs hp => by
  unfold semLtD at hs
  split at hs
  · rename_i h
    simp only [Bool.and_eq_true] at h
    cases hs
    refine ⟨_, _, vw_dp ex h.1.1.1 hx, vw_dp ex h.1.1.2 hy, shaped_of (by decide) h.1.1.1, shaped_of (by decide) h.1.1.2, h.1.2, ?_, hp _ (by simp only [Rp]; rfl)⟩
    cases d <;> first | (simp [D.isT] at h; done) | (simp only [D.pd]; exact fun z => nomatch z)
  · cases hs
def semLt : D → D → Option PR := fun d e => (semI (fun i j => decide (i < j)) d e).or (semLtD d e)
theorem op_ltA {X : Cx} (hu : X.A.units + 64 < cLine) : OpR X (compareOp .Lt) (fun x y H Q => rI0 (fun i j => .bl (decide (i < j))) x y H Q ∨ rLtD X.K x y H Q) := op_lt.or (op_ltD hu)
theorem pr_lt : PrOk2 G (fun x y H Q => rI0 (fun i j => .bl (decide (i < j))) x y H Q ∨ rLtD G.K x y H Q) semLt := pr_I.or pr_ltD
/-! ### subscripts -/
theorem atI_rps {F : Hp} {ds : List D} {xs : List V} {i : Int} {d : D} (r : Rps G F ds xs) (h : atI ds i = some d) : ∃ v, atI xs i = some v ∧ Rp G F d v := by
  unfold atI at h ⊢
  obtain ⟨j, h1, h2⟩ := Option.bind_eq_some_iff.mp h
  obtain ⟨v, h3, h4⟩ := r.get h2
  exact ⟨v, by rw [r.length, h1]; exact h3, h4⟩
def semIx : D → D → Option PR
  | .lst ds, .int i => (atI ds i).map .sc
  | .tup ds, .int i => (atI ds i).map .sc
  | .str s, .int i => if s.length ≤ 1000000 then (atI s.cps.toList i).map fun c => .sc (.str ⟨#[c]⟩) else none
  | _, _ => none
theorem pr_ix : PrOk2 G (rIx G.K) semIx := fun F H x y d e p Q ex hx hy hs hp => by
  unfold semIx at hs
  split at hs
  · obtain ⟨d', h1, rfl⟩ := Option.map_eq_some_iff.mp hs
    obtain ⟨a, xs, rfl, h2, h3⟩ := hx
    obtain ⟨v, h4, h5⟩ := atI_rps h3 h1
    have hy := vw_int hy
    exact .inl ⟨a, xs, _, v, rfl, hy, SqL.of h2, h4, hp v h5⟩
  · obtain ⟨d', h1, rfl⟩ := Option.map_eq_some_iff.mp hs
    obtain ⟨a, xs, rfl, h2, h3⟩ := vw_tup ex hx
    obtain ⟨v, h4, h5⟩ := atI_rps h3 h1
    have hy := vw_int hy
    exact .inr (.inl ⟨a, xs, _, v, rfl, hy, h2, h4, hp v h5⟩)
  · split at hs
    · rename_i hl
      obtain ⟨c, h1, rfl⟩ := Option.map_eq_some_iff.mp hs
      have hx := vw_str hx
      have hy := vw_int hy
      exact .inr (.inr ⟨_, _, c, hx, hy, by rw [sizeLine_eq]; omega, h1, hp _ (by simp only [Rp])⟩)
    · cases hs
  · cases hs
/-! ### built-ins -/
theorem Vws.one {F H : Hp} {d : D} {vs : List V} (h : Vws G F H [d] vs) : ∃ v, vs = [v] ∧ Vw G F H d v := by
  cases h with
  | cons a b => cases b; exact ⟨_, rfl, a⟩
theorem Vws.two {F H : Hp} {d e : D} {vs : List V} (h : Vws G F H [d, e] vs) : ∃ v w, vs = [v, w] ∧ Vw G F H d v ∧ Vw G F H e w := by
  cases h with
  | cons a b =>
    obtain ⟨w, rfl, hw⟩ := b.one
    exact ⟨_, w, rfl, a, hw⟩
theorem PrOkN.or {r r' : List V → Hp → VK → Prop} {s s' : List D → Option PR} (h : PrOkN G r s) (h' : PrOkN G r' s') : PrOkN G (fun xs H Q => r xs H Q ∨ r' xs H Q) (fun ds => (s ds).or (s' ds)) := fun F H xs ds p Q ex hx hs hp => by
  cases hd : s ds with
  | some q =>
    simp only [hd, Option.some_or] at hs
    cases hs
    exact .inl (h F H xs ds _ Q ex hx hd hp)
  | none =>
    simp only [hd, Option.none_or] at hs
    exact .inr (h' F H xs ds p Q ex hx hs hp)
def semLen : List D → Option PR
  | [.lst ds] => some (.sc (.int ds.length))
  | [.tup ds] => some (.sc (.int ds.length))
  | _ => none
theorem pr_len : PrOkN G (fun xs H Q => ∃ p ys, xs = [.ref p] ∧ (SqL G.K H p ys ∨ SqT G.K H p ys) ∧ Q (.int ys.length) H) semLen := fun F H xs ds p Q ex hx hs hp => by
  unfold semLen at hs
  split at hs
  · cases hs
    obtain ⟨v, rfl, a, ys, rfl, h2, h3⟩ := hx.one
    exact ⟨a, ys, rfl, .inl (SqL.of h2), hp _ (by simp only [Rp]; rw [h3.length])⟩
  · cases hs
    obtain ⟨v, rfl, hv⟩ := hx.one
    obtain ⟨a, ys, rfl, h2, h3⟩ := vw_tup ex hv
    exact ⟨a, ys, rfl, .inr h2, hp _ (by simp only [Rp]; rw [h3.length])⟩
  · cases hs
def semLenS : List D → Option PR
  | [.str s] => if s.length ≤ 1000000 then some (.sc (.int s.length)) else none
  | _ => none
theorem pr_lenS : PrOkN G (fun xs H Q => ∃ z, xs = [.str z] ∧ z.length ≤ sizeLine ∧ Q (.int z.length) H) semLenS := fun F H xs ds p Q ex hx hs hp => by
  unfold semLenS at hs
  split at hs
  · split at hs
    · rename_i hl
      cases hs
      obtain ⟨v, rfl, hv⟩ := hx.one
      have hv := vw_str hv
      subst hv
      exact ⟨_, rfl, by rw [sizeLine_eq]; omega, hp _ (by simp only [Rp])⟩
    · cases hs
  · cases hs
def semLenA : List D → Option PR := fun ds => (semLen ds).or (semLenS ds)
theorem call_lenA {X : Cx} : CallR X (.builtin "len") (fun xs H Q => (∃ p ys, xs = [.ref p] ∧ (SqL X.K H p ys ∨ SqT X.K H p ys) ∧ Q (.int ys.length) H) ∨ ∃ z, xs = [.str z] ∧ z.length ≤ sizeLine ∧ Q (.int z.length) H) := call_len_seq.or call_len_str
theorem pr_lenA : PrOkN G (fun xs H Q => (∃ p ys, xs = [.ref p] ∧ (SqL G.K H p ys ∨ SqT G.K H p ys) ∧ Q (.int ys.length) H) ∨ ∃ z, xs = [.str z] ∧ z.length ≤ sizeLine ∧ Q (.int z.length) H) semLenA := pr_len.or pr_lenS
def semAbs : List D → Option PR
  | [.int i] => some (.sc (.int (if i < 0 then -i else i)))
  | _ => none
theorem pr_abs : PrOkN G (fun xs H Q => ∃ i, xs = [.int i] ∧ Q (.int (if i < 0 then -i else i)) H) semAbs := fun F H xs ds p Q ex hx hs hp => by
  unfold semAbs at hs
  split at hs
  · cases hs
    obtain ⟨v, rfl, hv⟩ := hx.one
    have hv := vw_int hv
    subst hv
    exact ⟨_, rfl, hp _ (by simp only [Rp])⟩
  · cases hs
def semInt : List D → Option PR
  | [.int i] => some (.sc (.int i))
  | [.bl b] => some (.sc (.int (if b then 1 else 0)))
  | _ => none
theorem pr_int : PrOkN G (fun xs H Q => (∃ i, xs = [.int i] ∧ Q (.int i) H) ∨ ∃ k, xs = [.bl k] ∧ Q (.int (if k then 1 else 0)) H) semInt := fun F H xs ds p Q ex hx hs hp => by
  unfold semInt at hs
  split at hs
  · cases hs
    obtain ⟨v, rfl, hv⟩ := hx.one
    have hv := vw_int hv
    subst hv
    exact .inl ⟨_, rfl, hp _ (by simp only [Rp])⟩
  · cases hs
    obtain ⟨v, rfl, hv⟩ := hx.one
    have hv := vw_bl hv
    subst hv
    exact .inr ⟨_, rfl, hp _ (by simp only [Rp])⟩
  · cases hs
def semList : List D → Option PR
  | [.lst ds] => some (.nl ds)
  | [.tup ds] => some (.nl ds)
  | _ => none
theorem pr_list : PrOkN G (fun xs H Q => ∃ p ys, xs = [.ref p] ∧ (SqL G.K H p ys ∨ SqT G.K H p ys) ∧ ∀ l, H l = none → Q (.ref l) (upd H l (.lst ys))) semList := fun F H xs ds p Q ex hx hs hp => by
  unfold semList at hs
  split at hs
  · cases hs
    obtain ⟨v, rfl, a, ys, rfl, h2, h3⟩ := hx.one
    exact ⟨a, ys, rfl, .inl (SqL.of h2), fun l hl => hp l ys h3 hl⟩
  · cases hs
    obtain ⟨v, rfl, hv⟩ := hx.one
    obtain ⟨a, ys, rfl, h2, h3⟩ := vw_tup ex hv
    exact ⟨a, ys, rfl, .inr h2, fun l hl => hp l ys h3 hl⟩
  · cases hs
def semTuple : List D → Option PR
  | [.lst ds] => some (.nt ds)
  | [.tup ds] => some (.sc (.tup ds))
  | _ => none
theorem pr_tuple : PrOkN G (fun xs H Q => ∃ p ys, xs = [.ref p] ∧ ((SqL G.K H p ys ∧ ∀ l o, o.dict = none → H l = none → Q (.ref l) (upd H l (.frz o (.tup ys)))) ∨ (SqT G.K H p ys ∧ Q (.ref p) H))) semTuple := fun F H xs ds p Q ex hx hs hp => by
  unfold semTuple at hs
  split at hs
  · cases hs
    obtain ⟨v, rfl, a, ys, rfl, h2, h3⟩ := hx.one
    exact ⟨a, ys, rfl, .inl ⟨SqL.of h2, fun l o hd hl => hp l ys o hd h3 hl⟩⟩
  · cases hs
    obtain ⟨v, rfl, hv⟩ := hx.one
    have hv' := hv
    obtain ⟨a, ys, rfl, h2, h3⟩ := vw_tup ex hv
    exact ⟨a, ys, rfl, .inr ⟨h2, hp _ hv'⟩⟩
  · cases hs
def D.ints : List D → Option (List Int)
  | [] => some []
  | .int i :: ds => (D.ints ds).map (i :: ·)
  | _ :: _ => none
theorem ints_of : ∀ {ds : List D} {ns : List Int}, D.ints ds = some ns → ds = ns.map D.int
  | [], ns, h => by cases h; rfl
  | d :: ds, ns, h => by
    cases d <;> first | (cases h; done) | skip
    obtain ⟨ms, h1, rfl⟩ := Option.map_eq_some_iff.mp (show (D.ints ds).map _ = some ns from h)
    rw [ints_of h1]; rfl
@[simp] theorem ints_map : ∀ ns : List Int, D.ints (ns.map D.int) = some ns
  | [] => rfl
  | n :: ns => by
    show (D.ints (ns.map D.int)).map _ = _
    rw [ints_map ns]; rfl
def D.bls : List D → Option (List Bool)
  | [] => some []
  | .bl i :: ds => (D.bls ds).map (i :: ·)
  | _ :: _ => none
theorem bls_of : ∀ {ds : List D} {bs : List Bool}, D.bls ds = some bs → ds = bs.map D.bl
  | [], bs, h => by cases h; rfl
  | d :: ds, bs, h => by
    cases d <;> first | (cases h; done) | skip
    obtain ⟨ms, h1, rfl⟩ := Option.map_eq_some_iff.mp (show (D.bls ds).map _ = some bs from h)
    rw [bls_of h1]; rfl
@[simp] theorem bls_map : ∀ ns : List Bool, D.bls (ns.map D.bl) = some ns
  | [] => rfl
  | n :: ns => by
    show (D.bls (ns.map D.bl)).map _ = _
    rw [bls_map ns]; rfl
theorem rps_bls_inv {F : Hp} : ∀ {bs : List Bool} {xs : List V}, Rps G F (bs.map D.bl) xs → xs = bs.map V.bl
  | [], xs, h => h.invn
  | n :: ns, xs, h => by
    obtain ⟨w, vs, rfl, h1, h2⟩ := Rps.inv (d := .bl n) (ds := ns.map D.bl) h
    have e : w = V.bl n := by simpa only [Rp] using h1
    rw [e, rps_bls_inv h2]; rfl
def semSum : List D → Option PR
  | [.lst ds] => (D.ints ds).map fun ns => .sc (.int ns.sum)
  | _ => none
theorem pr_sum : PrOkN G (rSum G.K) semSum := fun F H xs ds p Q ex hx hs hp => by
  unfold semSum at hs
  split at hs
  · obtain ⟨ns, h1, rfl⟩ := Option.map_eq_some_iff.mp hs
    obtain ⟨v, rfl, a, ys, rfl, h2, h3⟩ := hx.one
    rw [ints_of h1] at h3
    rw [rps_ints_inv h3] at h2
    exact ⟨a, ns, rfl, SqL.of h2, hp _ (by simp only [Rp])⟩
  · cases hs
def semAll : List D → Option PR
  | [.lst ds] => (D.bls ds).map fun bs => .sc (.bl (bs.all id))
  | _ => none
theorem pr_all : PrOkN G (rAll G.K) semAll := fun F H xs ds p Q ex hx hs hp => by
  unfold semAll at hs
  split at hs
  · obtain ⟨ns, h1, rfl⟩ := Option.map_eq_some_iff.mp hs
    obtain ⟨v, rfl, a, ys, rfl, h2, h3⟩ := hx.one
    rw [bls_of h1] at h3
    rw [rps_bls_inv h3] at h2
    exact ⟨a, ns, rfl, SqL.of h2, hp _ (by simp only [Rp])⟩
  · cases hs
def semAny : List D → Option PR
  | [.lst ds] => (D.bls ds).map fun bs => .sc (.bl (bs.any id))
  | _ => none
theorem pr_any : PrOkN G (rAny G.K) semAny := fun F H xs ds p Q ex hx hs hp => by
  unfold semAny at hs
  split at hs
  · obtain ⟨ns, h1, rfl⟩ := Option.map_eq_some_iff.mp hs
    obtain ⟨v, rfl, a, ys, rfl, h2, h3⟩ := hx.one
    rw [bls_of h1] at h3
    rw [rps_bls_inv h3] at h2
    exact ⟨a, ns, rfl, SqL.of h2, hp _ (by simp only [Rp])⟩
  · cases hs
/-- the greatest, the least of ints -/
def maxL : List Int → Int
  | [] => 0
  | n :: ns => ns.foldl max n
def minL : List Int → Int
  | [] => 0
  | n :: ns => ns.foldl min n
theorem foldl_max_ok : ∀ (ns : List Int) (n : Int), (ns.foldl max n = n ∨ ns.foldl max n ∈ ns) ∧ n ≤ ns.foldl max n ∧ ∀ y ∈ ns, y ≤ ns.foldl max n
  | [], n => ⟨.inl rfl, Int.le_refl n, fun _ h => nomatch h⟩
  | m :: ns, n => by
    obtain ⟨h1, h2, h3⟩ := foldl_max_ok ns (max n m)
    simp only [List.foldl_cons]
    refine ⟨?_, by omega, fun y hy => ?_⟩
    · rcases h1 with h1 | h1
      · rw [h1]
        by_cases h : n ≤ m
        · exact .inr (by rw [Int.max_eq_right h]; exact List.mem_cons_self ..)
        · exact .inl (by omega)
      · exact .inr (List.mem_cons_of_mem _ h1)
    · rcases List.mem_cons.mp hy with rfl | hy
      · omega
      · exact h3 y hy
theorem foldl_min_ok : ∀ (ns : List Int) (n : Int), (ns.foldl min n = n ∨ ns.foldl min n ∈ ns) ∧ ns.foldl min n ≤ n ∧ ∀ y ∈ ns, ns.foldl min n ≤ y
  | [], n => ⟨.inl rfl, Int.le_refl n, fun _ h => nomatch h⟩
  | m :: ns, n => by
    obtain ⟨h1, h2, h3⟩ := foldl_min_ok ns (min n m)
    simp only [List.foldl_cons]
    refine ⟨?_, by omega, fun y hy => ?_⟩
    · rcases h1 with h1 | h1
      · rw [h1]
        by_cases h : m ≤ n
        · exact .inr (by rw [Int.min_eq_right h]; exact List.mem_cons_self ..)
        · exact .inl (by omega)
      · exact .inr (List.mem_cons_of_mem _ h1)
    · rcases List.mem_cons.mp hy with rfl | hy
      · omega
      · exact h3 y hy
theorem maxL_one {ns : List Int} {m : Int} (h0 : 0 < ns.length) (h1 : m ∈ ns) (h2 : ∀ y, y ∈ ns → y ≤ m) : m = maxL ns := by
  cases ns with
  | nil => cases h1
  | cons n ns =>
    obtain ⟨g1, g2, g3⟩ := foldl_max_ok ns n
    have e1 : ns.foldl max n ≤ m := by
      rcases g1 with g1 | g1
      · rw [g1]; exact h2 n (List.mem_cons_self ..)
      · exact h2 _ (List.mem_cons_of_mem _ g1)
    have e2 : m ≤ ns.foldl max n := by
      rcases List.mem_cons.mp h1 with rfl | h1
      · exact g2
      · exact g3 m h1
    show m = ns.foldl max n
    omega
theorem minL_one {ns : List Int} {m : Int} (h0 : 0 < ns.length) (h1 : m ∈ ns) (h2 : ∀ y, y ∈ ns → m ≤ y) : m = minL ns := by
  cases ns with
  | nil => cases h1
  | cons n ns =>
    obtain ⟨g1, g2, g3⟩ := foldl_min_ok ns n
    have e1 : m ≤ ns.foldl min n := by
      rcases g1 with g1 | g1
      · rw [g1]; exact h2 n (List.mem_cons_self ..)
      · exact h2 _ (List.mem_cons_of_mem _ g1)
    have e2 : ns.foldl min n ≤ m := by
      rcases List.mem_cons.mp h1 with rfl | h1
      · exact g2
      · exact g3 m h1
    show m = ns.foldl min n
    omega
def semMax : List D → Option PR
  | [.lst ds] => (D.ints ds).bind fun ns => if ns.isEmpty then none else some (.sc (.int (maxL ns)))
  | [.tup _] => none
  | _ => none
theorem pr_max : PrOkN G (rMax G.K) semMax := fun F H xs ds p Q ex hx hs hp => by
  unfold semMax at hs
  split at hs
  · obtain ⟨ns, h1, hs⟩ := Option.bind_eq_some_iff.mp hs
    split at hs
    · cases hs
    · rename_i hne
      cases hs
      obtain ⟨v, rfl, a, ys, rfl, h2, h3⟩ := hx.one
      rw [ints_of h1] at h3
      rw [rps_ints_inv h3] at h2
      have h0 : 0 < ns.length := by cases ns <;> simp_all
      exact ⟨a, ns, rfl, SqL.of h2, h0, fun m hm hle => hp _ (by simp only [Rp]; rw [maxL_one h0 hm hle])⟩
  · cases hs
  · cases hs
def semMin : List D → Option PR
  | [.lst ds] => (D.ints ds).bind fun ns => if ns.isEmpty then none else some (.sc (.int (minL ns)))
  | _ => none
theorem pr_min : PrOkN G (rMin G.K) semMin := fun F H xs ds p Q ex hx hs hp => by
  unfold semMin at hs
  split at hs
  · obtain ⟨ns, h1, hs⟩ := Option.bind_eq_some_iff.mp hs
    split at hs
    · cases hs
    · rename_i hne
      cases hs
      obtain ⟨v, rfl, a, ys, rfl, h2, h3⟩ := hx.one
      rw [ints_of h1] at h3
      rw [rps_ints_inv h3] at h2
      have h0 : 0 < ns.length := by cases ns <;> simp_all
      exact ⟨a, ns, rfl, SqL.of h2, h0, fun m hm hle => hp _ (by simp only [Rp]; rw [minL_one h0 hm hle])⟩
  · cases hs
def semMax2 : List D → Option PR
  | [.int i, .int j] => some (.sc (.int (if j > i then j else i)))
  | _ => none
theorem pr_max2 : PrOkN G (fun xs H Q => ∃ i j, xs = [.int i, .int j] ∧ Q (.int (if j > i then j else i)) H) semMax2 := fun F H xs ds p Q ex hx hs hp => by
  unfold semMax2 at hs
  split at hs
  · cases hs
    obtain ⟨v, w, rfl, hv, hw⟩ := hx.two
    have hv := vw_int hv
    have hw := vw_int hw
    subst hv hw
    exact ⟨_, _, rfl, hp _ (by simp only [Rp])⟩
  · cases hs
def semMin2 : List D → Option PR
  | [.int i, .int j] => some (.sc (.int (if j < i then j else i)))
  | _ => none
theorem pr_min2 : PrOkN G (fun xs H Q => ∃ i j, xs = [.int i, .int j] ∧ Q (.int (if j < i then j else i)) H) semMin2 := fun F H xs ds p Q ex hx hs hp => by
  unfold semMin2 at hs
  split at hs
  · cases hs
    obtain ⟨v, w, rfl, hv, hw⟩ := hx.two
    have hv := vw_int hv
    have hw := vw_int hw
    subst hv hw
    exact ⟨_, _, rfl, hp _ (by simp only [Rp])⟩
  · cases hs
end
end VI

end
section
set_option Elab.async false
set_option linter.all false
set_option maxRecDepth 100000
namespace VI
open PySem L2 PySem.Spec PyProof.Rows
/-! ### isinstance -/
def D.tyS : D → Option String
  | .non => some "NoneType"
  | .bl _ => some "bool"
  | .int _ => some "int"
  | .str _ => some "str"
  | .lst _ => some "list"
  | .tup _ => some "tuple"
  | _ => none
def isiTab : List (String × String × Bool) :=
  [("NoneType", "int", false), ("NoneType", "bool", false), ("NoneType", "str", false), ("NoneType", "list", false), ("NoneType", "tuple", false),
   ("bool", "int", true), ("bool", "bool", true), ("bool", "str", false), ("bool", "list", false), ("bool", "tuple", false),
   ("int", "int", true), ("int", "bool", false), ("int", "str", false), ("int", "list", false), ("int", "tuple", false),
   ("str", "int", false), ("str", "bool", false), ("str", "str", true), ("str", "list", false), ("str", "tuple", false),
   ("list", "int", false), ("list", "bool", false), ("list", "str", false), ("list", "list", true), ("list", "tuple", false),
   ("tuple", "int", false), ("tuple", "bool", false), ("tuple", "str", false), ("tuple", "list", false), ("tuple", "tuple", true)]
theorem isiTab_ok : ∀ e ∈ isiTab, kitB e.1 e.2.1 = some e.2.2 := by decide +kernel
def isiB (t n : String) : Option Bool := (isiTab.find? fun e => e.1 == t && e.2.1 == n).map (·.2.2)
theorem isiB_ok {t n : String} {b : Bool} (h : isiB t n = some b) : kitB t n = some b := by
  obtain ⟨e, h1, rfl⟩ := Option.map_eq_some_iff.mp h
  have h2 := List.find?_some h1
  simp only [Bool.and_eq_true, beq_iff_eq] at h2
  rw [← h2.1, ← h2.2]
  exact isiTab_ok e (List.mem_of_find?_eq_some h1)
/-- the classes of a written tuple -/
def D.tys : List D → Option (List String)
  | [] => some []
  | .ty n :: ds => (D.tys ds).map (n :: ·)
  | _ :: _ => none
def isiAny (t : String) : List String → Option Bool
  | [] => some false
  | n :: ns => match isiB t n with
    | some true => some true
    | some false => isiAny t ns
    | none => none
def semIsi : List D → Option PR
  | [d, .ty n] => d.tyS.bind fun t => (isiB t n).map fun b => .sc (.bl b)
  | _ => none
def semIsiT : List D → Option PR
  | [d, .tup ts] => d.tyS.bind fun t => (D.tys ts).bind fun ns => (isiAny t ns).map fun b => .sc (.bl b)
  | _ => none
section
variable {G : Gx} {F H : Hp}
theorem tyS_ok {d : D} {v : V} {t : String} (e : Ex F H) (h : Vw G F H d v) (ht : d.tyS = some t) : TyX G.K H v (.type t) := by
  cases d with
  | non => cases ht; have h : v = .non := by simpa only [Vw, Rp] using h
           subst h; exact .base .non
  | bl b => cases ht; rw [vw_bl h]; exact .base (.bl b)
  | int b => cases ht; rw [vw_int h]; exact .base (.int b)
  | str b => cases ht; rw [vw_str h]; exact .base (.str b)
  | lst ds => cases ht; obtain ⟨a, xs, rfl, h2, _⟩ := h; exact .base (.lst h2)
  | tup ds =>
    cases ht
    have h : Rp G F (.tup ds) v := h
    simp only [Rp] at h
    obtain ⟨a, xs, rfl, h2, _⟩ := h
    rcases h2 with ⟨o, h2, _⟩ | ⟨o, its, n, h2, h3, _⟩
    · exact .fTuple (e _ _ h2)
    · exact .kTuple h2 h3
  | _ => cases ht
theorem pr_isi : PrOkN G (rIsi G.K) semIsi := fun F H xs ds p Q ex hx hs hp => by
  unfold semIsi at hs
  split at hs
  · rename_i d n
    obtain ⟨t, h1, hs⟩ := Option.bind_eq_some_iff.mp hs
    obtain ⟨b, h2, rfl⟩ := Option.map_eq_some_iff.mp hs
    obtain ⟨v, w, rfl, hv, hw⟩ := hx.two
    have hw : w = .ty n := by simpa only [Vw, Rp] using hw
    subst hw
    exact ⟨v, .ty n, _, _, b, rfl, .ty n, tyS_ok ex hv h1, kit_ty (isiB_ok h2), hp _ (by simp only [Rp])⟩
  · cases hs
theorem tys_ok {F : Hp} : ∀ {ts : List D} {ns : List String} {cs : List V}, D.tys ts = some ns → Rps G F ts cs → Paired ClsV cs (ns.map Value.type)
  | [], ns, cs, h, r => by cases h; rw [r.invn]; exact .nil
  | d :: ts, ns, cs, h, r => by
    cases d <;> first | (cases h; done) | skip
    obtain ⟨ms, h1, rfl⟩ := Option.map_eq_some_iff.mp (show (D.tys ts).map _ = some ns from h)
    obtain ⟨v, vt, rfl, r1, r2⟩ := r.inv
    simp only [Rp] at r1
    subst r1
    exact .cons (.ty _) (tys_ok h1 r2)
theorem isiAny_ok {K : PySem.W.Frag} {t : String} : ∀ {ns : List String} {b : Bool}, isiAny t ns = some b → PySem.W.kitAny K (.type t) (ns.map Value.type) = some b
  | [], b, h => by cases h; exact kitAny_nil
  | n :: ns, b, h => by
    unfold isiAny at h
    split at h
    · rename_i h1
      cases h
      exact kitAny_cons (kit_ty (isiB_ok h1)) (fun z => nomatch z) fun _ => rfl
    · rename_i h1
      exact kitAny_cons (kit_ty (isiB_ok h1)) (fun _ => isiAny_ok h) fun z => nomatch z
    · cases h
/-- the tuple of classes: it was just laid, so it is locked -/
def rIsiF (K : PySem.W.Frag) : List V → Hp → VK → Prop := fun xs H Q => ∃ (x : V) (tp : Addr) (cs : List V) (t : Value) (us : List Value) (b : Bool), xs = [x, .ref tp] ∧ SqT K H tp cs ∧ Paired ClsV cs us ∧ TyX K H x t ∧ PySem.W.kitAny K t us = some b ∧ Q (.bl b) H
end
theorem call_isiF {X : Cx} : CallR X (.builtin "isinstance") (rIsiF X.K) := by
  intro pins s σ H xs us Q I r h
  obtain ⟨x, tp, cs, t, cus, b, rfl, ht, hc, ty, e, q⟩ := h
  cases r with
  | cons rx rr =>
    cases rr with
    | cons rt rr =>
      cases rr
      cases rt
      obtain ⟨its, rv, pl, _⟩ := I.tuple ht
      have hi : its = cus := ClsV.all hc rv
      subst hi
      obtain ⟨⟨cls, dd, data, sl⟩, ho, hcl, n, hdt⟩ := pl
      simp only at hcl hdt
      subst hcl hdt
      obtain ⟨P, Z, hp, hx⟩ := kit_of I rx ty
      exact PySem.W.kia_tup Z I.kIn hp ho e hx fun tk => ⟨.bl b, H, I.tok tk, rfl, q⟩
section
variable {G : Gx} {F H : Hp}
theorem pr_isiT : PrOkN G (rIsiF G.K) semIsiT := fun F H xs ds p Q ex hx hs hp => by
  unfold semIsiT at hs
  split at hs
  · rename_i d ts
    obtain ⟨t, h1, hs⟩ := Option.bind_eq_some_iff.mp hs
    obtain ⟨ns, h2, hs⟩ := Option.bind_eq_some_iff.mp hs
    obtain ⟨b, h3, rfl⟩ := Option.map_eq_some_iff.mp hs
    obtain ⟨v, w, rfl, hv, hw⟩ := hx.two
    obtain ⟨a, cs, rfl, h4, h5⟩ := vw_tup ex hw
    exact ⟨v, a, cs, _, _, b, rfl, h4, tys_ok h2 h5, tyS_ok ex hv h1, isiAny_ok h3, hp _ (by simp only [Rp])⟩
  · cases hs
def semIsiA : List D → Option PR := fun ds => (semIsi ds).or (semIsiT ds)
theorem call_isiA {X : Cx} : CallR X (.builtin "isinstance") (fun xs H Q => rIsi X.K xs H Q ∨ rIsiF X.K xs H Q) := call_isi.or call_isiF
theorem pr_isiA : PrOkN G (fun xs H Q => rIsi G.K xs H Q ∨ rIsiF G.K xs H Q) semIsiA := pr_isi.or pr_isiT
end
/-- a built-in class as a value -/
theorem de_ty {X : Cx} {G : Gx} {W : WX} {x : Str} {n : String} {pos : Pos} (hg : Gl X x) (hm : X.mg x = none) (hv : bootBuiltins x = some (.type n)) (hn : x ≠ "__name__" := by decide) (hd : (x == ("__debug__" : Str)) = false := by decide) : DE X G W (.Name x pos) (eC (.ty n)) :=
  de_of (pe_bltn (v := .ty n) hg hm hv rfl hn hd) (tD_c fun F => by simp only [Rp])
/-- a module's constant -/
theorem de_gl {X : Cx} {G : Gx} {W : WX} {x : Str} {d : D} {v : V} {u : Value} {pos : Pos} (hg : Gl X x) (hm : X.mg x = some u) (r : RelV v u) (h : ∀ F, Rp G F d v) (hd : (x == ("__debug__" : Str)) = false := by decide) : DE X G W (.Name x pos) (eC d) :=
  de_of (pe_glob (v := v) hg hm r hd) (tD_c h)
/-! ### sorted -/
theorem each_zip {s : Shared} {X : Cx} {pins : List (Addr × Obj)} {σ : L2.St} {H : Hp} (I : Inv X pins σ H s) : ∀ {ds : List PyData} {vs : List V} {us : List Value}, DpAll X.K H vs ds → Vals vs us → W.EachIs (fun u (p : V × PyData) => RelV p.1 u) us (vs.zip ds) ∧ W.EachIs (fun u (p : V × PyData) => ∃ as, Reads s.heap u p.2 as) us (vs.zip ds)
  | [], vs, us, h, r => by
    cases h
    cases r
    exact ⟨.nil, .nil⟩
  | d :: ds, vs, us, h, r => by
    cases h with
    | cons h1 h2 =>
      cases r with
      | cons r1 r2 =>
        obtain ⟨e1, e2⟩ := each_zip I h2 r2
        exact ⟨.cons r1 e1, .cons (Dp.reads I d _ _ h1 r1) e2⟩
theorem each_vals : ∀ {us : List Value} {ps : List (V × PyData)}, W.EachIs (fun u (p : V × PyData) => RelV p.1 u) us ps → Vals (ps.map (·.1)) us
  | [], ps, h => by cases h; exact .nil
  | u :: us, ps, h => by
    cases h with
    | cons a b => exact .cons a (each_vals b)
def le2 : V × PyData → V × PyData → Bool := W.dataLe false fun p => p.2
def rSortD (K : PySem.W.Frag) : List V → Hp → VK → Prop := fun vs H Q => ∃ (a : Addr) (xs : List V) (ds : List PyData), vs = [V.ref a] ∧ SqL K H a xs ∧ DpAll K H xs ds ∧ W.AllAlike ds ∧ W.Sortable ds ∧ (∀ d ∈ ds, d.depth ≤ 62) ∧ xs.length ≤ 1000000 ∧
  ∀ p, H p = none → Q (.ref p) (upd H p (.lst (((xs.zip ds).mergeSort le2).map (·.1))))
theorem dpall_length {K : PySem.W.Frag} {H : Hp} : ∀ {vs : List V} {ds : List PyData}, DpAll K H vs ds → vs.length = ds.length
  | _, _, .nil => rfl
  | _, _, .cons _ t => by simp [dpall_length t]
theorem call_sortD {X : Cx} (hu : X.A.units + 64 < cLine) : CallR X (.builtin "sorted") (rSortD X.K) := by
  intro pins s σ H vs us Q I r h
  obtain ⟨a, xs, ds, rfl, hs, hd, hal, hso, hdp, hlen, q⟩ := h
  obtain ⟨its, rv, hl, hz⟩ := I.list hs
  rw [Vals.ref1 r]
  obtain ⟨e1, e2⟩ := each_zip I hd rv
  have hmap : (xs.zip ds).map (fun p => p.2) = ds := by
    rw [← List.unzip_snd, List.unzip_zip]
    exact dpall_length hd
  refine W.sorted_data (enc := fun p : V × PyData => p.2) hl.isList e1 e2 (by rw [hmap]; exact hal) (by rw [hmap]; exact hso) (by rw [List.length_zip, ← dpall_length hd]; omega) (fun b hb => ?_) fun out ho he => ?_
  · have : b.2 ∈ ds := by rw [← hmap]; exact List.mem_map_of_mem hb
    have := hdp _ this
    omega
  · obtain ⟨ep, he'⟩ := PyProof.Rows.sortedAll_at s.heap its (List.toArray out)
    have hlen : (((xs.zip ds).mergeSort le2).map (·.1)).length ≤ sizeLine := by
      rw [List.length_map, (List.mergeSort_perm _ _).length_eq, List.length_zip]; omega
    exact ⟨.ref _, upd H (s.heap.objs.size + 1) (.lst (((xs.zip ds).mergeSort le2).map (·.1))), I.laid (t' := s.toks) (fun _ _ => PyProof.Rows.sortedAll_old) (Nat.le_succ _) ⟨hlen, out, ep, each_vals he, he'⟩, rfl, q _ (I.hok.fresh (Nat.le_succ _))⟩
section
variable {G : Gx} {F H : Hp}
/-- all alike, with the first one; none of them None, or all filled tuples -/
def alikeB (ds : List D) : Bool := ds.all fun d => ds.all fun e => W.alike d.pd e.pd
def sortB (ds : List D) : Bool := (ds.all fun d => match d with
    | .tup (_ :: _) => true
    | _ => false) || ds.all fun d => match d with
    | .non => false
    | .tup _ => false
    | _ => true
def leD (d e : D) : Bool := W.dataLe false D.pd d e
def semSort : List D → Option PR
  | [.lst ds] => if ds.all (D.le 12) && alikeB ds && sortB ds && decide (ds.length ≤ 1000000) then some (.nl (ds.mergeSort leD)) else none
  | [.tup ds] => none
  | _ => none
theorem alikeB_ok {ds : List D} (h : alikeB ds = true) : W.AllAlike (D.pds ds) := by
  intro d hd d' hd'
  rw [pds_map] at hd hd'
  obtain ⟨x, hx, rfl⟩ := List.mem_map.mp hd
  obtain ⟨y, hy, rfl⟩ := List.mem_map.mp hd'
  exact List.all_eq_true.mp (List.all_eq_true.mp h x hx) y hy
theorem sortB_ok {ds : List D} (hl : ds.all (D.le 12) = true) (h : sortB ds = true) : W.Sortable (D.pds ds) := by
  unfold sortB at h
  rw [Bool.or_eq_true] at h
  rcases h with h | h
  · left
    intro d hd
    rw [pds_map] at hd
    obtain ⟨x, hx, rfl⟩ := List.mem_map.mp hd
    have := List.all_eq_true.mp h x hx
    split at this
    · exact ⟨_, _, by simp only [D.pd, D.pds]; rfl⟩
    · cases this
  · right
    intro d hd
    rw [pds_map] at hd
    obtain ⟨x, hx, rfl⟩ := List.mem_map.mp hd
    have h1 := List.all_eq_true.mp h x hx
    have h2 := List.all_eq_true.mp hl x hx
    cases x with
    | non => cases h1
    | tup _ => cases h1
    | wtup _ => simp [D.le] at h2
    | scr _ => simp [D.le] at h2
    | obj _ _ => simp [D.le] at h2
    | fn _ => simp [D.le] at h2
    | ty _ => simp [D.le] at h2
    | dk _ _ => simp [D.le] at h2
    | bl b => simp only [D.pd]; exact ⟨(fun z => nomatch z), fun _ z => nomatch z⟩
    | int b => simp only [D.pd]; exact ⟨(fun z => nomatch z), fun _ z => nomatch z⟩
    | str b => simp only [D.pd]; exact ⟨(fun z => nomatch z), fun _ z => nomatch z⟩
    | lst b => simp only [D.pd]; exact ⟨(fun z => nomatch z), fun _ z => nomatch z⟩
theorem depth_mem {ds : List D} (h : ds.all (D.le 12) = true) : ∀ d ∈ D.pds ds, d.depth ≤ 62 := by
  intro d hd
  rw [pds_map] at hd
  obtain ⟨x, hx, rfl⟩ := List.mem_map.mp hd
  have := (le_ok 12 x (List.all_eq_true.mp h x hx)).2
  omega
theorem rps_zip {F : Hp} : ∀ {ds : List D} {xs : List V}, Rps G F ds xs → ∀ p ∈ xs.zip ds, Rp G F p.2 p.1
  | [], xs, h, p, hp => by rw [h.invn] at hp; simp at hp
  | d :: ds, xs, h, p, hp => by
    obtain ⟨v, vt, rfl, h1, h2⟩ := h.inv
    simp only [List.zip_cons_cons, List.mem_cons] at hp
    rcases hp with rfl | hp
    · exact h1
    · exact rps_zip h2 p hp
theorem rps_of_pairs {F : Hp} : ∀ {ps : List (V × D)}, (∀ p ∈ ps, Rp G F p.2 p.1) → Rps G F (ps.map (·.2)) (ps.map (·.1))
  | [], _ => Rps.nil
  | p :: ps, h => Rps.cons (h p (List.mem_cons_self ..)) (rps_of_pairs fun q hq => h q (List.mem_cons_of_mem _ hq))
theorem rps_sort {F : Hp} {ds : List D} {xs : List V} (h : Rps G F ds xs) : Rps G F (ds.mergeSort leD) (((xs.zip (D.pds ds)).mergeSort le2).map (·.1)) := by
  have hl := h.length
  have e1 : ((xs.zip (D.pds ds)).mergeSort le2).map (·.1) = ((xs.zip ds).mergeSort fun p q => leD p.2 q.2).map (·.1) := by
    have e0 : xs.zip (D.pds ds) = (xs.zip ds).map fun p => (p.1, p.2.pd) := by
      rw [pds_map, List.zip_map_right]
      rfl
    rw [e0, ← W.sort_maps (r := fun p q => leD p.2 q.2) (s := le2) (fun p : V × D => (p.1, p.2.pd)) (fun a _ b _ => rfl), List.map_map]
    rfl
  have e2 : ds.mergeSort leD = ((xs.zip ds).mergeSort fun p q => leD p.2 q.2).map (·.2) := by
    rw [W.sort_maps (r := fun p q => leD p.2 q.2) (s := leD) (fun p : V × D => p.2) (fun a _ b _ => rfl)]
    congr 1
    rw [← List.unzip_snd, List.unzip_zip]
    exact hl
  rw [e1, e2]
  exact rps_of_pairs fun p hp => rps_zip h p ((List.mergeSort_perm _ _).mem_iff.mp hp)
theorem pr_sort : PrOkN G (rSortD G.K) semSort := fun F H xs ds p Q ex hx hs hp => by
  unfold semSort at hs
  split at hs
  · split at hs
    · rename_i h
      simp only [Bool.and_eq_true, decide_eq_true_eq] at h
      obtain ⟨⟨⟨h1, h2⟩, h3⟩, h4⟩ := h
      cases hs
      obtain ⟨v, rfl, a, ys, rfl, h5, h6⟩ := hx.one
      exact ⟨a, ys, _, rfl, SqL.of h5, rps_dp h1 (Rps.mono ex _ _ h6), alikeB_ok h2, sortB_ok h1 h3, depth_mem h1, by rw [h6.length]; omega, fun q hq => hp q _ (rps_sort h6) hq⟩
    · cases hs
  · cases hs
  · cases hs
end
end VI

end
section
set_option Elab.async false
set_option linter.all false
set_option maxRecDepth 100000
namespace VI
open PySem L2 PySem.Spec PyProof.Rows
section
variable {G : Gx} {W : WX} {I : Nat → Option V} {F F2 R H : Hp} {ρ : Rho} {σ : L2.St} {X : Cx}
/-! ### methods that change nothing -/
def eMeth (kind : D → Bool) (sem : D → List D → Option PR) (g : OF) (a : AF) : EF := fun ρ => (g ρ).bind fun o ρ1 => if ((o.look ρ1).any kind) = true then (a ρ1).bind fun os ρ2 => finish ρ2 ((o.look ρ2).bind fun d => (looks ρ2 os).bind fun ds => sem d ds) else .bad
structure PrOkM (G : Gx) (ty : V → Hp → Prop) (r : V → List V → Hp → VK → Prop) (kind : D → Bool) (sem : D → List D → Option PR) : Prop where
  typ : ∀ F H x d, Ex F H → Vw G F H d x → kind d = true → ty x H
  run : ∀ F H x xs d ds p Q, Ex F H → Vw G F H d x → Vws G F H ds xs → sem d ds = some p → PrPost G F H Q p → r x xs H Q
theorem tD_meth {ty : V → Hp → Prop} {r : V → List V → Hp → VK → Prop} {kind : D → Bool} {sem : D → List D → Option PR} (hp : PrOkM G ty r kind sem) {g : OF} {a : AF} : ∀ σ H Q, tD G W (eMeth kind sem g a) σ H Q → tBMG ty r (tO G W g) (tAs G W a) σ H Q := fun σ H Q ⟨I, F, R, ρ, E, h1⟩ => by
  refine ⟨I, F, R, ρ, E, h1.bind.mono (fun o ρ1 h1 v F1 H1 e1 q1 E1 => ?_) fun _ _ h => h⟩
  split at h1
  · rename_i hk
    obtain ⟨d, hd, hk⟩ := (Option.any_eq_true _ _).mp hk
    refine ⟨hp.typ F1 H1 v d E1.fH (q1.vw E1 hd) hk, I, F1, R, ρ1, E1, h1.bind.mono (fun os ρ2 h1 vs F2 H2 e2 q2 E2 => ?_) fun _ _ h => h.mono e1⟩
    obtain ⟨p, hp1, hp2⟩ := finish_ok E2 (postE.mono (e1.trans e2) h1)
    obtain ⟨d', hd', hp1⟩ := Option.bind_eq_some_iff.mp hp1
    obtain ⟨ds, hds, hp1⟩ := Option.bind_eq_some_iff.mp hp1
    exact hp.run F2 H2 v vs d' ds p Q E2.fH ((q1.mono e2).vw E2 hd') (q2.vws E2 hds) hp1 hp2
  · exact h1.elim
theorem de_meth {o e : Expr} {es : List Expr} {name : Str} {apos cpos : Pos} {T id : String} {ty : V → Hp → Prop} {r : V → List V → Hp → VK → Prop} {kind : D → Bool} {sem : D → List D → Option PR} {g : OF} {a : AF} (pa : PlainAttrs T) (slot : Slot T name id) (hty : typeOf (.builtin id) = pure (.type "method_descriptor")) (hT : TyM X T ty) (hm : MtR X id r)
    (hp : PrOkM G ty r kind sem) (ho : DO X G W o g) (ha : DA X G W (e :: es) a) (hbase : attributeBase o name X.env (eval o X.env) = eval o X.env := by rfl)
    (hfew : ((backTo cpos (starEach (e :: es) X.env)).all (fun x => !x.1) && (backToKw cpos (keywordEach [] X.env)).all (fun x => x.1.isSome)
      && decide ((e :: es).length + ([] : List Keyword).length + (if ([] : List Keyword).isEmpty then 0 else 1) < 30)) = true := by rfl)
    (hline : (apos.endLine == cpos.line) = true := by rfl) (hs : starEach (e :: es) X.env = (false, eval e X.env) :: starEach es X.env := by rfl) (hplain : (backTo cpos (starEach es X.env)).any (·.1) = false := by rfl) :
    DE X G W (.Call (.Attribute o name apos) (e :: es) [] cpos) (eMeth kind sem g a) := de_of (pe_bmG pa slot hty hT hm ho ha hbase hfew hline hs hplain) (tD_meth hp)
def tyLst (K : PySem.W.Frag) : V → Hp → Prop := fun x H => tyV K "list" x H
theorem tym_lst : TyM X "list" (tyLst X.K) := fun _ _ _ _ _ _ I r h => tyV_is I r h
/-- the first place of an equal one -/
def findD (d : D) : List D → Nat → Option Nat
  | [], _ => none
  | e :: es, i => if D.eqb e d then some i else findD d es (i + 1)
theorem findD_ok (d : D) : ∀ (es : List D) (i j : Nat), findD d es i = some j → ∃ k, j = i + k ∧ ∃ e, es[k]? = some e ∧ D.eqb e d = true ∧ ∀ m e', m < k → es[m]? = some e' → D.eqb e' d = false
  | [], i, j, h => by cases h
  | e :: es, i, j, h => by
    unfold findD at h
    split at h
    · rename_i he
      cases h
      exact ⟨0, rfl, e, rfl, he, fun m e' hm => by omega⟩
    · rename_i he
      obtain ⟨k, h1, e1, h2, h3, h4⟩ := findD_ok d es (i + 1) j h
      refine ⟨k + 1, by omega, e1, by simpa using h2, h3, fun m e' hm hme => ?_⟩
      cases m with
      | zero =>
        simp only [List.getElem?_cons_zero, Option.some.injEq] at hme
        subst hme
        simpa using he
      | succ m => exact h4 m e' (by omega) (by simpa using hme)
def D.isL : D → Bool
  | .lst _ => true
  | _ => false
def D.isTp : D → Bool
  | .tup _ => true
  | _ => false
def semIndexL : D → List D → Option PR
  | .lst es, [d] => if es.all (D.le 12) && d.okd then (findD d es 0).map fun (j : Nat) => .sc (.int (j : Nat)) else none
  | _, _ => none
def semIndexT : D → List D → Option PR
  | .tup es, [d] => if es.all (D.le 12) && d.okd then (findD d es 0).map fun (j : Nat) => .sc (.int (j : Nat)) else none
  | _, _ => none
theorem pds_get {es : List D} {k : Nat} {z : PyData} (h : (D.pds es)[k]? = some z) : ∃ e, es[k]? = some e ∧ z = e.pd := by
  rw [pds_map, List.getElem?_map] at h
  obtain ⟨e, h1, rfl⟩ := Option.map_eq_some_iff.mp h
  exact ⟨e, h1, rfl⟩
theorem pr_indexL : PrOkM G (tyLst G.K) (rIndexD G.K) D.isL semIndexL := ⟨fun F H x d ex h hk => by
    cases d <;> first | (cases hk; done) | skip
    obtain ⟨a, xs, rfl, h2, h3⟩ := h
    exact .inl ⟨rfl, xs, SqL.of h2⟩, fun F H x xs d ds p Q ex hx hxs hs hp => by
    unfold semIndexL at hs
    split at hs
    · rename_i es d
      split at hs
      · rename_i h
        rw [Bool.and_eq_true] at h
        obtain ⟨j, h1, rfl⟩ := Option.map_eq_some_iff.mp hs
        obtain ⟨k, h2, e, h3, h4, h5⟩ := findD_ok d es 0 j h1
        have e2 : j = k := by omega
        subst e2
        obtain ⟨y, rfl, hy⟩ := hxs.one
        obtain ⟨a, vs, rfl, h6, h7⟩ := hx
        refine ⟨a, y, d.pd, D.pds es, j, e.pd, rfl, rfl, .lst (SqL.of h6) (rps_dp h.1 (Rps.mono ex _ _ h7)), vw_dp ex h.2 hy, shaped_lst h.1, shaped_of (by decide) h.2, by rw [pds_map, List.getElem?_map, h3]; rfl, h4, fun m z' hm hz => ?_, hp _ (by simp only [Rp])⟩
        obtain ⟨e', g1, rfl⟩ := pds_get hz
        exact h5 m e' hm g1
      · cases hs
    · cases hs⟩
theorem pr_indexT : PrOkM G (tyTup G.K) (rIndexT G.K) D.isTp semIndexT := ⟨fun F H x d ex h hk => by
    cases d <;> first | (cases hk; done) | skip
    simp only [Vw, Rp] at h
    obtain ⟨a, xs, rfl, h2, h3⟩ := h
    exact ⟨a, xs, rfl, h2.mono ex⟩, fun F H x xs d ds p Q ex hx hxs hs hp => by
    unfold semIndexT at hs
    split at hs
    · rename_i es d
      split at hs
      · rename_i h
        rw [Bool.and_eq_true] at h
        obtain ⟨j, h1, rfl⟩ := Option.map_eq_some_iff.mp hs
        obtain ⟨k, h2, e, h3, h4, h5⟩ := findD_ok d es 0 j h1
        have e2 : j = k := by omega
        subst e2
        obtain ⟨y, rfl, hy⟩ := hxs.one
        obtain ⟨a, vs, rfl, h6, h7⟩ := vw_tup ex hx
        refine ⟨a, y, d.pd, D.pds es, j, e.pd, rfl, rfl, .tup h6 (rps_dp h.1 (Rps.mono ex _ _ h7)), vw_dp ex h.2 hy, shaped_of (n := 13) (d := .tup es) (by decide) (by simpa [D.le] using h.1), shaped_of (by decide) h.2, by rw [pds_map, List.getElem?_map, h3]; rfl, h4, fun m z' hm hz => ?_, hp _ (by simp only [Rp])⟩
        obtain ⟨e', g1, rfl⟩ := pds_get hz
        exact h5 m e' hm g1
      · cases hs
    · cases hs⟩
/-! ### slices -/
def cutD (ds : List D) (lo hi : Option Int) : List D := (ds.drop (HT.sIx ds.length 0 lo)).take (HT.sIx ds.length ds.length hi - HT.sIx ds.length 0 lo)
theorem rps_cut {ds : List D} {xs : List V} (h : Rps G F ds xs) (lo hi : Option Int) : Rps G F (cutD ds lo hi) (cutV xs lo hi) := by
  unfold cutD cutV
  rw [h.length]
  exact (h.drop _).take _
abbrev PF := Rho → Rs (Option Int)
def okP (G : Gx) (I : Nat → Option V) (F R : Hp) (σ : L2.St) (Q : Option Int → Hp → Prop) : Option Int → Rho → Prop := fun b ρ' => ∀ F2 H2, Ex F F2 → Er G I F2 R ρ' σ H2 → Q b H2
def tP (G : Gx) (W : WX) (f : PF) : TO := fun σ H Q => ∃ I F R ρ, Er G I F R ρ σ H ∧ Post (okP G I F R σ Q) (exP G W I F R σ) (f ρ)
def DP (X : Cx) (G : Gx) (W : WX) (e : Option Expr) (f : PF) : Prop := PO X e (tP G W f)
theorem po_imp {e : Option Expr} {t u : TO} (h : PO X e t) (k : ∀ σ H Q, u σ H Q → t σ H Q) : PO X e u := ⟨fun pins s σ H Q I hq => h.run pins s σ H Q I (k σ H Q hq)⟩
def pNo : PF := fun ρ => .ok none ρ
theorem dp_no : DP X G W none pNo := po_imp po_none fun σ H Q ⟨I, F, R, ρ, E, h⟩ => h F H (Ex.refl F) E
def pE (f : EF) : PF := fun ρ => (f ρ).bind fun r ρ1 => match r with
  | .fz (.int i) => .ok (some i) ρ1
  | _ => .bad
theorem dp_e {e : Expr} {f : EF} (h : DE X G W e f) : DP X G W (some e) (pE f) := po_imp (po_some h) fun σ H Q ⟨I, F, R, ρ, E, h⟩ => by
  refine ⟨I, F, R, ρ, E, h.bind.mono (fun r ρ1 h v F2 R2 H2 e2 q2 E2 => ?_) fun _ _ h => h⟩
  split at h
  · obtain ⟨e3, q3⟩ := q2
    subst e3
    simp only [Rp] at q3
    exact ⟨_, q3, h F2 H2 e2 E2⟩
  · exact h.elim
def eSl (sem : D → Option Int → Option Int → Option PR) (g : OF) (a b : PF) : EF := fun ρ => (g ρ).bind fun o ρ1 => (a ρ1).bind fun lo ρ2 => (b ρ2).bind fun hi ρ3 => finish ρ3 ((o.look ρ3).bind fun d => sem d lo hi)
def PrOkS (G : Gx) (r : V → Option Int → Option Int → Hp → VK → Prop) (sem : D → Option Int → Option Int → Option PR) : Prop :=
  ∀ F H x d lo hi p Q, Ex F H → Vw G F H d x → sem d lo hi = some p → PrPost G F H Q p → r x lo hi H Q
theorem tD_sl {r : V → Option Int → Option Int → Hp → VK → Prop} {sem : D → Option Int → Option Int → Option PR} (hp : PrOkS G r sem) {g : OF} {a b : PF} : ∀ σ H Q, tD G W (eSl sem g a b) σ H Q → tSl r (tO G W g) (tP G W a) (tP G W b) σ H Q := fun σ H Q ⟨I, F, R, ρ, E, h1⟩ => by
  refine ⟨I, F, R, ρ, E, h1.bind.mono (fun o ρ1 h1 v F1 H1 e1 q1 E1 => ?_) fun _ _ h => h⟩
  refine ⟨I, F1, R, ρ1, E1, h1.bind.mono (fun lo ρ2 h1 F2 H2 e2 E2 => ?_) fun _ _ h => h.mono e1⟩
  refine ⟨I, F2, R, ρ2, E2, h1.bind.mono (fun hi ρ3 h1 F3 H3 e3 E3 => ?_) fun _ _ h => h.mono (e1.trans e2)⟩
  obtain ⟨p, hp1, hp2⟩ := finish_ok E3 (postE.mono ((e1.trans e2).trans e3) h1)
  obtain ⟨d, hd, hp1⟩ := Option.bind_eq_some_iff.mp hp1
  exact hp F3 H3 v d lo hi p Q E3.fH ((q1.mono (e2.trans e3)).vw E3 hd) hp1 hp2
theorem de_sl {e : Expr} {lo hi : Option Expr} {p2 pos : Pos} {r : V → Option Int → Option Int → Hp → VK → Prop} {sem : D → Option Int → Option Int → Option PR} {g : OF} {a b : PF} (hr : SlR X r) (hp : PrOkS G r sem) (he : DO X G W e g) (hl : DP X G W lo a) (hh : DP X G W hi b) :
    DE X G W (.Subscript e (.Slice lo hi none p2) pos) (eSl sem g a b) := de_of (pe_slice hr he hl hh) (tD_sl hp)
def semSlL : D → Option Int → Option Int → Option PR
  | .lst ds, lo, hi => some (.nl (cutD ds lo hi))
  | .scr ns, lo, hi => some (.nl (cutD (ns.map D.int) lo hi))
  | _, _, _ => none
theorem pr_slL : PrOkS G (rSlL G.K) semSlL := fun F H x d lo hi p Q ex hx hs hp => by
  unfold semSlL at hs
  split at hs
  · cases hs
    obtain ⟨a, xs, rfl, h2, h3⟩ := hx
    exact ⟨a, xs, rfl, SqL.of h2, fun q hq => hp q _ (rps_cut h3 lo hi) hq⟩
  · cases hs
    simp only [Vw, Rp] at hx
    obtain ⟨a, rfl, h2⟩ := hx
    exact ⟨a, _, rfl, ex_l ex h2, fun q hq => hp q _ (rps_cut (rps_ints _) lo hi) hq⟩
  · cases hs
def semSlT : D → Option Int → Option Int → Option PR
  | .tup ds, lo, hi => if HT.sIx ds.length 0 lo = 0 ∧ HT.sIx ds.length ds.length hi = ds.length then some (.sc (.tup ds)) else some (.nt (cutD ds lo hi))
  | _, _, _ => none
theorem pr_slT : PrOkS G (rSlF G.K) semSlT := fun F H x d lo hi p Q ex hx hs hp => by
  unfold semSlT at hs
  split at hs
  · have hx' := hx
    obtain ⟨a, xs, rfl, h2, h3⟩ := vw_tup ex hx
    refine ⟨a, xs, rfl, h2, fun h => ?_, fun h q o hd hq => ?_⟩
    · rw [h3.length] at h
      rw [if_pos h] at hs
      cases hs
      exact hp _ hx'
    · rw [h3.length] at h
      rw [if_neg h] at hs
      cases hs
      exact hp q _ o hd (rps_cut h3 lo hi) hq
  · cases hs
theorem PrOkS.or {r r' : V → Option Int → Option Int → Hp → VK → Prop} {s s' : D → Option Int → Option Int → Option PR} (h : PrOkS G r s) (h' : PrOkS G r' s') : PrOkS G (fun x lo hi H Q => r x lo hi H Q ∨ r' x lo hi H Q) (fun d lo hi => (s d lo hi).or (s' d lo hi)) := fun F H x d lo hi p Q ex hx hs hp => by
  cases hd : s d lo hi with
  | some q =>
    simp only [hd, Option.some_or] at hs
    cases hs
    exact .inl (h F H x d lo hi _ Q ex hx hd hp)
  | none =>
    simp only [hd, Option.none_or] at hs
    exact .inr (h' F H x d lo hi p Q ex hx hs hp)
def semSl : D → Option Int → Option Int → Option PR := fun d lo hi => (semSlL d lo hi).or (semSlT d lo hi)
theorem sl_A : SlR X (fun x lo hi H Q => rSlL X.K x lo hi H Q ∨ rSlF X.K x lo hi H Q) := sl_list.or sl_tupF
theorem pr_sl : PrOkS G (fun x lo hi H Q => rSlL G.K x lo hi H Q ∨ rSlF G.K x lo hi H Q) semSl := pr_slL.or pr_slT
/-! ### list(range(..)) -/
def rangeD (a b : Int) : List D := (List.range (b - a).toNat).map fun i => .int (a + (i : Nat))
theorem rps_range (a b : Int) : Rps G F (rangeD a b) (rgV a b) := by
  have : ∀ l : List Nat, Rps G F (l.map fun i => D.int (a + (i : Nat))) (l.map fun i => V.int (a + (i : Nat))) := fun l => by
    induction l with
    | nil => exact Rps.nil
    | cons n l ih => exact Rps.cons (by simp only [Rp]) ih
  exact this _
def oInt (ρ : Rho) (o : OV) : Option Int := match o.look ρ with
  | some (.int i) => some i
  | _ => none
theorem oInt_ok {o : OV} {v : V} {i : Int} (h : OvOk G F σ o v) (E : Er G I F R ρ σ H) (hi : oInt ρ o = some i) : v = .int i := by
  unfold oInt at hi
  split at hi
  · rename_i j hj
    cases hi
    exact vw_int (h.vw E hj)
  · cases hi
def rgOk (a b : Int) : Bool := decide (a.natAbs ≤ 1000000) && decide (b.natAbs ≤ 1000000)
theorem rgOk_ok {a b : Int} (h : rgOk a b = true) : RgOk a b := by
  unfold rgOk at h
  simp only [Bool.and_eq_true, decide_eq_true_eq] at h
  exact ⟨by omega, by omega, by omega, by omega, by omega⟩
def eLRg1 (g : OF) : EF := fun ρ => (g ρ).bind fun o ρ1 => match oInt ρ1 o with
  | some n => if rgOk 0 n then .ok (.ow (.lst (rangeD 0 n))) ρ1 else .bad
  | none => .bad
theorem new_list {Q : VK} {ds : List D} {xs : List V} (E : Er G I F R ρ σ H) (r : Rps G F ds xs) (h : okE G I F R σ Q (.ow (.lst ds)) ρ) {p : Addr} (hp : H p = none) : Q (.ref p) (upd H p (.lst xs)) :=
  h (.ref p) F _ _ (Ex.refl F) (rvok_new (E.newR (o := .lst xs) hp).2.1 r) (E.newR hp).2.2
theorem de_lrg1 {a : Expr} {g : OF} {p p2 pos pos2 : Pos} (hc : X.calm = true) (hg : Gl X "list") (hm : X.mg "list" = none) (hg2 : Gl X "range") (hm2 : X.mg "range" = none) (ha : DO X G W a g) (na : starEach [a] X.env = (false, eval a X.env) :: starEach [] X.env := by rfl)
    (nb : starEach [Expr.Call (.Name "range" p2) [a] [] pos2] X.env = (false, eval (.Call (.Name "range" p2) [a] [] pos2) X.env) :: starEach [] X.env := by rfl) :
    DE X G W (.Call (.Name "list" p) [.Call (.Name "range" p2) [a] [] pos2] [] pos) (eLRg1 g) :=
  de_of (pe_listRg hc hg hm (prg_1 hg2 hm2 ha na) nb) fun σ H Q ⟨I, F, R, ρ, E, h⟩ => by
    refine ⟨I, F, R, ρ, E, h.bind.mono (fun o ρ1 h v F1 H1 e1 q1 E1 => ?_) fun _ _ h => h⟩
    split at h
    · rename_i n hn
      split at h
      · rename_i hr
        exact ⟨n, oInt_ok q1 E1 hn, rgOk_ok hr, fun q hq => new_list E1 (rps_range 0 n) (okE.mono e1 h) hq⟩
      · exact h.elim
    · exact h.elim
def eLRg2 (g g2 : OF) : EF := fun ρ => (g ρ).bind fun o ρ1 => (g2 ρ1).bind fun o2 ρ2 => match oInt ρ2 o, oInt ρ2 o2 with
  | some a, some b => if rgOk a b then .ok (.ow (.lst (rangeD a b))) ρ2 else .bad
  | _, _ => .bad
theorem de_lrg2 {a b : Expr} {g g2 : OF} {p p2 pos pos2 : Pos} (hc : X.calm = true) (hg : Gl X "list") (hm : X.mg "list" = none) (hg2 : Gl X "range") (hm2 : X.mg "range" = none) (ha : DO X G W a g) (hb : DO X G W b g2) (na : starEach [a, b] X.env = (false, eval a X.env) :: starEach [b] X.env := by rfl) (na2 : starEach [b] X.env = (false, eval b X.env) :: starEach [] X.env := by rfl) (npl : ((backTo pos2 (starEach [b] X.env)).any fun x => x.1) = false := by rfl)
    (nb : starEach [Expr.Call (.Name "range" p2) [a, b] [] pos2] X.env = (false, eval (.Call (.Name "range" p2) [a, b] [] pos2) X.env) :: starEach [] X.env := by rfl) :
    DE X G W (.Call (.Name "list" p) [.Call (.Name "range" p2) [a, b] [] pos2] [] pos) (eLRg2 g g2) :=
  de_of (pe_listRg hc hg hm (prg_2 hg2 hm2 ha hb na na2 npl) nb) fun σ H Q ⟨I, F, R, ρ, E, h⟩ => by
    refine ⟨I, F, R, ρ, E, h.bind.mono (fun o ρ1 h v F1 H1 e1 q1 E1 => ?_) fun _ _ h => h⟩
    refine ⟨I, F1, R, ρ1, E1, h.bind.mono (fun o2 ρ2 h v2 F2 H2 e2 q2 E2 => ?_) fun _ _ h => h.mono e1⟩
    split at h
    · rename_i i j hi hj
      split at h
      · rename_i hr
        exact ⟨i, j, oInt_ok (q1.mono e2) E2 hi, oInt_ok q2 E2 hj, rgOk_ok hr, fun q hq => new_list E2 (rps_range i j) (okE.mono (e1.trans e2) h) hq⟩
      · exact h.elim
    · exact h.elim
/-! ### what is walked -/
def listOf (ρ : Rho) (o : OV) : Option (List D) := match o with
  | .dt (.lst ds) => some ds
  | _ => none
def iL (g : OF) : IF := fun ρ => (g ρ).bind fun o ρ1 => match o with
  | .dt (.lst ds) => .ok ds ρ1
  | _ => .bad
theorem wk_list {a : Addr} {ds : List D} {xs : List V} (h : F a = some (.lst xs)) (r : Rps G F ds xs) : Wk G F (Itl G.K a) ds :=
  ⟨_, _, (by rw [← r.length]; exact walk_list (K := G.K) (a := a) (xs := xs)), fun H e => SqL.of (e _ _ h), fun i H x H' hi e y => by
    obtain ⟨e1, e2⟩ := y
    refine ⟨ds[i], by simp [hi], .inl ⟨e1, ?_⟩⟩
    obtain ⟨v, h1, h2⟩ := r.get (i := i) (d := ds[i]) (by simp [hi])
    rw [e2] at h1
    cases h1
    exact h2⟩
theorem di_list {tg e : Expr} {g : OF} (hK : G.K = X.K) (h : DO X G W e g) : DI X G W tg e (iL g) := di_of (pi_list h) fun σ H Q ⟨I, F, R, ρ, E, h⟩ => by
  refine ⟨I, F, R, ρ, E, h.bind.mono (fun o ρ1 h v F1 H1 e1 q1 E1 => ?_) fun _ _ h => h⟩
  split at h
  · have q1 : Rp G F1 (.lst _) v := q1
    simp only [Rp] at q1
    obtain ⟨a, xs, rfl, h2, h3⟩ := q1
    exact ⟨a, rfl, ⟨xs, SqL.of (E1.fH _ _ h2)⟩, h _ F1 H1 e1 E1 (hK ▸ wk_list h2 h3)⟩
  · exact h.elim
def iT (g : OF) : IF := fun ρ => (g ρ).bind fun o ρ1 => match o with
  | .dt (.tup ds) => .ok ds ρ1
  | _ => .bad
theorem wk_tup {a : Addr} {ds : List D} {xs : List V} (h : SqT G.K F a xs) (r : Rps G F ds xs) : Wk G F (Itt G.K a) ds :=
  ⟨_, _, (by rw [← r.length]; exact walk_tup (K := G.K) (a := a) (xs := xs)), fun H e => ex_t e h, fun i H x H' hi e y => by
    obtain ⟨e1, e2⟩ := y
    refine ⟨ds[i], by simp [hi], .inl ⟨e1, ?_⟩⟩
    obtain ⟨v, h1, h2⟩ := r.get (i := i) (d := ds[i]) (by simp [hi])
    rw [e2] at h1
    cases h1
    exact h2⟩
theorem di_tup {tg e : Expr} {g : OF} (hK : G.K = X.K) (h : DO X G W e g) : DI X G W tg e (iT g) := di_of (pi_tup h) fun σ H Q ⟨I, F, R, ρ, E, h⟩ => by
  refine ⟨I, F, R, ρ, E, h.bind.mono (fun o ρ1 h v F1 H1 e1 q1 E1 => ?_) fun _ _ h => h⟩
  split at h
  · have q1 : Rp G F1 (.tup _) v := q1
    simp only [Rp] at q1
    obtain ⟨a, xs, rfl, h2, h3⟩ := q1
    exact ⟨a, rfl, ⟨xs, hK ▸ ex_t E1.fH h2.sq⟩, h _ F1 H1 e1 E1 (hK ▸ wk_tup h2.sq h3)⟩
  · exact h.elim
theorem wk_range {lo hi : Int} : Wk G F (Itr lo (hi - lo).toNat) (rangeD lo hi) :=
  ⟨_, _, (by unfold rangeD; rw [List.length_map, List.length_range]; exact walk_range), fun _ _ => trivial, fun i H x H' hi e y => by
    unfold rangeD at hi ⊢
    rw [List.length_map, List.length_range] at hi
    refine ⟨.int (lo + (i : Nat)), by simp [hi], .inl ⟨y.1, ?_⟩⟩
    simp only [Rp]
    exact y.2⟩
def iR1 (g : OF) : IF := fun ρ => (g ρ).bind fun o ρ1 => match oInt ρ1 o with
  | some n => if rgOk 0 n then .ok (rangeD 0 n) ρ1 else .bad
  | none => .bad
theorem di_range1 {tg a : Expr} {g : OF} {p pos : Pos} (hg : Gl X "range") (hm : X.mg "range" = none) (ha : DO X G W a g) (hs : starEach [a] X.env = [(false, eval a X.env)] := by rfl) : DI X G W tg (.Call (.Name "range" p) [a] [] pos) (iR1 g) :=
  di_of (pi_range1 hg hm (pa_cons ha pa_nil (by rw [hs]; rfl)) hs) fun σ H Q ⟨I, F, R, ρ, E, h⟩ => by
    refine ⟨I, F, R, ρ, E, h.bind.mono (fun o ρ1 h v F1 H1 e1 q1 E1 => ?_) fun _ _ h => h⟩
    split at h
    · rename_i n hn
      split at h
      · rename_i hr
        unfold rgOk at hr
        simp only [Bool.and_eq_true, decide_eq_true_eq] at hr
        refine ⟨n, by rw [oInt_ok q1 E1 hn], by omega, by omega, ?_⟩
        have := h (Itr 0 (n - 0).toNat) F1 H1 e1 E1 wk_range
        rwa [Int.sub_zero] at this
      · exact h.elim
    · exact h.elim
def iR2 (g g2 : OF) : IF := fun ρ => (g ρ).bind fun o ρ1 => (g2 ρ1).bind fun o2 ρ2 => match oInt ρ2 o, oInt ρ2 o2 with
  | some a, some b => if rgOk a b then .ok (rangeD a b) ρ2 else .bad
  | _, _ => .bad
theorem di_range2 {tg a b : Expr} {g g2 : OF} {p pos : Pos} (hg : Gl X "range") (hm : X.mg "range" = none) (ha : DO X G W a g) (hb : DO X G W b g2) (hs : starEach [a, b] X.env = [(false, eval a X.env), (false, eval b X.env)] := by rfl) (hs2 : starEach [b] X.env = [(false, eval b X.env)] := by rfl) : DI X G W tg (.Call (.Name "range" p) [a, b] [] pos) (iR2 g g2) :=
  di_of (pi_range2 hg hm (pa_cons ha (pa_cons hb pa_nil (by rw [hs2]; rfl)) (by rw [hs, hs2])) hs hs2) fun σ H Q ⟨I, F, R, ρ, E, h⟩ => by
    refine ⟨I, F, R, ρ, E, h.bind.mono (fun o ρ1 h v F1 H1 e1 q1 E1 => ?_) fun _ _ h => h⟩
    refine ⟨I, F1, R, ρ1, E1, h.bind.mono (fun o2 ρ2 h v2 F2 H2 e2 q2 E2 => ?_) fun _ _ h => h.mono e1⟩
    split at h
    · rename_i i j hi hj
      split at h
      · rename_i hr
        unfold rgOk at hr
        simp only [Bool.and_eq_true, decide_eq_true_eq] at hr
        refine ⟨i, j, by rw [oInt_ok (q1.mono e2) E2 hi, oInt_ok q2 E2 hj], by omega, ?_⟩
        exact h (Itr i (j - i).toNat) F2 H2 (e1.trans e2) E2 wk_range
      · exact h.elim
    · exact h.elim
end
end VI

end
section
set_option Elab.async false
set_option linter.all false
set_option maxRecDepth 100000
namespace VI
open PySem L2 PySem.Spec PyProof.Rows
section
variable {G : Gx} {W : WX} {I : Nat → Option V} {F F2 R H : Hp} {ρ : Rho} {σ : L2.St} {X : Cx}
/-- the owned list in a slot -/
def Rho.ol (ρ : Rho) (i : Nat) : Option (List D) := match ρ.own i with
  | some (.lst ds) => some ds
  | _ => none
def Rho.put (ρ : Rho) (i : Nat) (o : O) : Rho := ρ.set i ((ρ.getD i .no).re o)
theorem Er.ol {i : Nat} {ds : List D} (E : Er G I F R ρ σ H) (h : ρ.ol i = some ds) : ∃ p xs, σ[i]? = some (some (.ref p)) ∧ H p = some (.lst xs) ∧ Rps G F ds xs ∧
    ∀ ds' xs', Rps G F ds' xs' → Er G I F R (ρ.put i (.lst ds')) σ (upd H p (.lst xs')) := by
  unfold Rho.ol at h
  split at h
  · rename_i o ho
    cases h
    obtain ⟨s, hs, ho⟩ := Option.bind_eq_some_iff.mp ho
    obtain ⟨p, xs, h1, h2, h3, h4⟩ := E.lst hs ho
    refine ⟨p, xs, h1, h2, h3, fun ds' xs' r => ?_⟩
    have := h4 ds' xs' r
    unfold Rho.put
    rw [show ρ.getD i .no = s by simp [List.getD, hs]]
    exact this
  · cases h
/-! ### append, pop -/
def eApp (i : Nat) (f : EF) : EF := fun ρ => if (ρ.ol i).isSome = true then (f ρ).bind fun r ρ1 => match ρ1.ol i with
    | some ds => if ds.length < 1000000 then .ok (.fz .non) (ρ1.put i (.lst (ds ++ [r.toD]))) else .bad
    | none => .bad
  else .bad
theorem de_app {i : Nat} {x : Str} {e : Expr} {f : EF} {p apos cpos : Pos} (hp : PE X (.Name x p) (tVar i)) (he : DE X G W e f) (hbase : attributeBase (.Name x p) "append" X.env (eval (.Name x p) X.env) = eval (.Name x p) X.env := by rfl)
    (hfew : ((backTo cpos (starEach [e] X.env)).all (fun x => !x.1) && (backToKw cpos (keywordEach [] X.env)).all (fun x => x.1.isSome)
      && decide ([e].length + ([] : List Keyword).length + (if ([] : List Keyword).isEmpty then 0 else 1) < 30)) = true := by rfl)
    (hline : (apos.endLine == cpos.line) = true := by rfl) (hs : starEach [e] X.env = (false, eval e X.env) :: starEach [] X.env := by rfl) (hplain : (backTo cpos (starEach [] X.env)).any (·.1) = false := by rfl) :
    DE X G W (.Call (.Attribute (.Name x p) "append" apos) [e] [] cpos) (eApp i f) :=
  de_of (pe_bm PySem.F.plainAttrs_list PySem.F.slot_list_append PySem.F.type_list_append mt_append hp (pa_cons he pa_nil hs) hbase hfew hline hs hplain) fun σ H Q ⟨I, F, R, ρ, E, h⟩ => by
    unfold eApp at h
    split at h
    · rename_i ho
      obtain ⟨ds, ho⟩ := Option.isSome_iff_exists.mp ho
      obtain ⟨q, xs, h1, h2, h3, _⟩ := E.ol ho
      refine ⟨_, h1, .inl ⟨rfl, xs, SqL.of h2⟩, I, F, R, ρ, E, h.bind.mono (fun r ρ1 h v F1 R1 H1 e1 q1 E1 => ?_) fun _ _ h => h⟩
      obtain ⟨F2, e2, r2, E2⟩ := q1.frz E1
      split at h
      · rename_i ds1 ho1
        split at h
        · rename_i hl
          obtain ⟨q', xs', h1', h4, h5, h6⟩ := E2.ol ho1
          rw [h1] at h1'
          cases h1'
          refine ⟨q, xs', v, rfl, rfl, h4, by rw [h5.length, sizeLine_eq]; omega, ?_⟩
          exact h .non F2 R _ (e1.trans e2) ⟨rfl, by simp only [Rp]⟩ (h6 _ _ (h5.append (Rps.cons r2 Rps.nil)))
        · exact h.elim
      · exact h.elim
    · exact h.elim
def ePop (i : Nat) : EF := fun ρ => match ρ.ol i with
  | some ds => match ds[ds.length - 1]? with
    | some d => .ok (.fz d) (ρ.put i (.lst ds.dropLast))
    | none => .bad
  | none => .bad
theorem Rps.dropLast {ds : List D} {xs : List V} (h : Rps G F ds xs) : Rps G F ds.dropLast xs.dropLast := by
  rw [List.dropLast_eq_take, List.dropLast_eq_take, h.length]
  exact h.take _
theorem de_pop {i : Nat} {x : Str} {p apos cpos : Pos} (hp : PE X (.Name x p) (tVar i)) (hbase : attributeBase (.Name x p) "pop" X.env (eval (.Name x p) X.env) = eval (.Name x p) X.env := by rfl) (hline : (apos.endLine == cpos.line) = true := by rfl) :
    DE X G W (.Call (.Attribute (.Name x p) "pop" apos) [] [] cpos) (ePop i) :=
  de_of (pe_bm0 PySem.F.plainAttrs_list PySem.F.slot_list_pop PySem.F.type_list_pop mt_pop hp hbase hline) fun σ H Q ⟨I, F, R, ρ, E, h⟩ => by
    unfold ePop at h
    split at h
    · rename_i ds ho
      obtain ⟨q, xs, h1, h2, h3, h4⟩ := E.ol ho
      split at h
      · rename_i d hd
        obtain ⟨v, hv, rv⟩ := h3.get hd
        refine ⟨_, h1, .inl ⟨rfl, xs, SqL.of h2⟩, q, xs, v, rfl, rfl, h2, by rw [h3.length]; exact hv, ?_⟩
        exact h v F R _ (Ex.refl F) ⟨rfl, rv⟩ (h4 _ _ h3.dropLast)
      · exact h.elim
    · exact h.elim
def ePopAt (i : Nat) (f : EF) : EF := fun ρ => if (ρ.ol i).isSome = true then (f ρ).bind fun r ρ1 => match r, ρ1.ol i with
    | .fz (.int k), some ds => if 0 ≤ k ∧ k ≤ 1000000 then match ds[k.toNat]? with
        | some d => .ok (.fz d) (ρ1.put i (.lst (ds.eraseIdx k.toNat)))
        | none => .bad
      else .bad
    | _, _ => .bad
  else .bad
theorem de_popAt {i : Nat} {x : Str} {e : Expr} {f : EF} {p apos cpos : Pos} (hp : PE X (.Name x p) (tVar i)) (he : DE X G W e f) (hbase : attributeBase (.Name x p) "pop" X.env (eval (.Name x p) X.env) = eval (.Name x p) X.env := by rfl)
    (hfew : ((backTo cpos (starEach [e] X.env)).all (fun x => !x.1) && (backToKw cpos (keywordEach [] X.env)).all (fun x => x.1.isSome)
      && decide ([e].length + ([] : List Keyword).length + (if ([] : List Keyword).isEmpty then 0 else 1) < 30)) = true := by rfl)
    (hline : (apos.endLine == cpos.line) = true := by rfl) (hs : starEach [e] X.env = (false, eval e X.env) :: starEach [] X.env := by rfl) (hplain : (backTo cpos (starEach [] X.env)).any (·.1) = false := by rfl) :
    DE X G W (.Call (.Attribute (.Name x p) "pop" apos) [e] [] cpos) (ePopAt i f) :=
  de_of (pe_bm PySem.F.plainAttrs_list PySem.F.slot_list_pop PySem.F.type_list_pop mt_popAt hp (pa_cons he pa_nil hs) hbase hfew hline hs hplain) fun σ H Q ⟨I, F, R, ρ, E, h⟩ => by
    unfold ePopAt at h
    split at h
    · rename_i ho
      obtain ⟨ds, ho⟩ := Option.isSome_iff_exists.mp ho
      obtain ⟨q, xs, h1, h2, h3, _⟩ := E.ol ho
      refine ⟨_, h1, .inl ⟨rfl, xs, SqL.of h2⟩, I, F, R, ρ, E, h.bind.mono (fun r ρ1 h v F1 R1 H1 e1 q1 E1 => ?_) fun _ _ h => h⟩
      split at h
      · rename_i k ds1 ho1
        split at h
        · rename_i hk
          split at h
          · rename_i d hd
            obtain ⟨e3, q3⟩ := q1
            subst e3
            simp only [Rp] at q3
            obtain ⟨q', xs', h1', h4, h5, h6⟩ := E1.ol ho1
            rw [h1] at h1'
            cases h1'
            obtain ⟨w, hw, rw'⟩ := h5.get hd
            have hlt := (List.getElem?_eq_some_iff.mp hw).1
            have hix : ixN xs'.length k = some k.toNat := by
              unfold ixN
              rw [if_pos hk.1, if_pos (by omega)]
            refine ⟨q, xs', k, k.toNat, w, rfl, by rw [q3], h4, by omega, by omega, (ixN_seq hix).1, hw, ?_⟩
            exact h w F1 _ _ e1 ⟨rfl, rw'⟩ (h6 _ _ (h5.eraseIdx _))
          · exact h.elim
        · exact h.elim
      · exact h.elim
    · exact h.elim
/-! ### x[k] = e -/
def sSetIx (i : Nat) (fk f : EF) : SF := fun ρ => (f ρ).bind fun r ρ1 => if (ρ1.ol i).isSome = true then (fk ρ1).bind fun k ρ2 => match k, ρ2.ol i with
    | .fz (.int k), some ds => match ixN ds.length k with
      | some j => .ok .nx (ρ2.put i (.lst (ds.set j r.toD)))
      | none => .bad
    | _, _ => .bad
  else .bad
theorem ds_setIx {i : Nat} {x : Str} {e k : Expr} {f fk : EF} {p tpos pos : Pos} (hp : PE X (.Name x p) (tVar i)) (he : DE X G W e f) (hk : DE X G W k fk)
    (ha : ∀ v, assign (.Subscript (.Name x p) k tpos) X.env v = (do
      let ov ← holding [v] (eval (.Name x p) X.env)
      let iv ← holding [v, ov] (eval k X.env)
      standAt tpos
      holding [v, ov, iv] (setItem ov iv v)
      release [v, ov, iv] []) := by intro _; rfl)
    (hs : swapsWithSole [.Subscript (.Name x p) k tpos] e pos.line X.env = pure false := by rfl) (hw : swappedStores [.Subscript (.Name x p) k tpos] e X.env = pure none := by rfl)
    (h1 : (assignEach [.Subscript (.Name x p) k tpos] X.env).map (·.2) = [assign (.Subscript (.Name x p) k tpos) X.env] := by rfl) : DS X G W (.Assign [.Subscript (.Name x p) k tpos] e pos) (sSetIx i fk f) :=
  ds_of (ps_asg he (pg_sub hp hk set_list ha) hs hw h1) fun Dn σ H ⟨I, F, R, ρ, E, h⟩ => by
    refine ⟨I, F, R, ρ, E, h.bind.mono (fun r ρ1 h v F1 R1 H1 e1 q1 E1 => ?_) fun _ _ h => h.p⟩
    obtain ⟨F2, e2, r2, E2⟩ := q1.frz E1
    split at h
    · rename_i ho
      obtain ⟨ds, ho⟩ := Option.isSome_iff_exists.mp ho
      obtain ⟨q, xs, g1, g2, g3, _⟩ := E2.ol ho
      refine ⟨_, g1, I, F2, R, ρ1, E2, h.bind.mono (fun kr ρ2 h w F3 R3 H3 e3 q3 E3 => ?_) fun _ _ h => (h.mono (e1.trans e2)).p⟩
      split at h
      · rename_i k ds1 ho1
        split at h
        · rename_i j hj
          obtain ⟨e4, q4⟩ := q3
          subst e4
          simp only [Rp] at q4
          obtain ⟨q', xs', h1', h4, h5, h6⟩ := E3.ol ho1
          rw [g1] at h1'
          cases h1'
          refine ⟨q, xs', k, j, rfl, q4, h4, by rw [h5.length]; exact hj, ?_⟩
          exact h σ F3 _ ((e1.trans e2).trans e3) (h6 _ _ (h5.set j (Rp.mono e3 _ _ r2)))
        · exact h.elim
      · exact h.elim
    · exact h.elim
/-! ### a, b = e1, e2 -/
def sPar (i j : Nat) (f g : EF) : SF := fun ρ => (f ρ).bind fun r ρ1 => (g ρ1).bind fun r2 ρ2 => .ok .nx ((ρ2.set i r.sv).set j r2.sv)
theorem addc_none' {cs : Cells} {H : Hp} {a : Addr} (h1 : ∀ c ∈ cs, c.1 ≠ a) (h2 : H a = none) : addc cs H a = none := by rw [addc_not h1]; exact h2
/-- a thing in the frame is set aside while another one is made -/
theorem RvOk.keep {R1 : Hp} {r : RV} {v : V} (e : Ex F F2) (h : RvOk G F R R1 r v) : RvOk G F2 R R1 r v := by
  cases r with
  | fz d => exact ⟨h.1, Rp.mono e d v h.2⟩
  | ow o =>
    obtain ⟨cs, q1, q2, q3, q4⟩ := h
    exact ⟨cs, q1.mono e, q2, q3, q4⟩
theorem Er.set2 {R1 R2 : Hp} {r r2 : RV} {v v2 : V} {i j : Nat} (E : Er G I F R2 ρ σ H) (q : RvOk G F R R1 r v) (q2 : RvOk G F R1 R2 r2 v2) (hij : i ≠ j) : Er G I F R ((ρ.set i r.sv).set j r2.sv) ((σ.set i (some v)).set j (some v2)) H := by
  have E1 := E.setRV q2 j
  have E2 := E1.setRV q i
  rw [List.set_comm _ _ (Ne.symm hij), List.set_comm _ _ (Ne.symm hij)] at E2
  exact E2
theorem ds_par {i j : Nat} {x y : Str} {a b : Expr} {f g : EF} {px py pt pos : Pos} {kt k2 pt2} (hc : X.calm = true) (hN : X.N.Nodup) (hi : X.N[i]? = some x) (hj : X.N[j]? = some y) (hij : i ≠ j)
    (hx : X.env.scope.names.lookup x = some .local) (hy : X.env.scope.names.lookup y = some .local) (ha : DE X G W a f) (hb : DE X G W b g)
    (hw : swappedStores [.Tuple [.Name x px, .Name y py] kt pt] (.Tuple [a, b] k2 pt2) X.env = pure (some [x, y]))
    (hs : swapsWithSole [.Tuple [.Name x px, .Name y py] kt pt] (.Tuple [a, b] k2 pt2) pos.line X.env = pure false := by rfl)
    (h1 : starEach [a, b] X.env = (false, eval a X.env) :: starEach [b] X.env := by rfl) (h2 : starEach [b] X.env = (false, eval b X.env) :: starEach [] X.env := by rfl) :
    DS X G W (.Assign [.Tuple [.Name x px, .Name y py] kt pt] (.Tuple [a, b] k2 pt2) pos) (sPar i j f g) :=
  ds_of (ps_par hc hN hi hj hij hx hy (pa_cons ha (pa_cons hb pa_nil h2) h1) hw hs) fun Dn σ H ⟨I, F, R, ρ, E, h⟩ => by
    refine ⟨I, F, R, ρ, E, h.bind.mono (fun r ρ1 h v F1 R1 H1 e1 q1 E1 => ?_) fun _ _ h => h.p⟩
    refine ⟨I, F1, R1, ρ1, E1, h.bind.mono (fun r2 ρ2 h v2 F2 R2 H2 e2 q2 E2 => ?_) fun x ρ' h c d F3 H3 e3 x3 E3 => (h.mono e1).p c d F3 H3 e3 x3 (E3.dropR q1.ex)⟩
    exact ⟨v, v2, rfl, h _ F2 H2 (e1.trans e2) (E2.set2 (q1.keep e2) q2 hij)⟩
/-! ### x op= e -/
def sAug (i : Nat) (sem : D → D → Option PR) (f : EF) : SF := fun ρ => match ρ.fix i with
  | some d => (f ρ).bind fun r ρ1 => (finish ρ1 (sem d r.toD)).bind fun r2 ρ2 => .ok .nx (ρ2.set i r2.sv)
  | none => .bad
theorem ds_aug {i : Nat} {x : Str} {e : Expr} {op : Operator} {r : R2} {sem : D → D → Option PR} {f : EF} {p pos : Pos} (hN : X.N.Nodup) (hi : X.N[i]? = some x) (hx : Loc X.env.scope x) (he : DE X G W e f) (ho : OpR X (inplaceOp op) r) (hp : PrOk2 G r sem) (hf : X.fn x = true ∨ X.env.scope.names.lookup x = some .local := by first | exact .inl rfl | exact .inr rfl | assumption) :
    DS X G W (.AugAssign (.Name x p) op e pos) (sAug i sem f) :=
  ds_of (ps_aug (ti := r) hN hi hx he (fun pins s σ H x y v u Q I rx ry h => ho pins s σ H x y v u Q I rx ry h) hf) fun Dn σ H ⟨I, F, R, ρ, E, h⟩ => by
    unfold sAug at h
    split at h
    · rename_i d hd
      obtain ⟨v, h1, h2⟩ := E.fix hd
      refine ⟨v, h1, I, F, R, ρ, E, h.bind.mono (fun rr ρ1 h w F1 R1 H1 e1 q1 E1 => ?_) fun _ _ h => h.p⟩
      obtain ⟨F2, e2, r2, E2⟩ := q1.frz E1
      cases hs : sem d rr.toD with
      | none => rw [hs] at h; exact h.elim
      | some p =>
        rw [hs] at h
        refine hp F2 H1 v w d rr.toD p _ E2.fH (Vw.of E2.fH (Rp.mono (e1.trans e2) _ _ h2)) (Vw.of E2.fH r2) hs ?_
        cases p with
        | sc d' => exact fun z rz => h (σ.set i (some z)) F2 H1 (e1.trans e2) (E2.setRV (r := .fz d') ⟨rfl, rz⟩ i)
        | nl ds =>
          intro q xs rx hq
          have E3 := E2.newR (o := .lst xs) hq
          exact h (σ.set i (some (.ref q))) F2 _ (e1.trans e2) (E3.2.2.setRV (r := .ow (.lst ds)) (rvok_new E3.2.1 rx) i)
        | nt ds =>
          intro q xs o hd' rx hq
          obtain ⟨e4, E4⟩ := E2.newF (o := .frz o (.tup xs)) hq
          refine h (σ.set i (some (.ref q))) _ _ ((e1.trans e2).trans e4) (E4.setRV (r := .fz (.tup ds)) ⟨rfl, ?_⟩ i)
          simp only [Rp]
          exact ⟨q, xs, rfl, .inl ⟨o, upd_same, hd'⟩, Rps.mono e4 _ _ rx⟩
    · exact h.elim
/-! ### targets x[k], k a name -/
def gIx (i k : Nat) : D → Rho → Option Rho := fun d ρ => match ρ.fix k, ρ.ol i with
  | some (.int k), some ds => (ixN ds.length k).map fun j => ρ.put i (.lst (ds.set j d))
  | _, _ => none
theorem tg_ix {i k : Nat} : TgOk G (gSub (tVar i) (tVar k) rSetL) [] (gIx i k) := ⟨fun I F R ρ σ H d v ρ' Q E r h kk => by
  unfold gIx at h
  split at h
  · rename_i n ds hn hds
    obtain ⟨j, hj, rfl⟩ := Option.map_eq_some_iff.mp h
    obtain ⟨w, h1, h2⟩ := E.fix hn
    simp only [Rp] at h2
    subst h2
    obtain ⟨p, xs, h3, h4, h5, h6⟩ := E.ol hds
    exact ⟨_, h3, _, h1, p, xs, n, j, rfl, rfl, h4, by rw [h5.length]; exact hj, kk σ _ (h6 _ _ (h5.set j r)) rfl fun _ _ => rfl⟩
  · cases h⟩
end
end VI

end
section
set_option Elab.async false
set_option linter.all false
set_option maxRecDepth 100000
namespace VI
open PySem L2 PySem.Spec PyProof.Rows
section
variable {G : Gx} {W : WX} {I : Nat → Option V} {F F2 R H : Hp} {ρ : Rho} {σ : L2.St} {X : Cx}
/-! ### dicts of ints and texts -/
def D.key : D → Option Key
  | .int i => some (.inl i)
  | .str s => some (.inr s)
  | _ => none
theorem key_ok {H : Hp} {d : D} {k : Key} {v : V} (h : d.key = some k) (r : Vw G F H d v) : v = kV k := by
  cases d <;> first | (cases h; done) | skip
  · cases h; exact vw_int r
  · cases h; exact vw_str r
theorem key_ok' {d : D} {k : Key} {v : V} (h : d.key = some k) (r : Rp G F d v) : v = kV k := by
  cases d <;> first | (cases h; done) | skip
  · cases h; simp only [Rp] at r; exact r
  · cases h; simp only [Rp] at r; exact r
def dkVal : List Key → List D → Key → Option D
  | k :: ks, d :: ds, j => if k = j then some d else dkVal ks ds j
  | _, _, _ => none
theorem valV_cons {k j : Key} {v : V} {kvs : List (Key × V)} : valV ((k, v) :: kvs) j = if k = j then some v else valV kvs j := by
  unfold valV
  rw [List.find?_cons]
  by_cases h : k = j
  · simp [h]
  · simp [h]
theorem dkVal_ok : ∀ {kvs : List (Key × V)} {ks : List Key} {ds : List D} {j : Key}, kvs.map (·.1) = ks → Rps G F ds (kvs.map (·.2)) → (dkVal ks ds j = none → valV kvs j = none) ∧ ∀ d, dkVal ks ds j = some d → ∃ v, valV kvs j = some v ∧ Rp G F d v
  | [], ks, ds, j, h1, h2 => by
    subst h1
    exact ⟨fun _ => rfl, fun d h => by cases h⟩
  | (k, v) :: kvs, ks, ds, j, h1, h2 => by
    subst h1
    cases ds with
    | nil => have := h2.invn; simp at this
    | cons d ds =>
      obtain ⟨w, vt, e, r1, r2⟩ := h2.inv
      simp only [List.map_cons, List.cons.injEq] at e
      obtain ⟨e1, e2⟩ := e
      subst e1 e2
      obtain ⟨g1, g2⟩ := dkVal_ok (j := j) (kvs := kvs) rfl r2
      rw [valV_cons]
      simp only [List.map_cons, dkVal]
      by_cases h : k = j
      · simp only [if_pos h]
        exact ⟨(fun z => by cases z), fun d' z => by cases z; exact ⟨_, rfl, r1⟩⟩
      · simp only [if_neg h]
        exact ⟨g1, g2⟩
def dkSet : List Key → List D → Key → D → List D
  | k :: ks, d :: ds, j, e => if k = j then e :: dkSet ks ds j e else d :: dkSet ks ds j e
  | _, _, _, _ => []
def dkPut (ks : List Key) (ds : List D) (j : Key) (e : D) : List Key × List D := if ks.any (fun k => decide (k = j)) then (ks, dkSet ks ds j e) else (ks ++ [j], ds ++ [e])
theorem dkSet_ok {j : Key} {e : D} {w : V} (r : Rp G F e w) : ∀ {kvs : List (Key × V)} {ds : List D}, Rps G F ds (kvs.map (·.2)) → Rps G F (dkSet (kvs.map (·.1)) ds j e) ((kvs.map fun kv => if kv.1 = j then (kv.1, w) else kv).map (·.2))
  | [], ds, h => by
    rw [List.map_nil] at h
    cases ds with
    | nil => exact Rps.nil
    | cons d ds => obtain ⟨_, _, z, _⟩ := h.inv; simp at z
  | (k, v) :: kvs, ds, h => by
    cases ds with
    | nil => have := h.invn; simp at this
    | cons d ds =>
      obtain ⟨x, vt, z, r1, r2⟩ := h.inv
      simp only [List.map_cons, List.cons.injEq] at z
      obtain ⟨e1, e2⟩ := z
      subst e1 e2
      simp only [List.map_cons, dkSet]
      by_cases hk : k = j
      · simp only [if_pos hk]
        exact Rps.cons r (dkSet_ok r r2)
      · simp only [if_neg hk]
        exact Rps.cons r1 (dkSet_ok r r2)
theorem dkPut_ok {j : Key} {e : D} {w : V} {kvs : List (Key × V)} {ds : List D} (r : Rp G F e w) (h : Rps G F ds (kvs.map (·.2))) : (putK kvs j w).map (·.1) = (dkPut (kvs.map (·.1)) ds j e).1 ∧ Rps G F (dkPut (kvs.map (·.1)) ds j e).2 ((putK kvs j w).map (·.2)) := by
  unfold putK dkPut
  rw [List.any_map]
  by_cases hh : (kvs.any fun kv => decide (kv.1 = j)) = true
  · have hh' : (kvs.any ((fun k => decide (k = j)) ∘ fun x => x.1)) = true := hh
    rw [if_pos hh, if_pos hh']
    refine ⟨?_, dkSet_ok r h⟩
    rw [List.map_map]
    apply List.map_congr_left
    intro a _
    show (if a.1 = j then (a.1, w) else a).1 = a.1
    split <;> rfl
  · have hh' : ¬ (kvs.any ((fun k => decide (k = j)) ∘ fun x => x.1)) = true := hh
    rw [if_neg hh, if_neg hh']
    simp only [List.map_append, List.map_cons, List.map_nil]
    exact ⟨trivial, h.append (Rps.cons r Rps.nil)⟩
def rDIn (neg : Bool) : R2 := fun y x H Q => ∃ a o, x = .ref a ∧ DGet H a y o ∧ Q (.bl (if neg then !o.isSome else o.isSome)) H
def semDIn (neg : Bool) : D → D → Option PR
  | k, .dk ks ds => k.key.map fun j => .sc (.bl (if neg then !(dkVal ks ds j).isSome else (dkVal ks ds j).isSome))
  | _, _ => none
theorem vw_dk {H : Hp} {ks : List Key} {ds : List D} {v : V} (h : Vw G F H (.dk ks ds) v) : ∃ a kvs, v = .ref a ∧ H a = some (.dK kvs) ∧ kvs.map (·.1) = ks ∧ Rps G F ds (kvs.map (·.2)) := h
theorem dkVal_some {kvs : List (Key × V)} {ks : List Key} {ds : List D} {j : Key} (h1 : kvs.map (·.1) = ks) (h2 : Rps G F ds (kvs.map (·.2))) : (valV kvs j).isSome = (dkVal ks ds j).isSome := by
  obtain ⟨g1, g2⟩ := dkVal_ok (j := j) h1 h2
  cases h : dkVal ks ds j with
  | none => rw [g1 h]; rfl
  | some d => obtain ⟨v, hv, _⟩ := g2 d h; rw [hv]; rfl
theorem pr_dIn {neg : Bool} : PrOk2 G (rDIn neg) (semDIn neg) := fun F H x y d e p Q ex hx hy hs hp => by
  unfold semDIn at hs
  split at hs
  · obtain ⟨j, h1, rfl⟩ := Option.map_eq_some_iff.mp hs
    obtain ⟨a, kvs, rfl, h2, h3, h4⟩ := vw_dk hy
    rw [key_ok h1 hx]
    refine ⟨a, _, rfl, DGet.k h2, ?_⟩
    rw [dkVal_some h3 h4]
    exact hp _ (by simp only [Rp])
  · cases hs
variable {a b : Expr} {pos : Pos} {g1 g2 : OF}
theorem de_dIn (hu : X.A.units + 1 < cLine) (ha : DO X G W a g1) (hb : DO X G W b g2) (h1 : behindInMarks .In b = false := by rfl) : DE X G W (.Compare a [.In] [b] pos) (eBin (semDIn false) g1 g2) :=
  de_of (pe_cmp (pc_din hu ha hb) h1) fun σ H Q h => tD_bin (r := rDIn false) pr_dIn σ H Q h
theorem de_dNin (hu : X.A.units + 1 < cLine) (ha : DO X G W a g1) (hb : DO X G W b g2) (h1 : behindInMarks .NotIn b = false := by rfl) : DE X G W (.Compare a [.NotIn] [b] pos) (eBin (semDIn true) g1 g2) :=
  de_of (pe_cmp (pc_dnotin hu ha hb) h1) fun σ H Q h => tD_bin (r := rDIn true) pr_dIn σ H Q h
theorem dt_dIn (hu : X.A.units + 1 < cLine) (ha : DO X G W a g1) (hb : DO X G W b g2) (h1 : behindInMarks .In b = false := by rfl) : DT X G W (.Compare a [.In] [b] pos) (fB (eBin (semDIn false) g1 g2)) :=
  dt_of (pt_cmp (pc_din hu ha hb) h1) fun σ H Q h => tD_bin (r := rDIn false) pr_dIn σ H _ (tT_B h)
theorem dt_dNin (hu : X.A.units + 1 < cLine) (ha : DO X G W a g1) (hb : DO X G W b g2) (h1 : behindInMarks .NotIn b = false := by rfl) : DT X G W (.Compare a [.NotIn] [b] pos) (fB (eBin (semDIn true) g1 g2)) :=
  dt_of (pt_cmp (pc_dnotin hu ha hb) h1) fun σ H Q h => tD_bin (r := rDIn true) pr_dIn σ H _ (tT_B h)
def rDGet : R2 := fun x y H Q => ∃ a v, x = .ref a ∧ DGet H a y (some v) ∧ Q v H
def semDGet : D → D → Option PR
  | .dk ks ds, k => k.key.bind fun j => (dkVal ks ds j).map .sc
  | _, _ => none
theorem pr_dGet : PrOk2 G rDGet semDGet := fun F H x y d e p Q ex hx hy hs hp => by
  unfold semDGet at hs
  split at hs
  · obtain ⟨j, h1, hs⟩ := Option.bind_eq_some_iff.mp hs
    obtain ⟨d, h5, rfl⟩ := Option.map_eq_some_iff.mp hs
    obtain ⟨a, kvs, rfl, h2, h3, h4⟩ := vw_dk hx
    obtain ⟨v, h6, h7⟩ := (dkVal_ok (j := j) h3 h4).2 d h5
    rw [key_ok h1 hy]
    exact ⟨a, v, rfl, h6 ▸ DGet.k h2, hp v h7⟩
  · cases hs
theorem de_dGet (hu : X.A.units + 1 < cLine) (ha : DO X G W a g1) (hb : DO X G W b g2) (hs : NoSl b) : DE X G W (.Subscript a b pos) (eBin semDGet g1 g2) :=
  de_of (pe_dget hu ha hb hs) fun σ H Q h => tD_bin (r := rDGet) pr_dGet σ H Q h
/-! d[k] = e -/
def Rho.od (ρ : Rho) (i : Nat) : Option (List Key × List D) := match ρ.own i with
  | some (.dk ks ds) => some (ks, ds)
  | _ => none
theorem Er.od {i : Nat} {kd : List Key × List D} (E : Er G I F R ρ σ H) (h : ρ.od i = some kd) : ∃ p kvs, σ[i]? = some (some (.ref p)) ∧ H p = some (.dK kvs) ∧ kvs.map (·.1) = kd.1 ∧ Rps G F kd.2 (kvs.map (·.2)) ∧
    ∀ ks' ds' kvs', kvs'.map (·.1) = ks' → Rps G F ds' (kvs'.map (·.2)) → Er G I F R (ρ.put i (.dk ks' ds')) σ (upd H p (.dK kvs')) := by
  unfold Rho.od at h
  split at h
  · rename_i ks ds ho
    cases h
    obtain ⟨s, hs, ho⟩ := Option.bind_eq_some_iff.mp ho
    obtain ⟨p, xs, h1, h2, h3, h4, h5⟩ := E.dic hs ho
    refine ⟨p, xs, h1, h2, h3, h4, fun ks' ds' kvs' r1 r2 => ?_⟩
    have := h5 ks' ds' kvs' r1 r2
    unfold Rho.put
    rw [show ρ.getD i .no = s by simp [List.getD, hs]]
    exact this
  · cases h
def sDPutF (i : Nat) (fk f : EF) : SF := fun ρ => (f ρ).bind fun r ρ1 => if (ρ1.od i).isSome = true then (fk ρ1).bind fun k ρ2 => match k.toD.key, ρ2.od i with
    | some j, some (ks, ds) => if ks.length < 1000000 then .ok .nx (ρ2.put i (.dk (dkPut ks ds j r.toD).1 (dkPut ks ds j r.toD).2)) else .bad
    | _, _ => .bad
  else .bad
theorem ds_dPut {i : Nat} {x : Str} {e k : Expr} {f fk : EF} {p tpos pos : Pos} (hu : X.A.units + 1 < cLine) (hp : PE X (.Name x p) (tVar i)) (he : DE X G W e f) (hk : DE X G W k fk)
    (hs : swapsWith e (some (.Subscript (.Name x p) k tpos)) pos.line X.env = pure false := by rfl) : DS X G W (.Assign [.Subscript (.Name x p) k tpos] e pos) (sDPutF i fk f) :=
  ds_of (ps_dput hu hp hk he hs) fun Dn σ H ⟨I, F, R, ρ, E, h⟩ => by
    refine ⟨I, F, R, ρ, E, h.bind.mono (fun r ρ1 h v F1 R1 H1 e1 q1 E1 => ?_) fun _ _ h => h.p⟩
    obtain ⟨F2, e2, r2, E2⟩ := q1.frz E1
    split at h
    · rename_i ho
      obtain ⟨ds, ho⟩ := Option.isSome_iff_exists.mp ho
      obtain ⟨q, xs, g1, _⟩ := E2.od ho
      refine ⟨_, g1, I, F2, R, ρ1, E2, h.bind.mono (fun kr ρ2 h w F3 R3 H3 e3 q3 E3 => ?_) fun _ _ h => (h.mono (e1.trans e2)).p⟩
      obtain ⟨F4, e4, r4, E4⟩ := q3.frz E3
      split at h
      · rename_i j ks ds hj ho1
        split at h
        · rename_i hl
          obtain ⟨q', kvs, h1', h4, h5, h6, h7⟩ := E4.od ho1
          rw [g1] at h1'
          cases h1'
          obtain ⟨z1, z2⟩ := dkPut_ok (j := j) (kvs := kvs) (Rp.mono (e3.trans e4) _ _ r2) h6
          have h5 : kvs.map (·.1) = ks := h5
          refine ⟨q, _, rfl, by rw [key_ok' hj r4]; exact DPut.k h4 (by rw [← List.length_map (f := fun x : Key × V => x.1), h5, sizeLine_eq]; omega), ?_⟩
          refine h σ F4 _ ((e1.trans e2).trans (e3.trans e4)) (h7 _ _ _ ?_ ?_)
          · rw [← h5]; exact z1
          · rw [← h5]; exact z2
        · exact h.elim
      · exact h.elim
    · exact h.elim
def eDNew : EF := fun ρ => .ok (.ow (.dk [] [])) ρ
theorem de_dNew : DE X G W (.Dict [] [] pos) eDNew := de_of pe_dnewK fun σ H Q ⟨I, F, R, ρ, E, h⟩ => fun p hp => by
  have E2 := E.newR (o := .dK []) hp
  exact h (.ref p) F _ _ (Ex.refl F) ⟨[(p, .dK [])], ⟨p, [], rfl, rfl, rfl, Rps.nil⟩, rfl, by simp, fun c hc => by
    have : c = (p, .dK []) := by simpa using hc
    subst this
    exact E2.2.1⟩ E2.2.2
/-- {k: e} -/
def eD1 (f g : EF) : EF := fun ρ => (f ρ).bind fun k ρ1 => (g ρ1).bind fun r ρ2 => match k.toD.key with
  | some j => .ok (.ow (.dk [j] [r.toD])) ρ2
  | none => .bad
theorem de_d1 {k v : Expr} {f g : EF} (hk : DE X G W k f) (hv : DE X G W v g) : DE X G W (.Dict [some k] [v] pos) (eD1 f g) :=
  de_of (pe_disp (pps_cons hk hv pps_nil) (by rfl) (by rfl) (fun z => by cases z) (by decide : (1 : Nat) ≤ 15)) fun σ H Q ⟨I, F, R, ρ, E, h⟩ => fun p hp => by
    have E2 := E.newR (o := .dK []) hp
    refine ⟨I, F, _, ρ, E2.2.2, h.bind.mono (fun kr ρ1 h v1 F1 R1 H1 e1 q1 E1 => ?_) fun x ρ' h c d F3 H3 e3 x3 E3 => h c d F3 H3 e3 x3 (E3.dropR E2.1)⟩
    obtain ⟨F2, e2, r2, E2'⟩ := q1.frz E1
    refine ⟨I, F2, _, ρ1, E2', h.bind.mono (fun rr ρ2 h v2 F3 R3 H3 e3 q3 E3 => ?_) fun x ρ' h c d F3 H3 e3 x3 E3 => h c d F3 H3 ((e1.trans e2).trans e3) x3 (E3.dropR E2.1)⟩
    obtain ⟨F4, e4, r4, E4⟩ := q3.frz E3
    split at h
    · rename_i j hj
      have e5 := key_ok' hj r2
      refine ⟨E4.rH _ _ upd_same, [(j, v2)], by rw [e5]; rfl, by simp, ?_⟩
      refine h (.ref p) F4 _ _ ((e1.trans e2).trans (e3.trans e4)) ⟨[(p, .dK [(j, v2)])], ⟨p, [(j, v2)], rfl, rfl, rfl, Rps.cons r4 Rps.nil⟩, rfl, by simp, fun c hc => ?_⟩ (E4.updR (o' := .dK [(j, v2)]))
      have : c = (p, .dK [(j, v2)]) := by simpa using hc
      subst this
      exact E2.2.1
    · exact h.elim
end
end VI

end
section
set_option Elab.async false
set_option linter.all false
set_option maxRecDepth 100000
namespace VI
open PySem L2 PySem.Spec PyProof.Rows
section
variable {G : Gx} {W : WX} {I : Nat → Option V} {F F2 R H : Hp} {ρ : Rho} {σ : L2.St} {X : Cx}
/-! ### lists of owned lists -/
abbrev Rows := List (Addr × List V)
def refsOf (rs : Rows) : List V := rs.map fun r => .ref r.1
def cellsOf (Dl : Addr) (rs : Rows) : Cells := (Dl, .lst (refsOf rs)) :: rs.map fun r => (r.1, .lst r.2)
theorem Er.updR' {p : Addr} {o o' : HO} {R' : Hp} (E : Er G I F R' ρ σ H) (h : R' p = some o) : Er G I F (upd R' p o') ρ σ (upd H p o') := by
  have e : upd R' p o = R' := by
    funext a
    by_cases z : a = p
    · subst z; rw [upd_same, h]
    · rw [upd_ne z]
  rw [← e] at E
  exact E.updR (o' := o')
theorem cellsOf_map (Dl : Addr) (rs : Rows) : (cellsOf Dl rs).map (·.1) = Dl :: rs.map (·.1) := by
  unfold cellsOf
  rw [List.map_cons, List.map_map]
  rfl
/-- the frame with one more row -/
theorem frame_add {Dl p : Addr} {rs : Rows} {xs : List V} (nd : (Dl :: rs.map (·.1)).Nodup) (hp : addc (cellsOf Dl rs) R p = none) (hR : R p = none) :
    Ex (addc (cellsOf Dl (rs ++ [(p, xs)])) R) (upd (upd (addc (cellsOf Dl rs) R) p (.lst xs)) Dl (.lst (refsOf (rs ++ [(p, xs)])))) := fun a o h => by
  have nd' : ((cellsOf Dl rs).map (·.1)).Nodup := by rw [cellsOf_map]; exact nd
  obtain ⟨n1, _⟩ := addc_none hp nd'
  rcases addc_cases h with ⟨c, hc, rfl, rfl⟩ | ⟨h1, h2⟩
  · unfold cellsOf at hc
    rcases List.mem_cons.mp hc with rfl | hc
    · exact upd_same
    · obtain ⟨r, hr, rfl⟩ := List.mem_map.mp hc
      rcases List.mem_append.mp hr with hr | hr
      · have hm : (r.1, HO.lst r.2) ∈ cellsOf Dl rs := List.mem_cons_of_mem _ (List.mem_map.mpr ⟨r, hr, rfl⟩)
        have ne1 : r.1 ≠ Dl := fun e => by
          rw [List.nodup_cons] at nd
          exact nd.1 (List.mem_map.mpr ⟨r, hr, e⟩)
        have ne2 : r.1 ≠ p := n1 _ hm
        show upd _ _ _ r.1 = _
        rw [upd_ne ne1, upd_ne ne2]
        exact addc_in nd' hm
      · have e : r = (p, xs) := by simpa using hr
        subst e
        have ne1 : p ≠ Dl := fun e => n1 (Dl, .lst (refsOf rs)) (List.mem_cons_self ..) e.symm
        show upd _ _ _ p = _
        rw [upd_ne ne1, upd_same]
  · have ne1 : a ≠ Dl := fun e => h1 (Dl, _) (List.mem_cons_self ..) e.symm
    have ne2 : a ≠ p := fun e => by rw [e, hR] at h2; cases h2
    rw [upd_ne ne1, upd_ne ne2, addc_not fun c hc z => ?_]
    · exact h2
    · unfold cellsOf at hc
      rcases List.mem_cons.mp hc with rfl | hc
      · exact ne1 z.symm
      · obtain ⟨r, hr, rfl⟩ := List.mem_map.mp hc
        exact h1 (r.1, .lst r.2) (List.mem_cons_of_mem _ (List.mem_map.mpr ⟨r, List.mem_append_left _ hr, rfl⟩)) z
theorem rowsOk.app {ds : List D} {r : Addr × List V} (h : Rps G F ds r.2) : ∀ {dss : List (List D)} {rs : Rows}, rowsOk G F dss rs → rowsOk G F (dss ++ [ds]) (rs ++ [r])
  | [], rs, k => by
    have k : rs = [] := k
    subst k
    exact ⟨r, [], rfl, h, rfl⟩
  | es :: dss, rs, ⟨r', rt, h1, h2, h3⟩ => by
    subst h1
    exact ⟨r', rt ++ [r], rfl, h2, rowsOk.app h h3⟩
theorem rowsOk.length : ∀ {dss : List (List D)} {rs : Rows}, rowsOk G F dss rs → rs.length = dss.length
  | [], rs, k => by
    have k : rs = [] := k
    subst k; rfl
  | es :: dss, rs, ⟨r', rt, h1, h2, h3⟩ => by subst h1; simp [rowsOk.length h3]
theorem rowsOk.get : ∀ {dss : List (List D)} {rs : Rows} {i : Nat} {ds : List D}, rowsOk G F dss rs → dss[i]? = some ds → ∃ r, rs[i]? = some r ∧ Rps G F ds r.2
  | [], _, i, ds, _, e => by simp at e
  | es :: dss, rs, 0, ds, ⟨r', rt, h1, h2, h3⟩, e => by
    simp only [List.getElem?_cons_zero, Option.some.injEq] at e
    subst e h1
    exact ⟨r', rfl, h2⟩
  | es :: dss, rs, i + 1, ds, ⟨r', rt, h1, h2, h3⟩, e => by
    subst h1
    obtain ⟨r, g1, g2⟩ := rowsOk.get (i := i) h3 (by simpa using e)
    exact ⟨r, by simpa using g1, g2⟩
theorem rowsOk.set {ds : List D} {xs : List V} (h : Rps G F ds xs) : ∀ {dss : List (List D)} {rs : Rows} {i : Nat} {r : Addr × List V}, rowsOk G F dss rs → rs[i]? = some r → rowsOk G F (dss.set i ds) (rs.set i (r.1, xs))
  | [], rs, i, r, k, e => by
    have k : rs = [] := k
    subst k
    simp at e
  | es :: dss, rs, 0, r, ⟨r', rt, h1, h2, h3⟩, e => by
    subst h1
    simp only [List.getElem?_cons_zero, Option.some.injEq] at e
    subst e
    exact ⟨(r'.1, xs), rt, rfl, h, h3⟩
  | es :: dss, rs, i + 1, r, ⟨r', rt, h1, h2, h3⟩, e => by
    subst h1
    exact ⟨r', rt.set i (r.1, xs), rfl, h2, rowsOk.set h h3 (by simpa using e)⟩
/-- the loop that makes rows -/
def lcR (vs : List Nat) (tg : D → Rho → Option Rho) (cond : TF) (elt : EF) : List D → Rho → Rs (List (List D))
  | [], ρ => .ok [] ρ
  | d :: ds, ρ => match tg d ρ with
    | none => .bad
    | some ρ1 => (cond ρ1).nox.bind fun b ρ2 => if b = true then (elt ρ2).nox.bind fun r ρ3 => match r with
        | .ow (.lst es) => (lcR vs tg cond elt ds (wipeR ρ3 vs)).bind fun rs ρ4 => .ok (es :: rs) ρ4
        | _ => .bad
      else lcR vs tg cond elt ds (wipeR ρ2 vs)
def okLR (G : Gx) (I : Nat → Option V) (F R : Hp) (σ : L2.St) (Dl : Addr) (Qd : Hp → Prop) (acc : List (List D)) : List (List D) → Rho → Prop := fun rs ρ'' =>
  acc.length + rs.length ≤ 1000000 ∧ ∀ F'' rows H'', Ex F F'' → Er G I F'' (addc (cellsOf Dl rows) R) ρ'' σ H'' → rowsOk G F'' (acc ++ rs) rows → (Dl :: rows.map (·.1)).Nodup → (∀ r ∈ rows, R r.1 = none) → Qd H''
theorem postLR.mono {Dl : Addr} {Qd : Hp → Prop} {acc : List (List D)} {r : Rs (List (List D))} (e : Ex F F2) (h : Post (okLR G I F R σ Dl Qd acc) (fun _ _ => False) r) : Post (okLR G I F2 R σ Dl Qd acc) (fun _ _ => False) r :=
  h.mono (fun _ _ h => ⟨h.1, fun F'' accV H'' e' => h.2 F'' accV H'' (e.trans e')⟩) fun _ _ h => h
theorem lcr_data {J : It} {ds : List D} {g : TG} {sl vs : List Nat} {tg : D → Rho → Option Rho} (hg : TgOk G g sl tg) (hsl : ∀ k ∈ sl, k ∈ vs) {cond : TF} {elt : EF} {Dl : Addr} {Qd : Hp → Prop} {H0 : Hp} {acc : List (List D)} {rows : Rows} {Fw : Hp} (w : Wk G Fw J ds) (ew : Ex Fw F) (hD : R Dl = none)
    (E : Er G I F (addc (cellsOf Dl rows) R) ρ (wipe σ vs) H0) (r0 : rowsOk G F acc rows) (nd : (Dl :: rows.map (·.1)).Nodup) (hr : ∀ r ∈ rows, R r.1 = none) (h : Post (okLR G I F R (wipe σ vs) Dl Qd acc) (fun _ _ => False) (lcR vs tg cond elt ds ρ)) :
    ∃ W : Nat → Nat → Hp → Prop, (∃ m, W 0 m H0) ∧ ∀ i m H, W i m H →
      (J.stop i H ∧ Qd H) ∨ (J.go i H ∧ ∃ Nx : Hp → Prop, (∀ H', Nx H' → ∃ m', m' < m ∧ W (i + 1) m' H') ∧ ∀ x H', J.yld i H x H' → g x (wipe σ vs) H' fun σ2 H2 => wipe σ2 vs = wipe σ vs ∧ tT G WF cond σ2 H2 fun b H3 =>
        if b = true then tD G WF elt σ2 H3 fun y H4 => ∃ acc, H4 Dl = some (.lst acc) ∧ acc.length < sizeLine ∧ Nx (upd H4 Dl (.lst (acc ++ [y]))) else Nx H3) := by
  obtain ⟨Gp, Y, w1, w2, w3⟩ := w
  refine lc_loop w1 (fun i H => ∃ F' ρ' acc rows, Ex F F' ∧ Er G I F' (addc (cellsOf Dl rows) R) ρ' (wipe σ vs) H ∧ rowsOk G F' acc rows ∧ (Dl :: rows.map (·.1)).Nodup ∧ (∀ r ∈ rows, R r.1 = none) ∧ Post (okLR G I F' R (wipe σ vs) Dl Qd acc) (fun _ _ => False) (lcR vs tg cond elt (ds.drop i) ρ'))
    ⟨F, ρ, acc, rows, Ex.refl F, E, r0, nd, hr, h⟩ ?_ ?_ ?_
  · rintro i H _ ⟨F', ρ', acc, accV, e', E', _⟩
    exact w2 H ((ew.trans e').trans E'.fH)
  · rintro i x H3 H4 hi ⟨F', ρ', acc, rows, e', E', r', nd', hr', h'⟩ y
    obtain ⟨d, hd, hdr⟩ := drop_cons hi
    obtain ⟨F3, e3, r3, E3⟩ := Wk.yld (J := J) (ew.trans e') E' hd (w3 i H3 x H4 hi ((ew.trans e').trans E'.fH) y)
    rw [hdr] at h'
    unfold lcR at h'
    split at h'
    · exact h'.elim
    · rename_i ρ4 hρ
      refine hg.run I F3 _ ρ' _ H4 d x ρ4 _ E3 r3 hρ fun σ2 H9 E4 l4 k4 => ?_
      have hw : wipe σ2 vs = wipe σ vs := (wipe_congr l4 fun k hk => k4 k fun m => hk (hsl k m)).trans wipe_idem
      refine ⟨hw, I, F3, _, ρ4, E4, h'.bind.nox.mono (fun b ρ5 h5 F5 H5 e5 E5 => ?_) fun _ _ h => h.elim⟩
      cases b with
      | false =>
        have E6 := E5.wipe vs
        rw [hw] at E6
        exact iteF ⟨F5, _, acc, rows, (e'.trans e3).trans e5, E6, r'.mono (e3.trans e5), nd', hr', postLR.mono (e3.trans e5) h5⟩
      | true =>
        refine iteT ⟨I, F5, _, ρ5, E5, (show Post _ _ ((elt ρ5).nox.bind _) from h5).bind.nox.mono (fun r ρ6 h6 v F6 R6 H6 e6 q6 E6 => ?_) fun _ _ h => h.elim⟩
        split at h6
        · rename_i es
          obtain ⟨rs, ρ8, h8, h9⟩ := h6.bind.some
          have hlen : acc.length + (es :: rs).length ≤ 1000000 := h9.1
          obtain ⟨cs, ⟨p, xs, rfl, rfl, q7⟩, rfl, _, q9⟩ := q6
          have hp : addc (cellsOf Dl rows) R p = none := q9 (p, .lst xs) (by simp)
          have nd'' : ((cellsOf Dl rows).map (·.1)).Nodup := by rw [cellsOf_map]; exact nd'
          obtain ⟨n1, n2⟩ := addc_none hp nd''
          have hDl0 : addc (cellsOf Dl rows) R Dl = some (.lst (refsOf rows)) := addc_in (c := (Dl, .lst (refsOf rows))) nd'' (List.mem_cons_self ..)
          have neD : Dl ≠ p := n1 (Dl, .lst (refsOf rows)) (List.mem_cons_self ..)
          have hDl1 : upd (addc (cellsOf Dl rows) R) p (.lst xs) Dl = some (.lst (refsOf rows)) := by rw [upd_ne neD]; exact hDl0
          have hDl : H6 Dl = some (.lst (refsOf rows)) := E6.rH Dl _ hDl1
          have hrl := r'.length
          refine ⟨refsOf rows, hDl, ?_, F6, wipeR ρ6 vs, acc ++ [es], rows ++ [(p, xs)], (e'.trans e3).trans (e5.trans e6), ?_, ?_, ?_, ?_, ?_⟩
          · unfold refsOf
            rw [List.length_map, hrl, sizeLine_eq]
            simp only [List.length_cons] at hlen
            omega
          · have E7 := Er.updR' (o' := .lst (refsOf rows ++ [.ref p])) E6 hDl1
            have E8 := (E7.dropR (R := addc (cellsOf Dl (rows ++ [(p, xs)])) R) (by
              have := frame_add (xs := xs) nd' hp n2
              unfold refsOf at this ⊢
              rw [List.map_append] at this
              exact this)).wipe vs
            rw [hw] at E8
            exact E8
          · exact rowsOk.app (r := (p, xs)) q7 (r'.mono ((e3.trans e5).trans e6))
          · rw [List.map_append, ← List.cons_append]
            refine List.nodup_append.mpr ⟨nd', by simp, ?_⟩
            intro a ha b hb
            have e : b = p := by simpa using hb
            subst e
            rcases List.mem_cons.mp ha with rfl | ha
            · exact neD
            · obtain ⟨r, hr, rfl⟩ := List.mem_map.mp ha
              exact n1 (r.1, .lst r.2) (List.mem_cons_of_mem _ (List.mem_map.mpr ⟨r, hr, rfl⟩))
          · intro r hr
            rcases List.mem_append.mp hr with hr | hr
            · exact hr' r hr
            · have e : r = (p, xs) := by simpa using hr
              subst e; exact n2
          · rw [h8]
            refine ⟨by simp only [List.length_append, List.length_cons, List.length_nil] at hlen ⊢; omega, fun F'' rows'' H'' e'' E'' r'' nd2 hr2 => ?_⟩
            rw [List.append_assoc] at r''
            exact h9.2 F'' rows'' H'' ((e3.trans e5).trans (e6.trans e'')) E'' r'' nd2 hr2
        · exact h6.elim
  · rintro H ⟨F', ρ', acc, rows, e', E', r', nd', hr', h'⟩
    rw [List.drop_length] at h'
    exact h'.2 F' rows H (Ex.refl F') E' (by rw [List.append_nil]; exact r') nd' hr'
def eLcR (vs : List Nat) (it : IF) (tg : D → Rho → Option Rho) (cond : TF) (elt : EF) : EF := fun ρ => (it ρ).bind fun ds ρ1 => if plainVars ρ1 vs then (lcR vs tg cond elt ds (wipeR ρ1 vs)).nox.bind fun rs ρ2 => if rs.length ≤ 1000000 then .ok (.ow (.l2 rs)) (restR ρ1 ρ2 vs) else .bad
  else .bad
theorem tD_lcR {it : IF} {g : TG} {sl vs : List Nat} {tg : D → Rho → Option Rho} (hg : TgOk G g sl tg) (hsl : ∀ k ∈ sl, k ∈ vs) {cond : TF} {elt : EF} : ∀ σ H Q, tD G W (eLcR vs it tg cond elt) σ H Q → tLc (tI G W it) g (tT G WF cond) (tD G WF elt) vs σ H Q := fun σ H Q ⟨I, F, R, ρ, E, h⟩ => by
  refine ⟨I, F, R, ρ, E, h.bind.mono (fun ds ρ1 h J F2 H2 e2 E2 w Dl hD => ?_) fun _ _ h => h⟩
  split at h
  · rename_i hv
    obtain ⟨eR, hR, E3⟩ := E2.newR (o := .lst []) hD
    have E4 := E3.wipe vs
    refine lcr_data (rows := []) (acc := []) hg hsl w (Ex.refl F2) hR E4 rfl (by simp) (fun _ z => nomatch z) (Qd := Q (.ref Dl)) ?_
    refine h.bind.nox.mono (fun rs ρ2 h2 => ?_) fun _ _ h => h
    split at h2
    · rename_i hl
      refine ⟨by simpa using hl, fun F'' rows H'' e'' E'' r'' nd hr => ?_⟩
      refine h2 (.ref Dl) F'' _ H'' (e2.trans e'') ⟨cellsOf Dl rows, ⟨Dl, rows, rfl, rfl, r''⟩, rfl, by rw [cellsOf_map]; exact nd, fun c hc => ?_⟩ (E2.rest hv e'' E'')
      unfold cellsOf at hc
      rcases List.mem_cons.mp hc with rfl | hc
      · exact hR
      · obtain ⟨r, hr', rfl⟩ := List.mem_map.mp hc
        exact hr r hr'
    · exact h2.elim
  · exact h.elim
variable {elt tg iter : Expr} {ifs : List Expr} {scope : Scope} {own : List (Str × Nat)} {pos : Pos} {it : IF} {g : TG} {sl : List Nat} {sem : D → Rho → Option Rho} {cond : TF} {ef : EF}
theorem de_lcR (own : List (Str × Nat)) (hc : X.calm = true) (hN : X.N.Nodup) (hi : DI X G W tg iter it) (ok : BlkOk X.N X.env.scope scope own) (hg : Blk X scope fun X => PG X tg g) (hk : TgOk G g sl sem) (hsl : ∀ k ∈ sl, k ∈ own.map (·.2)) (ht : Blk X scope fun X => DTs X G WF ifs cond)
    (he : Blk X scope fun X => DE X G WF elt ef) (hs : ∀ x, foldedSetIterable iter X.env x = pure x := by intro _; rfl) : DE X G W (.ListComp elt [⟨tg, iter, ifs, 0⟩] scope pos) (eLcR (own.map (·.2)) it sem cond ef) :=
  de_of (pe_lc hc hN hi ok hg ht he hs) (tD_lcR hk hsl)
theorem ds_setLcR {i : Nat} {y : Str} {py spos : Pos} (own : List (Str × Nat)) (hc : X.calm = true) (hN : X.N.Nodup) (hy : X.N[i]? = some y) (hyl : X.env.scope.names.lookup y = some .local)
    (hsw : swapsWith (.ListComp elt [⟨tg, iter, ifs, 0⟩] scope pos) (some (.Name y py)) spos.line X.env = pure true) (hi : DI X G W tg iter it) (ok : BlkOk X.N X.env.scope scope own) (hg : Blk X scope fun X => PG X tg g) (hk : TgOk G g sl sem) (hsl : ∀ k ∈ sl, k ∈ own.map (·.2)) (ht : Blk X scope fun X => DTs X G WF ifs cond)
    (he : Blk X scope fun X => DE X G WF elt ef) (hs : ∀ x, foldedSetIterable iter X.env x = pure x := by intro _; rfl) : DS X G W (.Assign [.Name y py] (.ListComp elt [⟨tg, iter, ifs, 0⟩] scope pos) spos) (sSet i (eLcR (own.map (·.2)) it sem cond ef)) :=
  ds_of (ps_setLc hc hN hy hyl hsw hi ok hg ht he hs) (tS_set (tD_lcR hk hsl))
/-! ### rows[x][y] -/
/-- the slot's things are set aside while f is worked out -/
def Rho.o2 (ρ : Rho) (i : Nat) : Option (List (List D)) := match ρ.own i with
  | some (.l2 dss) => some dss
  | _ => none
theorem Er.o2 {i : Nat} {dss : List (List D)} (E : Er G I F R ρ σ H) (h : ρ.o2 i = some dss) : ∃ p rows s, ρ[i]? = some s ∧ s.own? = some (.l2 dss) ∧ σ[i]? = some (some (.ref p)) ∧ rowsOk G F dss rows ∧ (p :: rows.map (·.1)).Nodup ∧ (∀ c ∈ cellsOf p rows, R c.1 = none) ∧ Er G I F (addc (cellsOf p rows) R) (ρ.set i .no) σ H ∧
    (∀ v, (s = .io (.l2 dss) → I i = some v) → v = .ref p → ∀ o, s.re o = .ow o ∨ I i = some v) := by
  unfold Rho.o2 at h
  split at h
  · rename_i o ho
    cases h
    obtain ⟨s, hs, ho⟩ := Option.bind_eq_some_iff.mp ho
    have E0 := E
    obtain ⟨cs, v, h1, ⟨p, rows, rfl, rfl, h2⟩, h3, h4, h5⟩ := E.move hs ho
    refine ⟨p, rows, s, hs, ho, h1, h2, ?_, h4, h5, fun v hv _ o => ?_⟩
    · have := cellsOf_map p rows
      rw [← this]; exact h3
    · cases s with
      | ow _ => exact .inl rfl
      | io o' => cases ho; exact .inr (hv rfl)
      | no => cases ho
      | fz _ => cases ho
  · cases h
theorem set_self {σ : L2.St} {i : Nat} {v : V} (h : σ[i]? = some (some v)) : σ.set i (some v) = σ := by
  apply List.ext_getElem?
  intro k
  by_cases e : i = k
  · subst e
    rw [List.getElem?_set_self (List.getElem?_eq_some_iff.mp h).1, h]
  · rw [List.getElem?_set_ne e]
/-- put back -/
theorem Er.back {i : Nat} {s : SV} {o' : O} {cs : Cells} {v : V} {ρ3 : Rho} (E : Er G I F (addc cs R) ρ3 σ H) (hv : σ[i]? = some (some v)) (nd : (cs.map (·.1)).Nodup) (hR : ∀ c ∈ cs, R c.1 = none) (ho : OC G F o' v cs) (hs : s = .ow o' ∨ (s = .io o' ∧ I i = some v)) : Er G I F R (ρ3.set i s) σ H := by
  have := E.set (i := i) (s := s) (v := v) nd hR (by
    rcases hs with rfl | ⟨rfl, hI⟩
    · exact ⟨v, rfl, ho⟩
    · exact ⟨v, rfl, hI, ho⟩)
  rwa [set_self hv] at this
def SV.isOw : SV → Bool
  | .ow _ => true
  | _ => false
/-- rows[x][y] read -/
def eIx2 (i : Nat) (fx fy : EF) : EF := fun ρ => match ρ[i]?, ρ.o2 i with
  | some (.ow _), some dss => (fx (ρ.set i .no)).nox.bind fun rx ρ1 => match rx with
    | .fz (.int x) => match atI dss x with
      | some row => (fy ρ1).nox.bind fun ry ρ2 => match ry with
        | .fz (.int y) => match atI row y with
          | some d => .ok (.fz d) (ρ2.set i (.ow (.l2 dss)))
          | none => .bad
        | _ => .bad
      | none => .bad
    | _ => .bad
  | _, _ => .bad
theorem atI_rows {dss : List (List D)} {rs : Rows} {x : Int} {row : List D} (h : rowsOk G F dss rs) (e : atI dss x = some row) : ∃ j r, ixN rs.length x = some j ∧ ixN dss.length x = some j ∧ rs[j]? = some r ∧ Rps G F row r.2 ∧ atI (refsOf rs) x = some (.ref r.1) := by
  unfold atI at e
  obtain ⟨j, h1, h2⟩ := Option.bind_eq_some_iff.mp e
  obtain ⟨r, h3, h4⟩ := h.get h2
  have hl := h.length
  refine ⟨j, r, by rw [hl]; exact h1, h1, h3, h4, ?_⟩
  unfold atI refsOf
  rw [List.length_map, hl, h1]
  show (rs.map fun r => V.ref r.1)[j]? = _
  rw [List.getElem?_map, h3]
  rfl
theorem de_ix2 {i : Nat} {n : Str} {ex ey : Expr} {fx fy : EF} {p p1 p2 : Pos} (hK : G.K = X.K) (hp : PE X (.Name n p) (tVar i)) (hx : DE X G W ex fx) (hy : DE X G W ey fy) (s1 : PlainIx ex) (s2 : PlainIx ey) : DE X G W (.Subscript (.Subscript (.Name n p) ex p1) ey p2) (eIx2 i fx fy) :=
  de_of (pe_ix ix_seq (pe_ix ix_seq hp hx s1) hy s2) fun σ H Q ⟨I, F, R, ρ, E, h⟩ => by
    unfold eIx2 at h
    split at h
    · rename_i dss how hd
      obtain ⟨q, rows, s, hs, hso, hσ, hro, nd, hcR, E1, _⟩ := E.o2 hd
      have nd' : ((cellsOf q rows).map (·.1)).Nodup := by rw [cellsOf_map]; exact nd
      refine ⟨_, hσ, I, F, _, _, E1, h.bind.nox.mono (fun rx ρ1 h v F1 R1 H1 e1 q1 E2 => ?_) fun x ρ' h => h.elim⟩
      split at h
      · rename_i x
        split at h
        · rename_i row hrow
          obtain ⟨e3, q3⟩ := q1
          subst e3
          simp only [Rp] at q3
          subst q3
          have hq1 : H1 q = some (.lst (refsOf rows)) := E2.rH _ _ (addc_in (c := (q, .lst (refsOf rows))) nd' (List.mem_cons_self ..))
          obtain ⟨j, r, a1, a2, a3, a4, a5⟩ := atI_rows hro hrow
          refine .inl ⟨q, refsOf rows, x, .ref r.1, rfl, rfl, SqL.of hq1, a5, I, F1, _, ρ1, E2, h.bind.nox.mono (fun ry ρ2 h v F2 R2 H2 e4 q4 E3 => ?_) fun x ρ' h => h.elim⟩
          split at h
          · rename_i y
            split at h
            · rename_i d hd2
              obtain ⟨e5, q5⟩ := q4
              subst e5
              simp only [Rp] at q5
              subst q5
              have hr1 : (r.1, HO.lst r.2) ∈ cellsOf q rows := List.mem_cons_of_mem _ (List.mem_map.mpr ⟨r, List.mem_of_getElem? a3, rfl⟩)
              have hrH : H2 r.1 = some (.lst r.2) := E3.rH _ _ (addc_in (c := (r.1, .lst r.2)) nd' hr1)
              obtain ⟨j2, b1, b2⟩ := Option.bind_eq_some_iff.mp (show (ixN row.length y).bind _ = _ from hd2)
              obtain ⟨w, b3, b4⟩ := a4.get b2
              refine .inl ⟨r.1, r.2, y, w, rfl, rfl, SqL.of hrH, by unfold atI; rw [a4.length, b1]; exact b3, ?_⟩
              refine h w F2 R H2 (e1.trans e4) ⟨rfl, Rp.mono (e1.trans e4) _ _ b4⟩ ?_
              exact E3.back (o' := .l2 dss) hσ nd' hcR ⟨q, rows, rfl, rfl, (hro.mono e1).mono e4⟩ (.inl rfl)
            · exact h.elim
          · exact h.elim
        · exact h.elim
      · exact h.elim
    · exact h.elim
end
end VI

end
section
set_option Elab.async false
set_option linter.all false
set_option maxRecDepth 100000
namespace VI
open PySem L2 PySem.Spec PyProof.Rows
section
variable {G : Gx} {W : WX} {I : Nat → Option V} {F F2 R H : Hp} {ρ : Rho} {σ : L2.St} {X : Cx}
theorem refs_set {rs : Rows} {j : Nat} {r : Addr × List V} {xs : List V} (h : rs[j]? = some r) : refsOf (rs.set j (r.1, xs)) = refsOf rs := by
  unfold refsOf
  apply List.ext_getElem?
  intro k
  rw [List.getElem?_map, List.getElem?_map]
  by_cases e : j = k
  · subst e
    rw [List.getElem?_set_self (List.getElem?_eq_some_iff.mp h).1, h]; rfl
  · rw [List.getElem?_set_ne e]
theorem adrs_set {rs : Rows} {j : Nat} {r : Addr × List V} {xs : List V} (h : rs[j]? = some r) : (rs.set j (r.1, xs)).map (·.1) = rs.map (·.1) := by
  apply List.ext_getElem?
  intro k
  rw [List.getElem?_map, List.getElem?_map]
  by_cases e : j = k
  · subst e
    rw [List.getElem?_set_self (List.getElem?_eq_some_iff.mp h).1, h]; rfl
  · rw [List.getElem?_set_ne e]
theorem row_set {q : Addr} {rs : Rows} {j : Nat} {r : Addr × List V} {xs : List V} (nd : (q :: rs.map (·.1)).Nodup) (h : rs[j]? = some r) :
    Ex (addc (cellsOf q (rs.set j (r.1, xs))) R) (upd (addc (cellsOf q rs) R) r.1 (.lst xs)) := fun a o ha => by
  have nd' : ((cellsOf q rs).map (·.1)).Nodup := by rw [cellsOf_map]; exact nd
  have hj := (List.getElem?_eq_some_iff.mp h).1
  have hqr : q ≠ r.1 := fun e => by
    rw [List.nodup_cons] at nd
    exact nd.1 (List.mem_map.mpr ⟨r, List.mem_of_getElem? h, e.symm⟩)
  rcases addc_cases ha with ⟨c, hc, rfl, rfl⟩ | ⟨h1, h2⟩
  · unfold cellsOf at hc
    rcases List.mem_cons.mp hc with rfl | hc
    · show upd _ _ _ q = _
      rw [upd_ne hqr, refs_set h]
      exact addc_in (c := (q, .lst (refsOf rs))) nd' (List.mem_cons_self ..)
    · obtain ⟨r', hr', rfl⟩ := List.mem_map.mp hc
      obtain ⟨k, hk⟩ := List.mem_iff_getElem?.mp hr'
      by_cases e : j = k
      · subst e
        rw [List.getElem?_set_self hj] at hk
        cases hk
        exact upd_same
      · rw [List.getElem?_set_ne e] at hk
        have ne : r'.1 ≠ r.1 := fun e' => by
          rw [List.nodup_cons] at nd
          have h3 : (rs.map (·.1))[k]? = some r'.1 := by rw [List.getElem?_map, hk]; rfl
          have h4 : (rs.map (·.1))[j]? = some r.1 := by rw [List.getElem?_map, h]; rfl
          have hjl : j < (rs.map (·.1)).length := (List.getElem?_eq_some_iff.mp h4).1
          exact e ((List.getElem?_inj hjl nd.2).mp (by rw [h3, h4, e']))
        show upd _ _ _ r'.1 = _
        rw [upd_ne ne]
        exact addc_in (c := (r'.1, .lst r'.2)) nd' (List.mem_cons_of_mem _ (List.mem_map.mpr ⟨r', List.mem_of_getElem? hk, rfl⟩))
  · have m1 : (cellsOf q (rs.set j (r.1, xs))).map (·.1) = (cellsOf q rs).map (·.1) := by rw [cellsOf_map, cellsOf_map, adrs_set h]
    have h3 : ∀ c ∈ cellsOf q rs, c.1 ≠ a := fun c hc e => by
      have : a ∈ (cellsOf q rs).map (·.1) := List.mem_map.mpr ⟨c, hc, e⟩
      rw [← m1] at this
      obtain ⟨c', hc', e'⟩ := List.mem_map.mp this
      exact h1 c' hc' e'
    have ne : a ≠ r.1 := fun e => h3 (r.1, .lst r.2) (List.mem_cons_of_mem _ (List.mem_map.mpr ⟨r, List.mem_of_getElem? h, rfl⟩)) e.symm
    rw [upd_ne ne, addc_not h3]
    exact h2
/-- a framed row is written, the thing goes back to its slot -/
theorem Er.row {i j : Nat} {q : Addr} {rows : Rows} {dss : List (List D)} {ds : List D} {xs : List V} {r : Addr × List V} (E : Er G I F (addc (cellsOf q rows) R) ρ σ H) (hv : σ[i]? = some (some (.ref q))) (nd : (q :: rows.map (·.1)).Nodup)
    (hR : ∀ c ∈ cellsOf q rows, R c.1 = none) (ho : rowsOk G F dss rows) (hj : rows[j]? = some r) (hx : Rps G F ds xs) : Er G I F R (ρ.set i (.ow (.l2 (dss.set j ds)))) σ (upd H r.1 (.lst xs)) := by
  have nd' : ((cellsOf q rows).map (·.1)).Nodup := by rw [cellsOf_map]; exact nd
  have h1 : addc (cellsOf q rows) R r.1 = some (.lst r.2) := addc_in (c := (r.1, .lst r.2)) nd' (List.mem_cons_of_mem _ (List.mem_map.mpr ⟨r, List.mem_of_getElem? hj, rfl⟩))
  have E1 := (E.updR' (o' := .lst xs) h1).dropR (row_set (xs := xs) nd hj)
  refine E1.back (cs := cellsOf q (rows.set j (r.1, xs))) (o' := .l2 (dss.set j ds)) hv (by rw [cellsOf_map, adrs_set hj]; exact nd) (fun c hc => ?_) ⟨q, rows.set j (r.1, xs), rfl, rfl, rowsOk.set hx ho hj⟩ (.inl rfl)
  have : c.1 ∈ (cellsOf q (rows.set j (r.1, xs))).map (·.1) := List.mem_map.mpr ⟨c, hc, rfl⟩
  rw [cellsOf_map, adrs_set hj, ← cellsOf_map] at this
  obtain ⟨c', hc', e'⟩ := List.mem_map.mp this
  rw [← e']; exact hR c' hc'
/-- rows[x][y] = e -/
def sSetIx2 (i : Nat) (fx fy f : EF) : SF := fun ρ => (f ρ).bind fun r ρ0 => match ρ0[i]?, ρ0.o2 i with
  | some (.ow _), some dss => (fx (ρ0.set i .no)).nox.bind fun rx ρ1 => match rx with
    | .fz (.int x) => match ixN dss.length x with
      | some j => match dss[j]? with
        | some row => (fy ρ1).nox.bind fun ry ρ2 => match ry with
          | .fz (.int y) => match ixN row.length y with
            | some k => .ok .nx (ρ2.set i (.ow (.l2 (dss.set j (row.set k r.toD)))))
            | none => .bad
          | _ => .bad
        | none => .bad
      | none => .bad
    | _ => .bad
  | _, _ => .bad
theorem ds_setIx2 {i : Nat} {n : Str} {e ex ey : Expr} {f fx fy : EF} {p p1 tpos pos : Pos} (hK : G.K = X.K) (hp : PE X (.Name n p) (tVar i)) (he : DE X G W e f) (hx : DE X G W ex fx) (hy : DE X G W ey fy) (s1 : PlainIx ex)
    (ha : ∀ v, assign (.Subscript (.Subscript (.Name n p) ex p1) ey tpos) X.env v = (do
      let ov ← holding [v] (eval (.Subscript (.Name n p) ex p1) X.env)
      let iv ← holding [v, ov] (eval ey X.env)
      standAt tpos
      holding [v, ov, iv] (setItem ov iv v)
      release [v, ov, iv] []) := by intro _; rfl)
    (hs : swapsWithSole [.Subscript (.Subscript (.Name n p) ex p1) ey tpos] e pos.line X.env = pure false := by rfl) (hw : swappedStores [.Subscript (.Subscript (.Name n p) ex p1) ey tpos] e X.env = pure none := by rfl)
    (h1 : (assignEach [.Subscript (.Subscript (.Name n p) ex p1) ey tpos] X.env).map (·.2) = [assign (.Subscript (.Subscript (.Name n p) ex p1) ey tpos) X.env] := by rfl) : DS X G W (.Assign [.Subscript (.Subscript (.Name n p) ex p1) ey tpos] e pos) (sSetIx2 i fx fy f) :=
  ds_of (ps_asg he (pg_sub (pe_ix ix_seq hp hx s1) hy set_list ha) hs hw h1) fun Dn σ H ⟨I, F, R, ρ, E, h⟩ => by
    refine ⟨I, F, R, ρ, E, h.bind.mono (fun r ρ1 h v F1 R1 H1 e1 q1 E1 => ?_) fun _ _ h => h.p⟩
    obtain ⟨F2, e2, r2, E2⟩ := q1.frz E1
    split at h
    · rename_i dss how hd
      obtain ⟨q, rows, s, hs, hso, hσ, hro, nd, hcR, E3, _⟩ := E2.o2 hd
      have nd' : ((cellsOf q rows).map (·.1)).Nodup := by rw [cellsOf_map]; exact nd
      refine ⟨_, hσ, I, F2, _, _, E3, h.bind.nox.mono (fun rx ρ2 h w F3 R3 H3 e3 q3 E4 => ?_) fun x ρ' h => h.elim⟩
      split at h
      · rename_i x
        split at h
        · rename_i j hj
          split at h
          · rename_i row hrow
            obtain ⟨e4, q4⟩ := q3
            subst e4
            simp only [Rp] at q4
            subst q4
            have hq1 : H3 q = some (.lst (refsOf rows)) := E4.rH _ _ (addc_in (c := (q, .lst (refsOf rows))) nd' (List.mem_cons_self ..))
            obtain ⟨j', r', a1, a2, a3, a4, a5⟩ := atI_rows (x := x) (row := row) hro (by unfold atI; rw [hj]; exact hrow)
            rw [hj] at a2
            cases a2
            refine .inl ⟨q, refsOf rows, x, .ref r'.1, rfl, rfl, SqL.of hq1, a5, I, F3, _, ρ2, E4, h.bind.nox.mono (fun ry ρ3 h v' F4 R4 H4 e5 q5 E5 => ?_) fun x ρ' h => h.elim⟩
            split at h
            · rename_i y
              split at h
              · rename_i k hk
                obtain ⟨e6, q6⟩ := q5
                subst e6
                simp only [Rp] at q6
                subst q6
                have hr1 : (r'.1, HO.lst r'.2) ∈ cellsOf q rows := List.mem_cons_of_mem _ (List.mem_map.mpr ⟨r', List.mem_of_getElem? a3, rfl⟩)
                have hrH : H4 r'.1 = some (.lst r'.2) := E5.rH _ _ (addc_in (c := (r'.1, .lst r'.2)) nd' hr1)
                refine ⟨r'.1, r'.2, y, k, rfl, rfl, hrH, by rw [a4.length]; exact hk, ?_⟩
                have ee := e3.trans e5
                exact h σ F4 _ ((e1.trans e2).trans ee) (E5.row hσ nd hcR (hro.mono ee) a3 ((Rps.mono ee _ _ a4).set k (Rp.mono ee _ _ r2)))
              · exact h.elim
            · exact h.elim
          · exact h.elim
        · exact h.elim
      · exact h.elim
    · exact h.elim
/-- target rows[x][y], x and y names -/
def gIx2 (i x y : Nat) : D → Rho → Option Rho := fun d ρ => match ρ[i]?, ρ.o2 i, ρ.fix x, ρ.fix y with
  | some (.ow _), some dss, some (.int x), some (.int y) => (ixN dss.length x).bind fun j => dss[j]?.bind fun row => (ixN row.length y).map fun k => ρ.set i (.ow (.l2 (dss.set j (row.set k d))))
  | _, _, _, _ => none
theorem tg_ix2 {i x y : Nat} (hK : G.K = X.K) : TgOk G (gSub (tOp (rIx X.K) (tVar i) (tVar x)) (tVar y) rSetL) [] (gIx2 i x y) := ⟨fun I F R ρ σ H d v ρ' Q E r h kk => by
  unfold gIx2 at h
  split at h
  · rename_i dss xv yv how hd hx hy
    obtain ⟨j, hj, h⟩ := Option.bind_eq_some_iff.mp h
    obtain ⟨row, hrow, h⟩ := Option.bind_eq_some_iff.mp h
    obtain ⟨k, hk, rfl⟩ := Option.map_eq_some_iff.mp h
    obtain ⟨wx, b1, b2⟩ := E.fix hx
    obtain ⟨wy, b3, b4⟩ := E.fix hy
    simp only [Rp] at b2 b4
    subst b2 b4
    obtain ⟨q, rows, s, hs, hso, hσ, hro, nd, hcR, E3, _⟩ := E.o2 hd
    have nd' : ((cellsOf q rows).map (·.1)).Nodup := by rw [cellsOf_map]; exact nd
    have hq1 : H q = some (.lst (refsOf rows)) := E3.rH _ _ (addc_in (c := (q, .lst (refsOf rows))) nd' (List.mem_cons_self ..))
    obtain ⟨j', r', a1, a2, a3, a4, a5⟩ := atI_rows (x := xv) (row := row) hro (by unfold atI; rw [hj]; exact hrow)
    rw [hj] at a2
    cases a2
    have hr1 : (r'.1, HO.lst r'.2) ∈ cellsOf q rows := List.mem_cons_of_mem _ (List.mem_map.mpr ⟨r', List.mem_of_getElem? a3, rfl⟩)
    have hrH : H r'.1 = some (.lst r'.2) := E3.rH _ _ (addc_in (c := (r'.1, .lst r'.2)) nd' hr1)
    refine ⟨_, hσ, _, b1, .inl ⟨q, refsOf rows, xv, .ref r'.1, rfl, rfl, SqL.of hq1, a5, _, b3, r'.1, r'.2, yv, k, rfl, rfl, hrH, by rw [a4.length]; exact hk, kk σ _ ?_ rfl fun _ _ => rfl⟩⟩
    have := E3.row hσ nd hcR hro a3 (a4.set k r)
    rw [List.set_set] at this
    exact this
  · cases h⟩
end
end VI

end
section
set_option Elab.async false
set_option linter.all false
set_option maxRecDepth 100000
namespace VI
open PySem L2 PySem.Spec PyProof.Rows
/-! ### min of data -/
/-- plain data is told by its pd -/
theorem pd_inj : ∀ (n : Nat) (d e : D), D.le n d = true → D.le n e = true → d.pd = e.pd → d = e := by
  have lists : ∀ (n : Nat), (∀ d e : D, D.le n d = true → D.le n e = true → d.pd = e.pd → d = e) → ∀ ds es : List D, ds.all (D.le n) = true → es.all (D.le n) = true → D.pds ds = D.pds es → ds = es := by
    intro n ih ds
    induction ds with
    | nil =>
      intro es _ _ h
      cases es with
      | nil => rfl
      | cons e es => simp [D.pds] at h
    | cons d ds ihd =>
      intro es h1 h2 h
      cases es with
      | nil => simp [D.pds] at h
      | cons e es =>
        simp only [D.pds, List.cons.injEq] at h
        simp only [List.all_cons, Bool.and_eq_true] at h1 h2
        rw [ih d e h1.1 h2.1 h.1, ihd es h1.2 h2.2 h.2]
  intro n
  induction n with
  | zero =>
    intro d e h1 h2 h
    cases d with
    | non => cases e <;> first | rfl | (simp [D.pd] at h; done) | (simp [D.le] at h2; done)
    | bl b => cases e <;> first | (simp only [D.pd, PyData.bool.injEq] at h; rw [h]) | (simp [D.pd] at h; done) | (simp [D.le] at h2; done)
    | int b => cases e <;> first | (simp only [D.pd, PyData.int.injEq] at h; rw [h]) | (simp [D.pd] at h; done) | (simp [D.le] at h2; done)
    | str b => cases e <;> first | (simp only [D.pd, PyData.str.injEq] at h; rw [h]) | (simp [D.pd] at h; done) | (simp [D.le] at h2; done)
    | _ => simp [D.le] at h1
  | succ n ih =>
    intro d e h1 h2 h
    cases d with
    | non => cases e <;> first | rfl | (simp [D.pd] at h; done) | (simp [D.le] at h2; done)
    | bl b => cases e <;> first | (simp only [D.pd, PyData.bool.injEq] at h; rw [h]) | (simp [D.pd] at h; done) | (simp [D.le] at h2; done)
    | int b => cases e <;> first | (simp only [D.pd, PyData.int.injEq] at h; rw [h]) | (simp [D.pd] at h; done) | (simp [D.le] at h2; done)
    | str b => cases e <;> first | (simp only [D.pd, PyData.str.injEq] at h; rw [h]) | (simp [D.pd] at h; done) | (simp [D.le] at h2; done)
    | lst ds =>
      cases e with
      | lst es =>
        simp only [D.pd, PyData.list.injEq] at h
        simp only [D.le] at h1 h2
        rw [lists n ih ds es h1 h2 h]
      | _ => first | (simp [D.pd] at h; done) | (simp [D.le] at h2; done)
    | tup ds =>
      cases e with
      | tup es =>
        simp only [D.pd, PyData.tuple.injEq] at h
        simp only [D.le] at h1 h2
        rw [lists n ih ds es h1 h2 h]
      | _ => first | (simp [D.pd] at h; done) | (simp [D.le] at h2; done)
    | _ => simp [D.le] at h1
def rMinD (K : PySem.W.Frag) : List V → Hp → VK → Prop := fun vs H Q => ∃ (a : Addr) (xs : List V) (d : PyData) (ds : List PyData), vs = [V.ref a] ∧ SqL K H a xs ∧ DpAll K H xs (d :: ds) ∧ W.AlikeAll (d :: ds) ∧ (∀ e ∈ d :: ds, e.depth ≤ 62) ∧
  ∀ (i : Nat) v, xs[i]? = some v → (d :: ds)[i]? = some (W.minD d ds) → Q v H
theorem depthAll_le : ∀ {ds : List PyData} {n : Nat}, (∀ d ∈ ds, d.depth ≤ n) → PyData.depthAll ds ≤ n
  | [], n, _ => by simp [PyData.depthAll]
  | d :: ds, n, h => by
    simp only [PyData.depthAll]
    have := h d (List.mem_cons_self ..)
    have := depthAll_le (ds := ds) (n := n) fun e he => h e (List.mem_cons_of_mem _ he)
    omega
theorem call_minD {X : Cx} (hc : X.calm = true) (hu : X.A.units + 64 < cLine) : CallR X (.builtin "min") (rMinD X.K) := by
  intro pins s σ H vs us Q I r h
  obtain ⟨a, xs, d, ds, rfl, hs, hd, hal, hdp, q⟩ := h
  obtain ⟨its, rv, hl, hz⟩ := I.list hs
  rw [Vals.ref1 r]
  obtain ⟨as, hra⟩ := Dp.readsAll I _ _ _ hd rv
  have hdl := depthAll_le hdp
  refine W.min_list_data (I.ok.hd hc) hl.isList (by simpa using hra) hal (by omega) fun i v h' tk bs hi hr hk => ?_
  have hi' : its[i]? = some v := by simpa using hi
  obtain ⟨bs2, r2, hlt, _⟩ := W.readsAll_at hra i v hi'
  obtain ⟨e1, _⟩ := reads_det (fun b o h _ => hk b o h) r2 hr
  have hx' : ∃ x, xs[i]? = some x ∧ RelV x v := by
    cases hx : xs[i]? with
    | none => rw [Vals.none_of rv hx] at hi'; cases hi'
    | some x =>
      obtain ⟨u, hu1, hu2⟩ := Vals.get rv hx
      rw [hi'] at hu1
      cases hu1
      exact ⟨x, rfl, hu2⟩
  obtain ⟨x, hx, rx⟩ := hx'
  refine ⟨x, H, I.kept hk, rx, q i x hx ?_⟩
  rw [e1, List.getD_eq_getElem?_getD]
  rw [List.getElem?_eq_getElem hlt]; rfl
section
variable {G : Gx} {F H : Hp}
def semMinD : List D → Option PR
  | [.lst (d :: ds)] => if (d :: ds).all (D.le 12) && alikeB (d :: ds) && (d :: ds).all (fun e => !e.isN) then some (.sc (ds.foldl (fun a y => if W.dataLt y.pd a.pd then y else a) d)) else none
  | _ => none
theorem minD_pd : ∀ (ds : List D) (d : D), W.minD d.pd (D.pds ds) = (ds.foldl (fun a y => if W.dataLt y.pd a.pd then y else a) d).pd
  | [], d => rfl
  | e :: ds, d => by
    have := minD_pd ds (if W.dataLt e.pd d.pd then e else d)
    unfold W.minD at this ⊢
    simp only [D.pds, List.foldl_cons]
    rw [← this]
    congr 1
    split <;> rfl
theorem fold_mem : ∀ (ds : List D) (d : D), ds.foldl (fun a y => if W.dataLt y.pd a.pd then y else a) d ∈ d :: ds
  | [], d => List.mem_cons_self ..
  | e :: ds, d => by
    have := fold_mem ds (if W.dataLt e.pd d.pd then e else d)
    rw [List.foldl_cons]
    rcases List.mem_cons.mp this with h | h
    · rw [h]; split <;> simp
    · exact List.mem_cons_of_mem _ (List.mem_cons_of_mem _ h)
theorem pr_minD : PrOkN G (rMinD G.K) semMinD := fun F H xs ds p Q ex hx hs hp => by
  unfold semMinD at hs
  split at hs
  · rename_i d ds
    split at hs
    · rename_i h
      simp only [Bool.and_eq_true] at h
      obtain ⟨⟨h1, h2⟩, h3⟩ := h
      cases hs
      obtain ⟨v, rfl, a, ys, rfl, h5, h6⟩ := hx.one
      have hdp := rps_dp h1 (Rps.mono ex _ _ h6)
      refine ⟨a, ys, d.pd, D.pds ds, rfl, SqL.of h5, hdp, ⟨alikeB_ok h2, ?_⟩, depth_mem h1, fun i v hi he => ?_⟩
      · intro x hx
        have hx : x ∈ D.pds (d :: ds) := hx
        rw [pds_map] at hx
        obtain ⟨y, hy, rfl⟩ := List.mem_map.mp hx
        have hy3 := List.all_eq_true.mp h3 y hy
        have hy1 := List.all_eq_true.mp h1 y hy
        cases y <;> simp_all [D.pd, D.le, D.isN]
      · have hl := h6.length
        have hlt : i < (d :: ds).length := by rw [← hl]; exact (List.getElem?_eq_some_iff.mp hi).1
        have h7 : (d :: ds)[i]? = some (d :: ds)[i] := List.getElem?_eq_getElem hlt
        obtain ⟨w, hw, rw'⟩ := h6.get h7
        rw [hi] at hw
        cases hw
        rw [minD_pd] at he
        have h8 : (D.pds (d :: ds))[i]? = some ((d :: ds)[i]).pd := by rw [pds_map, List.getElem?_map, h7]; rfl
        have he : (D.pds (d :: ds))[i]? = _ := he
        rw [h8] at he
        have h9 := pd_inj 12 _ _ (List.all_eq_true.mp h1 _ (List.getElem_mem hlt)) (List.all_eq_true.mp h1 _ (fold_mem ds d)) (Option.some.inj he)
        exact hp v (by rw [← h9]; exact rw')
    · cases hs
  · cases hs
end
end VI

end
section
set_option Elab.async false
set_option linter.all false
set_option maxRecDepth 100000
namespace VI
open PySem L2 PySem.Spec PyProof.Rows
section
variable {G : Gx} {W : WX} {I : Nat → Option V} {F F2 R H : Hp} {ρ : Rho} {σ : L2.St} {X : Cx}
/-! ### names, whatever the slot holds -/
/-- as a value: an owned thing becomes fixed -/
def eN (i : Nat) : EF := fun ρ => match ρ[i]? with
  | some (.fz d) => .ok (.fz d) ρ
  | some (.ow o) => .ok (.fz o.toD) (ρ.set i (.fz o.toD))
  | some (.io o) => .ok (.fz o.toD) (ρ.set i (.fz o.toD))
  | _ => .bad
theorem eN_cases (i : Nat) (ρ : Rho) : eN i ρ = eV i ρ ∨ eN i ρ = eZ i ρ := by
  unfold eN eV eZ Rho.fix Rho.own
  cases h : ρ[i]? with
  | none => exact .inl rfl
  | some s =>
    cases s with
    | no => exact .inl rfl
    | fz d => exact .inl rfl
    | ow o => exact .inr rfl
    | io o => exact .inr rfl
theorem tD_n {i : Nat} : ∀ σ H Q, tD G W (eN i) σ H Q → tVar i σ H Q := fun σ H Q ⟨I, F, R, ρ, E, h⟩ => by
  rcases eN_cases i ρ with e | e
  · rw [e] at h; exact tD_v σ H Q ⟨I, F, R, ρ, E, h⟩
  · rw [e] at h; exact tD_z σ H Q ⟨I, F, R, ρ, E, h⟩
theorem de_n {i : Nat} {x : Str} {pos : Pos} (hp : PE X (.Name x pos) (tVar i)) : DE X G W (.Name x pos) (eN i) := de_of hp tD_n
/-- handed out at the end: an owned thing goes along -/
def eR (i : Nat) : EF := fun ρ => match ρ[i]? with
  | some (.fz d) => .ok (.fz d) ρ
  | some (.ow o) => .ok (.ow o) (ρ.set i .no)
  | _ => .bad
theorem tD_r {i : Nat} : ∀ σ H Q, tD G W (eR i) σ H Q → tVar i σ H Q := fun σ H Q ⟨I, F, R, ρ, E, h⟩ => by
  have e : eR i ρ = eV i ρ ∨ eR i ρ = eM i ρ := by
    unfold eR eV eM Rho.fix Rho.own
    cases h' : ρ[i]? with
    | none => exact .inl rfl
    | some s =>
      cases s with
      | no => exact .inl rfl
      | fz d => exact .inl rfl
      | ow o => exact .inr rfl
      | io o => exact .inl rfl
  rcases e with e | e
  · rw [e] at h; exact tD_v σ H Q ⟨I, F, R, ρ, E, h⟩
  · rw [e] at h; exact tD_m σ H Q ⟨I, F, R, ρ, E, h⟩
theorem de_r {i : Nat} {x : Str} {pos : Pos} (hp : PE X (.Name x pos) (tVar i)) : DE X G W (.Name x pos) (eR i) := de_of hp tD_r
/-- as an operand -/
def oN (i : Nat) : OF := fun ρ => match ρ[i]? with
  | some (.fz d) => .ok (.dt d) ρ
  | some (.ow _) => .ok (.pk i) ρ
  | some (.io _) => .ok (.pk i) ρ
  | _ => .bad
theorem tO_n {i : Nat} : ∀ σ H Q, tO G W (oN i) σ H Q → tVar i σ H Q := fun σ H Q ⟨I, F, R, ρ, E, h⟩ => by
  have e : oN i ρ = oE (eV i) ρ ∨ oN i ρ = oP i ρ := by
    unfold oN oE eV oP Rho.fix Rho.own
    cases h' : ρ[i]? with
    | none => exact .inl rfl
    | some s =>
      cases s with
      | no => exact .inl rfl
      | fz d => exact .inl rfl
      | ow o => exact .inr rfl
      | io o => exact .inr rfl
  rcases e with e | e
  · rw [e] at h
    exact tD_v σ H Q (tO_e σ H Q ⟨I, F, R, ρ, E, h⟩)
  · rw [e] at h; exact tO_p σ H Q ⟨I, F, R, ρ, E, h⟩
theorem do_n {i : Nat} {x : Str} {pos : Pos} (hp : PE X (.Name x pos) (tVar i)) : DO X G W (.Name x pos) (oN i) := do_of hp tO_n
/-! ### this way or that way -/
def eOB (f g : EF) : EF := fun ρ => match f ρ with
  | .bad => g ρ
  | r => r
theorem de_ob {e : Expr} {f g : EF} (h1 : DE X G W e f) (h2 : DE X G W e g) : DE X G W e (eOB f g) :=
  ⟨fun pins s σ H Q I ⟨J, F, R, ρ, E, h⟩ => by
    unfold eOB at h
    cases hf : f ρ with
    | bad => rw [hf] at h; exact h2.run pins s σ H Q I ⟨J, F, R, ρ, E, h⟩
    | ok a ρ1 => rw [hf] at h; exact h1.run pins s σ H Q I ⟨J, F, R, ρ, E, by rw [hf]; exact h⟩
    | ex x ρ1 => rw [hf] at h; exact h1.run pins s σ H Q I ⟨J, F, R, ρ, E, by rw [hf]; exact h⟩⟩
/-- what is walked: a list or a tuple -/
def iA (f : EF) : IF := fun ρ => (f ρ).bind fun r ρ1 => match r.toD with
  | .lst ds => .ok ds ρ1
  | .tup ds => .ok ds ρ1
  | _ => .bad
theorem di_A {tg e : Expr} {f : EF} (hK : G.K = X.K) (h : DE X G W e f) : DI X G W tg e (iA f) :=
  ⟨fun pins s σ H Q I0 ⟨I, F, R, ρ, E, k⟩ => by
    have h1 := di_list (tg := tg) hK (do_e h)
    have h2 := di_tup (tg := tg) hK (do_e h)
    unfold iA at k
    cases hf : f ρ with
    | bad => rw [hf] at k; exact k.elim
    | ex x ρ1 =>
      rw [hf] at k
      exact h1.run pins s σ H Q I0 ⟨I, F, R, ρ, E, by unfold iL oE; rw [hf]; exact k⟩
    | ok r ρ1 =>
      rw [hf] at k
      simp only [Rs.bind_ok] at k
      split at k
      · rename_i ds hd
        exact h1.run pins s σ H Q I0 ⟨I, F, R, ρ, E, by unfold iL oE; rw [hf]; simp only [Rs.bind_ok]; rw [hd]; exact k⟩
      · rename_i ds hd
        exact h2.run pins s σ H Q I0 ⟨I, F, R, ρ, E, by unfold iT oE; rw [hf]; simp only [Rs.bind_ok]; rw [hd]; exact k⟩
      · exact k.elim⟩
end
end VI

end
section
set_option Elab.async false
set_option linter.all false
set_option maxRecDepth 100000
namespace VI
open PySem L2 PySem.Spec PyProof.Rows
theorem bb_len : bootBuiltins "len" = some (.builtin "len") := by decide +kernel
theorem bb_abs : bootBuiltins "abs" = some (.builtin "abs") := by decide +kernel
theorem bb_sum : bootBuiltins "sum" = some (.builtin "sum") := by decide +kernel
theorem bb_all : bootBuiltins "all" = some (.builtin "all") := by decide +kernel
theorem bb_any : bootBuiltins "any" = some (.builtin "any") := by decide +kernel
theorem bb_max : bootBuiltins "max" = some (.builtin "max") := by decide +kernel
theorem bb_min : bootBuiltins "min" = some (.builtin "min") := by decide +kernel
theorem bb_sorted : bootBuiltins "sorted" = some (.builtin "sorted") := by decide +kernel
theorem bb_isinstance : bootBuiltins "isinstance" = some (.builtin "isinstance") := by decide +kernel
theorem bb_int : bootBuiltins "int" = some (.type "int") := by decide +kernel
theorem bb_bool : bootBuiltins "bool" = some (.type "bool") := by decide +kernel
theorem bb_str : bootBuiltins "str" = some (.type "str") := by decide +kernel
theorem bb_list : bootBuiltins "list" = some (.type "list") := by decide +kernel
theorem bb_tuple : bootBuiltins "tuple" = some (.type "tuple") := by decide +kernel
theorem bb_dict : bootBuiltins "dict" = some (.type "dict") := by decide +kernel
/-! ### calls of the text's defs -/
structure Has (P : Program) (w : World) (K : PySem.W.Frag) (mg : Str → Option Value) (base : Heap) (G : Gx) (x : Str) (ps : List Str) (k : Nat) (φ : FF) : Prop where
  ex : ∃ f fd, mg x = some (.ref f) ∧ PySem.W.keepIn K (.ref f) = true ∧ Binds K fd ps [] ∧ FnOk P w K mg base (L2.CX P w) k f fd ps (spF G ps.length φ)
section
variable {P : Program} {w : World} {K : PySem.W.Frag} {mg : Str → Option Value} {base : Heap} {G : Gx} {W : WX} {X : Cx} {k j : Nat} {ps : List Str} {x : Str} {p pos : Pos} {e : Expr} {es : List Expr}
theorem de_callH {φ : FF} (ms : List Md) {a : AF} (h : Has X.prog X.w X.K X.mg X.base G x ps j φ) (tk : Takes X W) (hr : Room k X.A) (ha : DA X G W (e :: es) a) (hn : AF.len a ps.length) (hj : j ≤ k := by decide) (hg : Gl X x := by rfl)
    (hdb : (x == ("__debug__" : Str)) = false := by decide) (he : starEach (e :: es) X.env = (false, eval e X.env) :: starEach es X.env := by rfl) (hpl : (backTo pos (starEach es X.env)).any (·.1) = false := by rfl) :
    DE X G W (.Call (.Name x p) (e :: es) [] pos) (eCall φ ms a) := by
  obtain ⟨f, fd, h1, h2, h3, h4⟩ := h.ex
  exact de_call ms h4 tk (hr.mono hj) hg h1 h2 h3 ha hn hdb he hpl
def eCall0 (φ : FF) : EF := fun ρ => (eCall φ [] aNil ρ).nox
theorem de_callH0 {φ : FF} (h : Has X.prog X.w X.K X.mg X.base G x [] j φ) (tk : Takes X W) (hr : Room k X.A) (hj : j ≤ k := by decide) (hg : Gl X x := by rfl)
    (hdb : (x == ("__debug__" : Str)) = false := by decide) : DE X G W (.Call (.Name x p) [] [] pos) (eCall0 φ) := by
  obtain ⟨f, fd, h1, h2, h3, h4⟩ := h.ex
  exact de_call0 h4 tk (hr.mono hj) hg h1 h2 h3 hdb
theorem has_mk {qual : Str} {st : Stmt} {f : Addr} {fd : FuncData} {N : List Str} {body : SF} (Fn : Fun K x qual st f fd) (hm : mg x = some (.ref f)) (hb : Binds K fd ps []) (S : FnScope N ps (defScope st))
    (h : ∀ (cdv : Value) (A : Around) (outer : List PySem.Env) (s : Shared) (H : Hp) (E : XK), Room k (A.deeper (envOfC qual (defScope st) s.heap.objs.size f cdv)) →
      DSs (cxOf (L2.CX P w) P w K mg base N qual (defScope st) f cdv A outer s H E) G (fun c d _ H => E c d H) (defBody st) body) : Has P w K mg base G x ps (k + 1) (semDef N.length body) :=
  ⟨f, fd, hm, Fn.kp, hb, def_ok Fn S h⟩
end
theorem takes_F {X : Cx} : Takes X WF := fun _ _ ⟨_, _, _, _, _, _, _, _, _, _, _, _, _, _, _, _, w⟩ => w.elim
/-! ### places of the text -/
def topOf (P : Program) (i : Nat) : Stmt := P.main.body.getD i (.Pass ⟨0, 0, 0, 0⟩)
end VI

end
section
set_option Elab.async false
set_option linter.all false
namespace VI
open PySem L2
/-! ### the sense of the text, worked out: rules for simp -/
def O.pkD : O → Option D
  | .lst ds => some (.lst ds)
  | .dk ks ds => some (.dk ks ds)
  | .l2 _ => none
def O.odD : O → Option (List Key × List D)
  | .dk ks ds => some (ks, ds)
  | _ => none
section
variable {ρ S : Rho} {i j : Nat} {d : D} {o : O} {f g k : EF} {g1 g2 g3 : OF} {c t u : TF} {p q : SF} {a : AF}
@[simp] theorem eN_fz (h : ρ[i]? = some (.fz d)) : eN i ρ = .ok (.fz d) ρ := by unfold eN; rw [h]
@[simp] theorem eR_fz (h : ρ[i]? = some (.fz d)) : eR i ρ = .ok (.fz d) ρ := by unfold eR; rw [h]
@[simp] theorem eR_ow (h : ρ[i]? = some (.ow o)) : eR i ρ = .ok (.ow o) (ρ.set i .no) := by unfold eR; rw [h]
@[simp] theorem eN_ow (h : ρ[i]? = some (.ow o)) : eN i ρ = .ok (.fz o.toD) (ρ.set i (.fz o.toD)) := by unfold eN; rw [h]
@[simp] theorem oN_fz (h : ρ[i]? = some (.fz d)) : oN i ρ = .ok (.dt d) ρ := by unfold oN; rw [h]
@[simp] theorem oN_ow (h : ρ[i]? = some (.ow o)) : oN i ρ = .ok (.pk i) ρ := by unfold oN; rw [h]
@[simp] theorem oN_io (h : ρ[i]? = some (.io o)) : oN i ρ = .ok (.pk i) ρ := by unfold oN; rw [h]
@[simp] theorem s_eC : eC d ρ = .ok (.fz d) ρ := rfl
@[simp] theorem s_oE : oE f ρ = (f ρ).bind fun r ρ' => .ok (.dt r.toD) ρ' := rfl
@[simp] theorem s_toDf : (RV.fz d).toD = d := rfl
@[simp] theorem s_toDo : (RV.ow o).toD = o.toD := rfl
@[simp] theorem s_svf : (RV.fz d).sv = .fz d := rfl
@[simp] theorem s_svo : (RV.ow o).sv = .ow o := rfl
@[simp] theorem s_toDl {ds : List D} : (O.lst ds).toD = .lst ds := rfl
@[simp] theorem s_toD2 {ds : List (List D)} : (O.l2 ds).toD = .lst (ds.map D.lst) := rfl
@[simp] theorem s_lookd : (OV.dt d).look ρ = some d := rfl
@[simp] theorem s_look1 (h : ρ[i]? = some (.ow o)) : (OV.pk i).look ρ = o.pkD := by
  simp only [OV.look, Rho.own, h, Option.bind_some, SV.own?]
  cases o <;> rfl
@[simp] theorem s_look2 (h : ρ[i]? = some (.io o)) : (OV.pk i).look ρ = o.pkD := by
  simp only [OV.look, Rho.own, h, Option.bind_some, SV.own?]
  cases o <;> rfl
@[simp] theorem s_pkl {ds : List D} : O.pkD (.lst ds) = some (.lst ds) := rfl
@[simp] theorem s_pkd {ks : List Key} {ds : List D} : O.pkD (.dk ks ds) = some (.dk ks ds) := rfl
@[simp] theorem s_od1 (h : ρ[i]? = some (.ow o)) : ρ.od i = o.odD := by
  simp only [Rho.od, Rho.own, h, Option.bind_some, SV.own?]
  cases o <;> rfl
@[simp] theorem s_od2 (h : ρ[i]? = some (.io o)) : ρ.od i = o.odD := by
  simp only [Rho.od, Rho.own, h, Option.bind_some, SV.own?]
  cases o <;> rfl
@[simp] theorem s_odd {ks : List Key} {ds : List D} : O.odD (.dk ks ds) = some (ks, ds) := rfl
@[simp] theorem s_own1 (h : ρ[i]? = some (.ow o)) : ρ.own i = some o := by unfold Rho.own; rw [h]; rfl
@[simp] theorem s_own2 (h : ρ[i]? = some (.io o)) : ρ.own i = some o := by unfold Rho.own; rw [h]; rfl
@[simp] theorem s_fix (h : ρ[i]? = some (.fz d)) : ρ.fix i = some d := by unfold Rho.fix; rw [h]
@[simp] theorem s_ol1 {ds : List D} (h : ρ[i]? = some (.ow (.lst ds))) : ρ.ol i = some ds := by simp only [Rho.ol, Rho.own, h, Option.bind_some, SV.own?]
@[simp] theorem s_ol2 {ds : List D} (h : ρ[i]? = some (.io (.lst ds))) : ρ.ol i = some ds := by simp only [Rho.ol, Rho.own, h, Option.bind_some, SV.own?]
@[simp] theorem s_put1 {o' : O} (h : ρ[i]? = some (.ow o')) : ρ.put i o = ρ.set i (.ow o) := by unfold Rho.put; simp [List.getD, h, SV.re]
@[simp] theorem s_put2 {o' : O} (h : ρ[i]? = some (.io o')) : ρ.put i o = ρ.set i (.io o) := by unfold Rho.put; simp [List.getD, h, SV.re]
@[simp] theorem s_finsc : finish ρ (some (.sc d)) = .ok (.fz d) ρ := rfl
@[simp] theorem s_finnl {ds : List D} : finish ρ (some (.nl ds)) = .ok (.ow (.lst ds)) ρ := rfl
@[simp] theorem s_finnt {ds : List D} : finish ρ (some (.nt ds)) = .ok (.fz (.tup ds)) ρ := rfl
@[simp] theorem s_eBin {sem : D → D → Option PR} : eBin sem g1 g2 ρ = (g1 ρ).bind fun o1 ρ1 => (g2 ρ1).bind fun o2 ρ2 => finish ρ2 ((o1.look ρ2).bind fun d1 => (o2.look ρ2).bind fun d2 => sem d1 d2) := rfl
@[simp] theorem s_eUn {sem : D → Option PR} : eUn sem g1 ρ = (g1 ρ).bind fun o1 ρ1 => finish ρ1 ((o1.look ρ1).bind sem) := rfl
@[simp] theorem s_aNil : aNil ρ = .ok [] ρ := rfl
@[simp] theorem s_aCons : aCons g1 a ρ = (g1 ρ).bind fun o ρ1 => (a ρ1).bind fun os ρ2 => .ok (o :: os) ρ2 := rfl
@[simp] theorem s_looks0 : looks ρ [] = some [] := rfl
@[simp] theorem s_looks1 {ov : OV} {os : List OV} : looks ρ (ov :: os) = (ov.look ρ).bind fun d => (looks ρ os).bind fun ds => some (d :: ds) := rfl
@[simp] theorem s_eCB {sem : List D → Option PR} : eCB sem a ρ = (a ρ).bind fun os ρ1 => finish ρ1 ((looks ρ1 os).bind sem) := rfl
@[simp] theorem s_eDis {mk : List D → PR} : eDis mk a ρ = (a ρ).bind fun os ρ1 => if os.all OV.fixed && decide (os.length ≤ 1000) then finish ρ1 ((looks ρ1 os).map mk) else .bad := rfl
@[simp] theorem s_fxd : (OV.dt d).fixed = true := rfl
@[simp] theorem s_bl {b : Bool} : (RV.fz (.bl b)).bl? = some b := rfl
@[simp] theorem s_fB : fB f ρ = (f ρ).bind fun r ρ1 => match r.bl? with
  | some b => .ok b ρ1
  | none => .bad := rfl
@[simp] theorem s_fAnd : fAnd t u ρ = (t ρ).bind fun b ρ1 => if b = true then u ρ1 else .ok false ρ1 := rfl
@[simp] theorem s_fOr : fOr t u ρ = (t ρ).bind fun b ρ1 => if b = true then .ok true ρ1 else u ρ1 := rfl
@[simp] theorem s_fNot : fNot t ρ = (t ρ).bind fun b ρ1 => .ok (!b) ρ1 := rfl
@[simp] theorem s_fYes : fYes ρ = .ok true ρ := rfl
@[simp] theorem s_eIf : eIf t f g ρ = (t ρ).bind fun b ρ1 => if b = true then f ρ1 else g ρ1 := rfl
@[simp] theorem s_eAnd : eAnd f g ρ = (f ρ).bind fun r ρ1 => match r.bl? with
  | some b => if b = true then g ρ1 else .ok (.fz (.bl false)) ρ1
  | none => .bad := by
  unfold eAnd
  congr 1
  funext r ρ1
  cases r.bl? with
  | none => rfl
  | some b => cases b <;> rfl
@[simp] theorem s_eOr : eOr f g ρ = (f ρ).bind fun r ρ1 => match r.bl? with
  | some b => if b = true then .ok (.fz (.bl true)) ρ1 else g ρ1
  | none => .bad := by
  unfold eOr
  congr 1
  funext r ρ1
  cases r.bl? with
  | none => rfl
  | some b => cases b <;> rfl
@[simp] theorem s_eNot : eNot f ρ = (f ρ).bind fun r ρ1 => match r.bl? with
  | some b => .ok (.fz (.bl (!b))) ρ1
  | none => .bad := by rfl
@[simp] theorem s_eChain {sem sem' : D → D → Option PR} : eChain sem sem' g1 g2 g3 ρ = (g1 ρ).bind fun o1 ρ1 => (g2 ρ1).bind fun o2 ρ2 => match (o1.look ρ2).bind fun d1 => (o2.look ρ2).bind fun d2 => sem d1 d2 with
  | some (.sc (.bl true)) => (g3 ρ2).bind fun o3 ρ3 => finish ρ3 ((o2.look ρ3).bind fun d2 => (o3.look ρ3).bind fun d3 => sem' d2 d3)
  | some (.sc (.bl false)) => .ok (.fz (.bl false)) ρ2
  | _ => .bad := rfl
@[simp] theorem s_sNx : sNx ρ = .ok .nx ρ := rfl
@[simp] theorem s_sBk : sBk ρ = .ok .bk ρ := rfl
@[simp] theorem s_sCt : sCt ρ = .ok .ct ρ := rfl
@[simp] theorem s_sSeq : sSeq p q ρ = (p ρ).bind fun c ρ1 => match c with
  | .nx => q ρ1
  | c => .ok c ρ1 := rfl
@[simp] theorem s_sDrop : sDrop f ρ = (f ρ).bind fun _ ρ1 => .ok .nx ρ1 := rfl
@[simp] theorem s_sRet : sRet f ρ = (f ρ).bind fun r ρ1 => .ok (.rt r) ρ1 := rfl
@[simp] theorem s_sRetN : sRetN ρ = .ok (.rt (.fz .non)) ρ := rfl
@[simp] theorem s_sIf : sIf t p q ρ = (t ρ).bind fun b ρ1 => if b = true then p ρ1 else q ρ1 := rfl
@[simp] theorem s_sSet : sSet i f ρ = (f ρ).bind fun r ρ1 => .ok .nx (ρ1.set i r.sv) := rfl
@[simp] theorem s_gN : gN i d ρ = some (ρ.set i (.fz d)) := rfl
@[simp] theorem s_sFor {it : IF} {tg : D → Rho → Option Rho} : sFor it tg p ρ = (it ρ).bind fun ds ρ1 => forL tg p ds ρ1 := rfl
@[simp] theorem s_eCall {φ : FF} {ms : List Md} : eCall φ ms a ρ = (a ρ).bind fun os ρ1 => match mkArgs ρ1 ms os with
  | none => .bad
  | some args => if okIx ms os then callRes ρ1 ms os (φ args) else .bad := rfl
@[simp] theorem s_mk0 : mkArgs ρ [] [] = some [] := rfl
@[simp] theorem s_mk1 {m : Md} {ms : List Md} {ov : OV} {os : List OV} : mkArgs ρ (m :: ms) (ov :: os) = (mkArg ρ m ov).bind fun a => (mkArgs ρ ms os).map fun as => a :: as := rfl
@[simp] theorem s_mkv : mkArg ρ .v (.dt d) = some (.fz d) := rfl
@[simp] theorem s_mkbd : mkArg ρ .br (.dt d) = some (.fz d) := rfl
@[simp] theorem s_mkio1 (h : ρ[i]? = some (.io o)) : mkArg ρ .io (.pk i) = some (.io o) := by simp only [mkArg, Rho.own, h, Option.bind_some, SV.own?, Option.map_some]
@[simp] theorem s_mkio2 (h : ρ[i]? = some (.ow o)) : mkArg ρ .io (.pk i) = some (.io o) := by simp only [mkArg, Rho.own, h, Option.bind_some, SV.own?, Option.map_some]
@[simp] theorem s_mkbr1 (h : ρ[i]? = some (.io o)) : mkArg ρ .br (.pk i) = some (.fz o.toD) := by simp only [mkArg, Rho.own, h, Option.bind_some, SV.own?, Option.map_some]
@[simp] theorem s_mkbr2 (h : ρ[i]? = some (.ow o)) : mkArg ρ .br (.pk i) = some (.fz o.toD) := by simp only [mkArg, Rho.own, h, Option.bind_some, SV.own?, Option.map_some]
@[simp] theorem s_okIx {ms : List Md} {os : List OV} : okIx ms os = match ioAt ms os 0 with
  | [] => true
  | [(_, j)] => !(brIx ms os).contains j
  | _ => false := rfl
@[simp] theorem s_ioAt0 {p : Nat} {os : List OV} : ioAt [] os p = [] := rfl
@[simp] theorem s_ioAtv {p : Nat} {ms : List Md} {ov : OV} {os : List OV} : ioAt (.v :: ms) (ov :: os) p = ioAt ms os (p + 1) := rfl
@[simp] theorem s_ioAtb {p : Nat} {ms : List Md} {ov : OV} {os : List OV} : ioAt (.br :: ms) (ov :: os) p = ioAt ms os (p + 1) := rfl
@[simp] theorem s_ioAti {p : Nat} {ms : List Md} {os : List OV} : ioAt (.io :: ms) (.pk i :: os) p = (p, i) :: ioAt ms os (p + 1) := rfl
@[simp] theorem s_brIx0 {os : List OV} : brIx [] os = [] := rfl
@[simp] theorem s_brIxv {ms : List Md} {ov : OV} {os : List OV} : brIx (.v :: ms) (ov :: os) = brIx ms os := rfl
@[simp] theorem s_brIxi {ms : List Md} {ov : OV} {os : List OV} : brIx (.io :: ms) (ov :: os) = brIx ms os := rfl
@[simp] theorem s_brIxd {ms : List Md} {os : List OV} : brIx (.br :: ms) (.dt d :: os) = brIx ms os := rfl
@[simp] theorem s_brIxp {ms : List Md} {os : List OV} : brIx (.br :: ms) (.pk i :: os) = i :: brIx ms os := rfl
@[simp] theorem s_setIo0 : setIo ρ [] [] = some ρ := rfl
@[simp] theorem s_setIo1 {p : Nat} {o' : O} (h : ρ[i]? = some (.io o')) : setIo ρ [(p, i)] [o] = some (ρ.set i (.io o)) := by simp [setIo, List.getD, h, SV.re]
@[simp] theorem s_setIo2 {p : Nat} {o' : O} (h : ρ[i]? = some (.ow o')) : setIo ρ [(p, i)] [o] = some (ρ.set i (.ow o)) := by simp [setIo, List.getD, h, SV.re]
@[simp] theorem s_callOk {ms : List Md} {os : List OV} {r : RV} {ios : List O} : callRes ρ ms os (.ok r ios) = match setIo ρ (ioAt ms os 0) ios with
    | none => .bad
    | some ρ2 => if (brIx ms os).isEmpty || (r.flat && ios.all O.flat) then .ok r ρ2 else .bad := rfl
@[simp] theorem s_svF : FA.sv (.fz d) = .fz d := rfl
@[simp] theorem s_svI : FA.sv (.io o) = .io o := rfl
@[simp] theorem s_ios0 : iosOf [] ρ = some [] := rfl
@[simp] theorem s_ios1 {as : List FA} : iosOf (.fz d :: as) ρ = iosOf as ρ.tail := rfl
@[simp] theorem s_ios2 {as : List FA} {o' : O} : iosOf (.io o :: as) (.io o' :: ρ) = (iosOf as ρ).map (o' :: ·) := rfl
@[simp] theorem s_flb {b : Bool} : (RV.fz (.bl b)).flat = true := rfl
@[simp] theorem s_fli {x : Int} : (RV.fz (.int x)).flat = true := rfl
@[simp] theorem s_eCall0 {φ : FF} : eCall0 φ ρ = (eCall φ [] aNil ρ).nox := rfl
@[simp] theorem s_nox {α : Type} {x : α} : (Rs.ok x ρ).nox = .ok x ρ := rfl
@[simp] theorem s_iA : iA f ρ = (f ρ).bind fun r ρ1 => match r.toD with
  | .lst ds => .ok ds ρ1
  | .tup ds => .ok ds ρ1
  | _ => .bad := rfl
@[simp] theorem s_eLc {vs : List Nat} {it : IF} {tg : D → Rho → Option Rho} : eLc vs it tg c f ρ = (it ρ).bind fun ds ρ1 => if plainVars ρ1 vs then (lcL vs tg c f ds (wipeR ρ1 vs)).nox.bind fun rs ρ2 => if rs.length ≤ 1000000 then .ok (.ow (.lst rs)) (restR ρ1 ρ2 vs) else .bad
  else .bad := rfl
@[simp] theorem s_eApp : eApp i f ρ = if (ρ.ol i).isSome = true then (f ρ).bind fun r ρ1 => match ρ1.ol i with
    | some ds => if ds.length < 1000000 then .ok (.fz .non) (ρ1.put i (.lst (ds ++ [r.toD]))) else .bad
    | none => .bad
  else .bad := rfl
@[simp] theorem s_ePopAt : ePopAt i f ρ = if (ρ.ol i).isSome = true then (f ρ).bind fun r ρ1 => match r, ρ1.ol i with
    | .fz (.int k), some ds => if 0 ≤ k ∧ k ≤ 1000000 then match ds[k.toNat]? with
        | some d => .ok (.fz d) (ρ1.put i (.lst (ds.eraseIdx k.toNat)))
        | none => .bad
      else .bad
    | _, _ => .bad
  else .bad := rfl
@[simp] theorem s_sSetIx : sSetIx i f g ρ = (g ρ).bind fun r ρ1 => if (ρ1.ol i).isSome = true then (f ρ1).bind fun k ρ2 => match k, ρ2.ol i with
    | .fz (.int k), some ds => match ixN ds.length k with
      | some j => .ok .nx (ρ2.put i (.lst (ds.set j r.toD)))
      | none => .bad
    | _, _ => .bad
  else .bad := rfl
@[simp] theorem s_sPar : sPar i j f g ρ = (f ρ).bind fun r ρ1 => (g ρ1).bind fun r2 ρ2 => .ok .nx ((ρ2.set i r.sv).set j r2.sv) := rfl
@[simp] theorem s_sAsg {tg : D → Rho → Option Rho} : sAsg tg f ρ = (f ρ).bind fun r ρ1 => match tg r.toD ρ1 with
  | some ρ2 => .ok .nx ρ2
  | none => .bad := rfl
@[simp] theorem s_semI {h : Int → Int → Bool} {x y : Int} : semI h (.int x) (.int y) = some (.sc (.bl (h x y))) := rfl
@[simp] theorem s_semSub {x y : Int} : semSub (.int x) (.int y) = some (.sc (.int (x - y))) := rfl
@[simp] theorem s_semAdd {x y : Int} : semAdd (.int x) (.int y) = some (.sc (.int (x + y))) := rfl
@[simp] theorem s_catL {x y : List D} : semAdd (.lst x) (.lst y) = if x.length + y.length ≤ 1000000 then some (.nl (x ++ y)) else none := by
  unfold semAdd semAddI semCatL semCatT
  simp
theorem s_catT {x y : List D} (hx : x.length + y.length ≤ 1000000) (hy : y ≠ []) : semAdd (.tup x) (.tup y) = if x = [] then some (.sc (.tup y)) else some (.nt (x ++ y)) := by
  unfold semAdd semAddI semCatL semCatT
  cases x <;> cases y <;> simp_all
@[simp] theorem s_semLt {x y : Int} : semLt (.int x) (.int y) = some (.sc (.bl (decide (x < y)))) := rfl
@[simp] theorem s_semMod {x y : Int} : semMod (.int x) (.int y) = if decide (0 < y) = true then some (.sc (.int (x % y))) else none := rfl
@[simp] theorem s_semDiv {x y : Int} (h : cDiv x y = true) : semDiv (.int x) (.int y) = some (.sc (.int (x / y))) := by
  show (if cDiv x y = true then some (PR.sc (D.int (x / y))) else none) = _
  rw [if_pos h]
theorem cDiv_nat {s m : Nat} (h0 : 0 < m) (h1 : m < 1073741824) : cDiv (s : Int) (m : Int) = true := by
  unfold cDiv
  rw [Bool.and_eq_true]
  exact ⟨decide_eq_true (by omega), decide_eq_true (by omega)⟩
theorem cDiv_lit (x : Int) {y : Int} (h0 : 0 < y) (h1 : y.natAbs < 1073741824) : cDiv x y = true := by
  unfold cDiv
  rw [Bool.and_eq_true]
  exact ⟨decide_eq_true h0, decide_eq_true h1⟩
@[simp] theorem s_semInt {x : Int} : semInt [.int x] = some (.sc (.int x)) := rfl
@[simp] theorem s_semIntB {b : Bool} : semInt [.bl b] = some (.sc (.int (if b then 1 else 0))) := rfl
@[simp] theorem s_lenL {ds : List D} : semLenA [.lst ds] = some (.sc (.int ds.length)) := rfl
@[simp] theorem s_lenT {ds : List D} : semLenA [.tup ds] = some (.sc (.int ds.length)) := rfl
@[simp] theorem s_iR1 : iR1 g1 ρ = (g1 ρ).bind fun o ρ1 => match oInt ρ1 o with
  | some i => if rgOk 0 i then .ok (rangeD 0 i) ρ1 else .bad
  | none => .bad := rfl
@[simp] theorem s_oInt {x : Int} : oInt ρ (.dt (.int x)) = some x := rfl
@[simp] theorem s_iR2 : iR2 g1 g2 ρ = (g1 ρ).bind fun o ρ1 => (g2 ρ1).bind fun o2 ρ2 => match oInt ρ2 o, oInt ρ2 o2 with
  | some a, some b => if rgOk a b then .ok (rangeD a b) ρ2 else .bad
  | _, _ => .bad := rfl
@[simp] theorem s_eMeth {kind : D → Bool} {sem : D → List D → Option PR} : eMeth kind sem g1 a ρ = (g1 ρ).bind fun o ρ1 => if ((o.look ρ1).any kind) = true then (a ρ1).bind fun os ρ2 => finish ρ2 ((o.look ρ2).bind fun d => (looks ρ2 os).bind fun ds => sem d ds) else .bad := rfl
@[simp] theorem s_eOB : eOB f g ρ = match f ρ with
  | .bad => g ρ
  | r => r := rfl
@[simp] theorem s_isLl {ds : List D} : D.isL (.lst ds) = true := rfl
@[simp] theorem s_isLt {ds : List D} : D.isL (.tup ds) = false := rfl
@[simp] theorem s_isTl {ds : List D} : D.isTp (.lst ds) = false := rfl
@[simp] theorem s_isTt {ds : List D} : D.isTp (.tup ds) = true := rfl
@[simp] theorem s_listL {ds : List D} : semList [.lst ds] = some (.nl ds) := rfl
@[simp] theorem s_listT {ds : List D} : semList [.tup ds] = some (.nl ds) := rfl
@[simp] theorem s_tupL {ds : List D} : semTuple [.lst ds] = some (.nt ds) := rfl
@[simp] theorem s_tupT {ds : List D} : semTuple [.tup ds] = some (.sc (.tup ds)) := rfl
@[simp] theorem s_ixL {ds : List D} {x : Int} : semIx (.lst ds) (.int x) = (atI ds x).map .sc := rfl
@[simp] theorem s_ixT {ds : List D} {x : Int} : semIx (.tup ds) (.int x) = (atI ds x).map .sc := rfl
@[simp] theorem s_wipe0 : wipeR ρ [] = ρ := rfl
@[simp] theorem s_wipe1 {v : Nat} {vs : List Nat} : wipeR ρ (v :: vs) = (wipeR ρ vs).set v .no := rfl
@[simp] theorem s_rest0 : restR ρ S [] = S := rfl
@[simp] theorem s_rest1 {v : Nat} {vs : List Nat} : restR ρ S (v :: vs) = (restR ρ S vs).set v (ρ.getD v .no) := rfl
end
/-! ### comprehensions, loops -/
def OkR {α : Type} (x : Rs α) (P : α → Rho → Prop) : Prop := match x with
  | .ok a ρ => P a ρ
  | _ => False
@[simp] theorem okR_ok {α : Type} {a : α} {ρ : Rho} {P : α → Rho → Prop} : OkR (.ok a ρ) P = P a ρ := rfl
theorem OkR.ex {α : Type} {x : Rs α} {P : α → Rho → Prop} (h : OkR x P) : ∃ a ρ, x = .ok a ρ ∧ P a ρ := by
  cases x with
  | ok a ρ => exact ⟨a, ρ, rfl, h⟩
  | ex _ _ => exact h.elim
  | bad => exact h.elim
def OkO (x : Option Rho) (P : Rho → Prop) : Prop := match x with
  | some ρ => P ρ
  | none => False
@[simp] theorem okO_some {ρ : Rho} {P : Rho → Prop} : OkO (some ρ) P = P ρ := rfl
theorem OkO.ex {x : Option Rho} {P : Rho → Prop} (h : OkO x P) : ∃ ρ, x = some ρ ∧ P ρ := by
  cases x with
  | some ρ => exact ⟨ρ, rfl, h⟩
  | none => exact h.elim
def Ctl.go : Ctl → Bool
  | .nx => true
  | .ct => true
  | _ => false
@[simp] theorem go_nx : Ctl.nx.go = true := rfl
@[simp] theorem go_ct : Ctl.ct.go = true := rfl
section
variable {α β : Type} {vs vs1 : List Nat} {tg tg1 : D → Rho → Option Rho} {cond cond1 : TF} {it1 : IF} {elt : EF} {body : SF} {e : α → D} {g : α → D} {c : α → Bool} {S : Rho}
theorem lcL_filter (xs : List α) (h : ∀ x ∈ xs, OkO (tg (e x) S) fun ρ1 => OkR (cond ρ1) fun b ρ2 => b = c x ∧ wipeR ρ2 vs = S ∧ (c x = true → OkR (elt ρ2) fun r ρ3 => r.toD = g x ∧ wipeR ρ3 vs = S)) : lcL vs tg cond elt (xs.map e) S = .ok ((xs.filter c).map g) S := by
  induction xs with
  | nil => rfl
  | cons x xs ih =>
    obtain ⟨ρ1, h1, h2⟩ := (h x (List.mem_cons_self ..)).ex
    obtain ⟨b, ρ2, h2, rfl, h3, h4⟩ := h2.ex
    have ih := ih fun y hy => h y (List.mem_cons_of_mem _ hy)
    simp only [List.map_cons, lcL, h1, h2, s_nox, Rs.bind_ok]
    cases hc : c x with
    | false => simp [h3, ih, List.filter_cons, hc]
    | true =>
      obtain ⟨r, ρ3, h5, h6, h7⟩ := (h4 hc).ex
      simp [h5, h7, ih, List.filter_cons, hc, h6]
theorem lcL_map (xs : List α) (h : ∀ x ∈ xs, OkO (tg (e x) S) fun ρ1 => OkR (elt ρ1) fun r ρ3 => r.toD = g x ∧ wipeR ρ3 vs = S) : lcL vs tg fYes elt (xs.map e) S = .ok (xs.map g) S := by
  induction xs with
  | nil => rfl
  | cons x xs ih =>
    obtain ⟨ρ1, h1, h2⟩ := (h x (List.mem_cons_self ..)).ex
    obtain ⟨r, ρ3, h5, h6, h7⟩ := h2.ex
    have ih := ih fun y hy => h y (List.mem_cons_of_mem _ hy)
    simp [lcL, h1, h5, h6, h7, ih]
theorem lcO_map {γ : Type} {e1 : α → γ → D} {g1 : α → γ → D} (xs : List α) (ys : α → List γ) (h : ∀ x ∈ xs, OkO (tg (e x) S) fun ρ1 => OkR (it1 ρ1) fun l ρ3 => l = (ys x).map (e1 x) ∧
    (∀ y ∈ ys x, OkO (tg1 (e1 x y) (wipeR ρ3 vs1)) fun ρ4 => OkR (elt ρ4) fun r ρ5 => r.toD = g1 x y ∧ wipeR ρ5 vs1 = wipeR ρ3 vs1) ∧ wipeR (wipeR ρ3 vs1) vs = S) : lcO vs vs1 tg fYes it1 tg1 fYes elt (xs.map e) S = .ok ((xs.map fun x => (ys x).map (g1 x)).flatten) S := by
  induction xs with
  | nil => rfl
  | cons x xs ih =>
    obtain ⟨ρ1, h1, h2⟩ := (h x (List.mem_cons_self ..)).ex
    obtain ⟨l, ρ3, h5, rfl, h6, h7⟩ := h2.ex
    have ih := ih fun y hy => h y (List.mem_cons_of_mem _ hy)
    have h8 := lcL_map (vs := vs1) (tg := tg1) (elt := elt) (e := e1 x) (g := g1 x) (S := wipeR ρ3 vs1) (ys x) h6
    simp [lcO, h1, h5, h8, h7, ih]
/-- a loop that goes through -/
theorem forL_fold (st : β → Rho) (inv : β → Prop) (step : β → α → β) (xs : List α) (b : β) (hb : inv b)
    (h : ∀ b, ∀ x ∈ xs, inv b → inv (step b x) ∧ OkO (tg (e x) (st b)) fun ρ1 => OkR (body ρ1) fun k ρ2 => k.go = true ∧ ρ2 = st (step b x)) :
    forL tg body (xs.map e) (st b) = .ok .nx (st (xs.foldl step b)) ∧ inv (xs.foldl step b) := by
  induction xs generalizing b with
  | nil => exact ⟨rfl, hb⟩
  | cons x xs ih =>
    obtain ⟨h0, h1⟩ := h b x (List.mem_cons_self ..) hb
    obtain ⟨ρ1, h1, h2⟩ := h1.ex
    obtain ⟨k, ρ2, h2, h3, rfl⟩ := h2.ex
    have ih := ih (step b x) h0 fun b y hy => h b y (List.mem_cons_of_mem _ hy)
    cases k with
    | nx => simpa [forL, h1, h2] using ih
    | ct => simpa [forL, h1, h2] using ih
    | bk => cases h3
    | rt r => cases h3
/-- a loop that may hand out r: at the first x that fails -/
theorem forL_all (st : β → Rho) (r : RV) (xs : List α) (s : β)
    (h : ∀ s, ∀ x ∈ xs, OkO (tg (e x) (st s)) fun ρ1 => OkR (body ρ1) fun k ρ2 => (c x = true → k.go = true ∧ ∃ s', ρ2 = st s') ∧ (c x = false → k = .rt r)) :
    (xs.all c = true → ∃ s', forL tg body (xs.map e) (st s) = .ok .nx (st s')) ∧ (xs.all c = false → ∃ ρ2, forL tg body (xs.map e) (st s) = .ok (.rt r) ρ2) := by
  induction xs generalizing s with
  | nil => exact ⟨fun _ => ⟨s, rfl⟩, fun z => (nomatch z)⟩
  | cons x xs ih =>
    obtain ⟨ρ1, h1, h2⟩ := (h s x (List.mem_cons_self ..)).ex
    obtain ⟨k, ρ2, h2, h3, h4⟩ := h2.ex
    cases hc : c x with
    | false =>
      refine ⟨fun z => ?_, fun _ => ?_⟩
      · simp [hc] at z
      · have := h4 hc
        subst this
        exact ⟨ρ2, by simp [forL, h1, h2]⟩
    | true =>
      obtain ⟨h5, s', rfl⟩ := h3 hc
      have ih := ih s' fun s y hy => h s y (List.mem_cons_of_mem _ hy)
      have e0 : forL tg body ((x :: xs).map e) (st s) = forL tg body (xs.map e) (st s') := by
        cases k with
        | nx => simp [forL, h1, h2]
        | ct => simp [forL, h1, h2]
        | bk => cases h5
        | rt r => cases h5
      rw [e0]
      exact ⟨fun z => ih.1 (by simpa [hc] using z), fun z => ih.2 (by simpa [hc] using z)⟩
/-- a while loop, step by step -/
def wit (c : β → Bool) (step : β → β) : Nat → β → β
  | 0, b => b
  | n + 1, b => if c b = true then wit c step n (step b) else b
theorem whL_wit {cd : TF} (st : β → Rho) (inv : β → Prop) (c : β → Bool) (step : β → β) (m : β → Nat)
    (h : ∀ b, inv b → cd (st b) = .ok (c b) (st b) ∧ (c b = true → inv (step b) ∧ m (step b) < m b ∧ OkR (body (st b)) fun k ρ2 => k.go = true ∧ ρ2 = st (step b))) :
    ∀ n b, inv b → m b < n → whL cd body n (st b) = .ok .nx (st (wit c step n b)) ∧ inv (wit c step n b) ∧ c (wit c step n b) = false := by
  intro n
  induction n with
  | zero => intro b _ hm; omega
  | succ n ih =>
    intro b hb hm
    obtain ⟨h1, h2⟩ := h b hb
    cases hc : c b with
    | false => simp [whL, h1, wit, hc, hb]
    | true =>
      obtain ⟨h3, h4, h5⟩ := h2 hc
      obtain ⟨k, ρ2, h5, h6, rfl⟩ := h5.ex
      have ih := ih (step b) h3 (by omega)
      cases k with
      | nx => simpa [whL, h1, wit, hc, h5] using ih
      | ct => simpa [whL, h1, wit, hc, h5] using ih
      | bk => cases h6
      | rt r => cases h6
theorem whL_j {γ : Type} {cd : TF} (st : β → γ → Rho) (inv : β → Prop) (c : β → Bool) (step : β → β) (m : β → Nat)
    (h : ∀ b j, inv b → cd (st b j) = .ok (c b) (st b j) ∧ (c b = true → inv (step b) ∧ m (step b) < m b ∧ OkR (body (st b j)) fun k ρ2 => k.go = true ∧ ∃ j', ρ2 = st (step b) j')) :
    ∀ n b j, inv b → m b < n → ∃ j', whL cd body n (st b j) = .ok .nx (st (wit c step n b) j') ∧ inv (wit c step n b) ∧ c (wit c step n b) = false := by
  intro n
  induction n with
  | zero => intro b j _ hm; omega
  | succ n ih =>
    intro b j hb hm
    obtain ⟨h1, h2⟩ := h b j hb
    cases hc : c b with
    | false => exact ⟨j, by simp [whL, h1, wit, hc, hb]⟩
    | true =>
      obtain ⟨h3, h4, h5⟩ := h2 hc
      obtain ⟨k, ρ2, h5, h6, j', rfl⟩ := h5.ex
      obtain ⟨j2, ih⟩ := ih (step b) j' h3 (by omega)
      refine ⟨j2, ?_⟩
      cases k with
      | nx => simpa [whL, h1, wit, hc, h5] using ih
      | ct => simpa [whL, h1, wit, hc, h5] using ih
      | bk => cases h6
      | rt r => cases h6
theorem forL_j {γ : Type} (st : β → γ → Rho) (inv : β → Prop) (step : β → α → β) (xs : List α) (b : β) (j : γ) (hb : inv b)
    (h : ∀ b j, ∀ x ∈ xs, inv b → inv (step b x) ∧ OkO (tg (e x) (st b j)) fun ρ1 => OkR (body ρ1) fun k ρ2 => k.go = true ∧ ∃ j', ρ2 = st (step b x) j') :
    (∃ j', forL tg body (xs.map e) (st b j) = .ok .nx (st (xs.foldl step b) j')) ∧ inv (xs.foldl step b) := by
  induction xs generalizing b j with
  | nil => exact ⟨⟨j, rfl⟩, hb⟩
  | cons x xs ih =>
    obtain ⟨h0, h1⟩ := h b j x (List.mem_cons_self ..) hb
    obtain ⟨ρ1, h1, h2⟩ := h1.ex
    obtain ⟨k, ρ2, h2, h3, j', rfl⟩ := h2.ex
    have ih := ih (step b x) j' h0 fun b j y hy => h b j y (List.mem_cons_of_mem _ hy)
    cases k with
    | nx => simpa [forL, h1, h2] using ih
    | ct => simpa [forL, h1, h2] using ih
    | bk => cases h3
    | rt r => cases h3
/-- the same, the invariant told by the place -/
theorem forL_i {γ : Type} (st : β → γ → Rho) (step : β → α → β) (xs : List α) : ∀ (inv : Nat → β → Prop) (b : β) (j : γ) (hb : inv 0 b)
    (h : ∀ i b j x, xs[i]? = some x → inv i b → inv (i + 1) (step b x) ∧ OkO (tg (e x) (st b j)) fun ρ1 => OkR (body ρ1) fun k ρ2 => k.go = true ∧ ∃ j', ρ2 = st (step b x) j'),
    (∃ j', forL tg body (xs.map e) (st b j) = .ok .nx (st (xs.foldl step b) j')) ∧ inv xs.length (xs.foldl step b) := by
  induction xs with
  | nil => exact fun inv b j hb h => ⟨⟨j, rfl⟩, hb⟩
  | cons x xs ih =>
    intro inv b j hb h
    obtain ⟨h0, h1⟩ := h 0 b j x rfl hb
    obtain ⟨ρ1, h1, h2⟩ := h1.ex
    obtain ⟨k, ρ2, h2, h3, j', rfl⟩ := h2.ex
    have ih := ih (fun i => inv (i + 1)) (step b x) j' h0 fun i b j y hy => h (i + 1) b j y (by simpa using hy)
    cases k with
    | nx => simpa [forL, h1, h2] using ih
    | ct => simpa [forL, h1, h2] using ih
    | bk => cases h3
    | rt r => cases h3
end
end VI

end
section
set_option Elab.async false
set_option linter.all false
namespace VI
open PySem L2
/-! ### numbers, rows, tables as data -/
abbrev di (n : Nat) : D := .int (n : Int)
def dT (r : List Nat) : D := .tup (r.map di)
def dL (r : List Nat) : D := .lst (r.map di)
def dTT (t : List (List Nat)) : D := .tup (t.map dT)
def dLT (t : List (List Nat)) : D := .lst (t.map dT)
section
variable {α : Type} [DecidableEq α] {f : α → D}
/-- told by == -/
def EqF {α : Type} [DecidableEq α] (f : α → D) : Prop := ∀ a b, D.eqb (f a) (f b) = decide (a = b)
theorem eqf_di : EqF di := fun a b => by
  simp only [D.eqb, D.pd, PyData.eqv]
  by_cases h : a = b
  · subst h; simp
  · rw [decide_eq_false h]
    have : ¬ (a : Int) = (b : Int) := by omega
    simp [this]
theorem eqf_int : EqF D.int := fun a b => by
  simp only [D.eqb, D.pd, PyData.eqv]
  by_cases h : a = b
  · subst h; simp
  · rw [decide_eq_false h]; simp [h]
theorem eqvAll_map (h : EqF f) : ∀ xs ys : List α, PyData.eqvAll (D.pds (xs.map f)) (D.pds (ys.map f)) = decide (xs = ys)
  | [], [] => by simp [D.pds, PyData.eqvAll]
  | [], y :: ys => by simp [D.pds, PyData.eqvAll]
  | x :: xs, [] => by simp [D.pds, PyData.eqvAll]
  | x :: xs, y :: ys => by
    have h1 := h x y
    unfold D.eqb at h1
    simp only [List.map_cons, D.pds, PyData.eqvAll, h1, eqvAll_map h xs ys]
    by_cases e1 : x = y
    · by_cases e2 : xs = ys
      · simp [e1, e2]
      · simp [e1, e2]
    · simp [e1]
theorem eqf_tup (h : EqF f) : EqF fun xs : List α => D.tup (xs.map f) := fun a b => by
  simp only [D.eqb, D.pd, PyData.eqv]
  exact eqvAll_map h a b
theorem eqf_lst (h : EqF f) : EqF fun xs : List α => D.lst (xs.map f) := fun a b => by
  simp only [D.eqb, D.pd, PyData.eqv]
  exact eqvAll_map h a b
theorem eqf_dT : EqF dT := eqf_tup eqf_di
theorem eqf_dL : EqF dL := eqf_lst eqf_di
theorem eqf_dTT : EqF dTT := eqf_tup eqf_dT
theorem eqf_dLT : EqF dLT := eqf_lst eqf_dT
theorem any_eqb (h : EqF f) (a : α) (xs : List α) : ((xs.map f).any fun z => D.eqb z (f a)) = decide (a ∈ xs) := by
  induction xs with
  | nil => simp
  | cons x xs ih =>
    rw [List.map_cons, List.any_cons, ih, h x a]
    by_cases e : x = a
    · subst e; simp
    · simp [e, Ne.symm e]
theorem findD_map (h : EqF f) (a : α) : ∀ (xs : List α) (k : Nat), findD (f a) (xs.map f) k = if a ∈ xs then some (k + xs.idxOf a) else none
  | [], k => by simp [findD]
  | x :: xs, k => by
    rw [List.map_cons, findD, h x a, findD_map h a xs (k + 1)]
    by_cases e : x = a
    · subst e; simp
    · by_cases m : a ∈ xs
      · have : ¬ (x == a) = true := by simpa using e
        simp [e, m, List.idxOf_cons, this]; omega
      · simp [e, m, Ne.symm e]
end
/-! ### of a depth that may be compared -/
def LeF {α : Type} (n : Nat) (f : α → D) : Prop := ∀ a, D.le n (f a) = true
theorem lef_di : LeF 0 di := fun _ => rfl
theorem lef_int : LeF 0 D.int := fun _ => rfl
theorem le_up : ∀ (n : Nat) (d : D), D.le n d = true → D.le (n + 1) d = true := by
  intro n
  induction n with
  | zero =>
    intro d h
    cases d <;> first | rfl | exact h | (simp [D.le] at h)
  | succ n ih =>
    intro d h
    cases d <;> first
      | rfl
      | exact h
      | (simp only [D.le, List.all_eq_true] at h ⊢; exact fun x hx => ih x (h x hx))
      | (simp [D.le] at h)
theorem LeF.up {α : Type} {n : Nat} {f : α → D} (h : LeF n f) : LeF (n + 1) f := fun a => le_up n _ (h a)
theorem LeF.add {α : Type} {n : Nat} {f : α → D} (h : LeF n f) : ∀ k, LeF (n + k) f
  | 0 => h
  | k + 1 => (LeF.add h k).up
theorem LeF.le {α : Type} {n m : Nat} {f : α → D} (h : LeF n f) (k : n ≤ m) : LeF m f := by
  obtain ⟨c, rfl⟩ := Nat.le.dest k
  exact h.add c
theorem LeF.all {α : Type} {n m : Nat} {f : α → D} (h : LeF n f) (k : n ≤ m) (xs : List α) : (xs.map f).all (D.le m) = true := by
  rw [List.all_eq_true]
  intro d hd
  obtain ⟨a, _, rfl⟩ := List.mem_map.mp hd
  exact h.le k a
theorem LeF.tup {α : Type} {n : Nat} {f : α → D} (h : LeF n f) : LeF (n + 1) fun xs : List α => D.tup (xs.map f) := fun xs => by
  simp only [D.le]; exact h.all (Nat.le_refl n) xs
theorem LeF.lst {α : Type} {n : Nat} {f : α → D} (h : LeF n f) : LeF (n + 1) fun xs : List α => D.lst (xs.map f) := fun xs => by
  simp only [D.le]; exact h.all (Nat.le_refl n) xs
theorem lef_dT : LeF 1 dT := lef_di.tup
theorem lef_dL : LeF 1 dL := lef_di.lst
theorem lef_dTT : LeF 2 dTT := lef_dT.tup
theorem lef_dLT : LeF 2 dLT := lef_dT.lst
theorem LeF.okd {α : Type} {n : Nat} {f : α → D} (h : LeF n f) (k : n ≤ 12 := by decide) (a : α) : (f a).okd = true := h.le k a
section
variable {α : Type} [DecidableEq α] {f : α → D} {n : Nat}
theorem semEq_F (h : EqF f) (l : LeF n f) (a b : α) (k : n ≤ 12 := by decide) : semEq (f a) (f b) = some (.sc (.bl (decide (a = b)))) := by
  unfold semEq; rw [l.okd k a, l.okd k b, h a b]; rfl
theorem semNe_F (h : EqF f) (l : LeF n f) (a b : α) (k : n ≤ 12 := by decide) : semNe (f a) (f b) = some (.sc (.bl (!decide (a = b)))) := by
  unfold semNe; rw [l.okd k a, l.okd k b, h a b]; rfl
theorem semIn_L (h : EqF f) (l : LeF n f) (a : α) (xs : List α) (k : n ≤ 12 := by decide) : semIn (f a) (.lst (xs.map f)) = some (.sc (.bl (decide (a ∈ xs)))) := by
  unfold semIn semInL
  simp only [l.okd k a, l.all k xs, Bool.and_self, if_true, any_eqb h a xs, Bool.false_eq_true, if_false]
  rfl
theorem semNin_L (h : EqF f) (l : LeF n f) (a : α) (xs : List α) (k : n ≤ 12 := by decide) : semNin (f a) (.lst (xs.map f)) = some (.sc (.bl (!decide (a ∈ xs)))) := by
  unfold semNin semInL
  simp only [l.okd k a, l.all k xs, Bool.and_self, if_true, any_eqb h a xs]
  rfl
theorem all_flat (xs : List Nat) : (xs.map di).all D.flat = true := by
  rw [List.all_eq_true]
  intro d hd
  obtain ⟨a, _, rfl⟩ := List.mem_map.mp hd
  rfl
theorem semIn_T (a : Nat) (xs : List Nat) : semIn (di a) (.tup (xs.map di)) = some (.sc (.bl (decide (a ∈ xs)))) := by
  unfold semIn semInL semInT
  simp only [all_flat, D.flat, Bool.and_self, if_true, any_eqb eqf_di a xs, Bool.false_eq_true, if_false]
  rfl
theorem semNin_T (a : Nat) (xs : List Nat) : semNin (di a) (.tup (xs.map di)) = some (.sc (.bl (!decide (a ∈ xs)))) := by
  unfold semNin semInL semInT
  simp only [all_flat, D.flat, Bool.and_self, if_true, any_eqb eqf_di a xs]
  rfl
theorem semIndexL_F (h : EqF f) (l : LeF n f) (a : α) (xs : List α) (hm : a ∈ xs) (k : n ≤ 12 := by decide) : semIndexL (.lst (xs.map f)) [f a] = some (.sc (di (xs.idxOf a))) := by
  unfold semIndexL
  simp only [l.okd k a, l.all k xs, Bool.and_self, if_true, findD_map h a xs 0, if_pos hm, Nat.zero_add]
  rfl
theorem semIndexT_F (h : EqF f) (l : LeF n f) (a : α) (xs : List α) (hm : a ∈ xs) (k : n ≤ 12 := by decide) : semIndexT (.tup (xs.map f)) [f a] = some (.sc (di (xs.idxOf a))) := by
  unfold semIndexT
  simp only [l.okd k a, l.all k xs, Bool.and_self, if_true, findD_map h a xs 0, if_pos hm, Nat.zero_add]
  rfl
end
theorem ixN_nat {n i : Nat} (h : i < n) : ixN n (i : Int) = some i := by
  unfold ixN
  rw [if_pos (by omega), if_pos (by omega)]
  simp
theorem atI_nat {α : Type} {xs : List α} {i : Nat} (h : i < xs.length) : atI xs (i : Int) = xs[i]? := by
  unfold atI
  rw [ixN_nat h]; rfl
theorem atI_map {α : Type} {f : α → D} {xs : List α} {i : Nat} (h : i < xs.length) : atI (xs.map f) (i : Int) = some (f xs[i]) := by
  rw [atI_nat (by simpa using h), List.getElem?_map, List.getElem?_eq_getElem h]; rfl
theorem atI_zero {α : Type} {x : α} {xs : List α} : atI (x :: xs) 0 = some x := atI_nat (xs := x :: xs) (i := 0) (by simp)
theorem atI_one {α : Type} {x y : α} {xs : List α} : atI (x :: y :: xs) 1 = some y := atI_nat (xs := x :: y :: xs) (i := 1) (by simp)
theorem rangeD_nat (n : Nat) : rangeD 0 (n : Int) = (List.range n).map di := by
  unfold rangeD
  simp
theorem rangeD_one (n : Nat) : rangeD 1 (n : Int) = (List.range (n - 1)).map fun i => di (1 + i) := by
  unfold rangeD
  have : ((n : Int) - 1).toNat = n - 1 := by omega
  rw [this]
  apply List.map_congr_left
  intro i _
  simp
theorem rgOk_nat {n : Nat} (h : n ≤ 1000000) : rgOk 0 (n : Int) = true := by
  unfold rgOk; simp; omega
theorem rgOk_one {n : Nat} (h : n ≤ 1000000) : rgOk 1 (n : Int) = true := by
  unfold rgOk; simp; omega
theorem ints_nats (xs : List Nat) : D.ints (xs.map di) = some (xs.map fun n : Nat => (n : Int)) := by
  induction xs with
  | nil => rfl
  | cons x xs ih => simp [D.ints, ih]
theorem bls_cs {α : Type} (c : α → Bool) (xs : List α) : D.bls (xs.map fun x => D.bl (c x)) = some (xs.map c) := by
  induction xs with
  | nil => rfl
  | cons x xs ih => simp [D.bls, ih]
/-! ### < and the least -/
def ltP (x y : PyData) : Bool := W.dataLt x y
theorem ltb_trans {a b c : D} (h1 : D.ltb a b = true) (h2 : D.ltb b c = true) : D.ltb a c = true := PyProof.Rows.lex_trans _ _ _ h1 h2
theorem ltb_irr (a : D) : D.ltb a a = false := PyProof.Rows.lex_irrefl _
theorem ltb_total {a b : D} (ha : W.alike a.pd b.pd = true) (h1 : D.ltb a b = false) (h2 : D.ltb b a = false) : D.eqb a b = true := by
  have e : W.keyToks a.pd = W.keyToks b.pd := PyProof.Rows.lex_total _ _ h1 h2
  cases h : D.eqb a b with
  | true => rfl
  | false =>
    exfalso
    have h3 := (W.toks_eqv a.pd b.pd ha).2 h [] [Sum.inl 0]
    rw [e, List.append_nil] at h3
    have h4 : PyProof.Rows.lexLt PyProof.Rows.itemOrd (W.keyToks b.pd) (W.keyToks b.pd ++ [Sum.inl 0]) = true := by
      have := W.lex_pre (W.keyToks b.pd) [] [Sum.inl 0]
      rw [List.append_nil] at this
      rw [this]; rfl
    rw [h4] at h3
    have h5 : D.ltb a b = true := by
      show PyProof.Rows.lexLt PyProof.Rows.itemOrd (W.keyToks a.pd) (W.keyToks b.pd) = true
      rw [e]; exact h3.symm
    rw [h1] at h5; cases h5
def AlF {α : Type} (f : α → D) : Prop := ∀ a b, W.alike (f a).pd (f b).pd = true
theorem alf_di : AlF di := fun a b => by simp [D.pd, W.alike]
theorem alikeAll_map {α : Type} {f : α → D} (h : AlF f) : ∀ xs ys : List α, W.alikeAll (D.pds (xs.map f)) (D.pds (ys.map f)) = true
  | [], ys => by simp [D.pds, W.alikeAll]
  | x :: xs, [] => by simp [D.pds, W.alikeAll]
  | x :: xs, y :: ys => by simp [D.pds, W.alikeAll, h x y, alikeAll_map h xs ys]
theorem AlF.tup {α : Type} {f : α → D} (h : AlF f) : AlF fun xs : List α => D.tup (xs.map f) := fun xs ys => by
  simp only [D.pd, W.alike]; exact alikeAll_map h xs ys
theorem AlF.lst {α : Type} {f : α → D} (h : AlF f) : AlF fun xs : List α => D.lst (xs.map f) := fun xs ys => by
  simp only [D.pd, W.alike]; exact alikeAll_map h xs ys
theorem alf_dT : AlF dT := alf_di.tup
theorem alf_dTT : AlF dTT := alf_dT.tup
theorem AlF.alikeB {α : Type} {f : α → D} (h : AlF f) (xs : List α) : alikeB (xs.map f) = true := by
  unfold VI.alikeB
  rw [List.all_eq_true]
  intro d hd
  rw [List.all_eq_true]
  intro e he
  obtain ⟨a, _, rfl⟩ := List.mem_map.mp hd
  obtain ⟨b, _, rfl⟩ := List.mem_map.mp he
  exact h a b
/-- tables in the order of their data -/
def ltF {α : Type} (f : α → D) (a b : α) : Bool := D.ltb (f a) (f b)
def minF {α : Type} (f : α → D) (a : α) (xs : List α) : α := xs.foldl (fun a y => if ltF f y a = true then y else a) a
theorem fold_minF {α : Type} (f : α → D) : ∀ (xs : List α) (a : α), (xs.map f).foldl (fun a y => if W.dataLt y.pd a.pd then y else a) (f a) = f (minF f a xs)
  | [], a => rfl
  | x :: xs, a => by
    unfold minF
    rw [List.map_cons, List.foldl_cons, List.foldl_cons]
    by_cases h : ltF f x a = true
    · have h' : W.dataLt (f x).pd (f a).pd = true := h
      rw [if_pos h, if_pos h']; exact fold_minF f xs x
    · have h' : ¬ W.dataLt (f x).pd (f a).pd = true := h
      rw [if_neg h, if_neg h']; exact fold_minF f xs a
theorem semMinD_F {α : Type} {f : α → D} {n : Nat} (l : LeF n f) (al : AlF f) (hn : ∀ a, f a ≠ .non) (a : α) (xs : List α) (k : n ≤ 12 := by decide) : semMinD [.lst ((a :: xs).map f)] = some (.sc (f (minF f a xs))) := by
  unfold semMinD
  simp only [List.map_cons]
  have h1 : (f a :: xs.map f).all (D.le 12) = true := l.all k (a :: xs)
  have h2 : VI.alikeB (f a :: xs.map f) = true := al.alikeB (a :: xs)
  have h3 : ((f a :: xs.map f).all fun e => !e.isN) = true := by
    rw [List.all_eq_true]
    intro d hd
    obtain ⟨b, _, rfl⟩ := List.mem_map.mp (show d ∈ (a :: xs).map f from hd)
    have := hn b
    cases h : f b <;> first | rfl | exact absurd h this
  rw [h1, h2, h3, fold_minF]
  rfl
theorem semLt_F {α : Type} {f : α → D} {n : Nat} (l : LeF n f) (al : AlF f) (ht : ∀ a, ∃ xs, f a = .tup xs) (a b : α) (k : n ≤ 12 := by decide) : semLt (f a) (f b) = some (.sc (.bl (ltF f a b))) := by
  have h1 := l.okd k a
  have h2 := l.okd k b
  have h3 := al a b
  obtain ⟨xs, e1⟩ := ht a
  obtain ⟨ys, e2⟩ := ht b
  unfold semLt semLtD ltF
  rw [e1] at h1 h3
  rw [e2] at h2 h3
  rw [e1, e2]
  simp only [h1, h2, h3, D.isT, Bool.and_self, if_true]
  rfl
/-- the least of a list: none is less -/
theorem minF_mem {α : Type} (f : α → D) : ∀ (xs : List α) (a : α), minF f a xs ∈ a :: xs
  | [], a => List.mem_cons_self ..
  | x :: xs, a => by
    unfold minF
    rw [List.foldl_cons]
    have := minF_mem f xs (if ltF f x a = true then x else a)
    unfold minF at this
    rcases List.mem_cons.mp this with h | h
    · rw [h]; split <;> simp
    · exact List.mem_cons_of_mem _ (List.mem_cons_of_mem _ h)
theorem minF_le {α : Type} (f : α → D) : ∀ (xs : List α) (a : α), ∀ y ∈ a :: xs, ltF f y (minF f a xs) = false
  | [], a, y, hy => by
    have e : y = a := by simpa using hy
    rw [e]; exact ltb_irr _
  | x :: xs, a, y, hy => by
    have ih := minF_le f xs (if ltF f x a = true then x else a)
    show ltF f y (minF f (if ltF f x a = true then x else a) xs) = false
    rcases List.mem_cons.mp hy with rfl | hy
    · by_cases h : ltF f x y = true
      · rw [if_pos h] at ih ⊢
        have h2 := ih x (List.mem_cons_self ..)
        cases h3 : ltF f y (minF f x xs) with
        | false => rfl
        | true => rw [show ltF f x (minF f x xs) = true from ltb_trans h h3] at h2; cases h2
      · rw [if_neg h] at ih ⊢
        exact ih y (List.mem_cons_self ..)
    · rcases List.mem_cons.mp hy with rfl | hy
      · by_cases h : ltF f y a = true
        · rw [if_pos h] at ih ⊢; exact ih y (List.mem_cons_self ..)
        · rw [if_neg h] at ih ⊢
          have h2 := ih a (List.mem_cons_self ..)
          cases h3 : ltF f y (minF f a xs) with
          | false => rfl
          | true =>
            rcases PyProof.Rows.lex_negTrans (O := PyProof.Rows.itemOrd) (W.keyToks (f y).pd) (W.keyToks (f a).pd) (W.keyToks (f (minF f a xs)).pd) h3 with h4 | h4
            · exact absurd h4 h
            · rw [show ltF f a (minF f a xs) = true from h4] at h2; cases h2
      · exact ih y (List.mem_cons_of_mem _ hy)
/-- the least of two lists with the same members -/
theorem minF_same {α : Type} [DecidableEq α] {f : α → D} (h : EqF f) (al : AlF f) {a b : α} {xs ys : List α} (hm : ∀ z, z ∈ a :: xs ↔ z ∈ b :: ys) : minF f a xs = minF f b ys := by
  have h1 := minF_le f xs a (minF f b ys) ((hm _).mpr (minF_mem f ys b))
  have h2 := minF_le f ys b (minF f a xs) ((hm _).mp (minF_mem f xs a))
  have h3 := ltb_total (al _ _) h2 h1
  rw [h] at h3
  exact of_decide_eq_true h3
/-! ### sorted rows -/
def leT (a b : List Nat) : Bool := leD (dT a) (dT b)
def sortT (xs : List (List Nat)) : List (List Nat) := xs.mergeSort leT
theorem semSort_T (xs : List (List Nat)) (hne : ∀ x ∈ xs, x ≠ []) (hl : xs.length ≤ 1000000) : semSort [.lst (xs.map dT)] = some (.nl ((sortT xs).map dT)) := by
  unfold semSort
  have h1 : (xs.map dT).all (D.le 12) = true := lef_dT.all (by decide) xs
  have h2 : VI.alikeB (xs.map dT) = true := alf_dT.alikeB xs
  have h3 : sortB (xs.map dT) = true := by
    unfold sortB
    rw [Bool.or_eq_true]
    left
    rw [List.all_eq_true]
    intro d hd
    obtain ⟨x, hx, rfl⟩ := List.mem_map.mp hd
    cases x with
    | nil => exact absurd rfl (hne _ hx)
    | cons y ys => rfl
  simp only [h1, h2, h3, List.length_map, hl, decide_true, Bool.and_self, if_true]
  unfold sortT
  rw [W.sort_maps (r := leT) (s := leD) dT (fun a _ b _ => rfl)]
end VI

end
section
set_option Elab.async false
set_option linter.all false
set_option maxRecDepth 100000
namespace K74
open PySem L2 VI
def b_is_integer_0 : SF := sRet (eAnd (eCB semIsiA (aCons (oN 0) (aCons (oE (eC (.ty "int"))) (aNil)))) (eNot (eCB semIsiA (aCons (oN 0) (aCons (oE (eC (.ty "bool"))) (aNil))))))
def b_is_integer : SF := b_is_integer_0
def f_is_integer : FF := semDef 1 b_is_integer
def b_is_item_0 : SF := sRet (eAnd (eCall (f_is_integer) [.v] (aCons (oE (eN 0)) (aNil))) (eChain (semI fun i j => decide (i ≤ j)) semLt (oE (eC (.int 0))) (oN 0) (oN 1)))
def b_is_item : SF := b_is_item_0
def f_is_item : FF := semDef 2 b_is_item
def e_is_associative_0 : EF := eBin semIx (oE (eBin semIx (oN 0) (oE (eBin semIx (oN 1) (oN 2))))) (oN 3)
def e_is_associative_1 : EF := eBin semIx (oN 1) (oN 4)
def l_is_associative_0 : SF := sIf (fB (eBin semNe (oE (eLc [3] (iR1 (oE (eCB semLenA (aCons (oN 0) (aNil))))) (gN 3) (fYes) (e_is_associative_0))) (oE (eLc [4] (iA (eBin semIx (oN 0) (oN 2))) (gN 4) (fYes) (e_is_associative_1))))) (sRet (eC (.bl false))) (sNx)
def l_is_associative_1 : SF := sFor (iR1 (oE (eCB semLenA (aCons (oN 0) (aNil))))) (gN 2) (l_is_associative_0)
def b_is_associative_0 : SF := sFor (iA (eN 0)) (gN 1) (l_is_associative_1)
def b_is_associative_1 : SF := sRet (eC (.bl true))
def b_is_associative : SF := sSeq (b_is_associative_0) (b_is_associative_1)
def f_is_associative : FF := semDef 5 b_is_associative
def e_is_square_0 : EF := eCall (f_is_item) [.v, .v] (aCons (oE (eN 2)) (aCons (oE (eCB semLenA (aCons (oN 0) (aNil)))) (aNil)))
def l_is_square_0 : SF := sSeq (sIf (fOr (fNot (fB (eCB semIsiA (aCons (oN 1) (aCons (oE (eDis .nt (aCons (oE (eC (.ty "list"))) (aCons (oE (eC (.ty "tuple"))) (aNil))))) (aNil)))))) (fB (eBin semNe (oE (eCB semLenA (aCons (oN 1) (aNil)))) (oE (eCB semLenA (aCons (oN 0) (aNil))))))) (sRet (eC (.bl false))) (sNx)) (sIf (fNot (fB (eCB semAll (aCons (oE (eLc [2] (iA (eN 1)) (gN 2) (fYes) (e_is_square_0))) (aNil))))) (sRet (eC (.bl false))) (sNx))
def b_is_square_0 : SF := sIf (fOr (fNot (fB (eCB semIsiA (aCons (oN 0) (aCons (oE (eDis .nt (aCons (oE (eC (.ty "list"))) (aCons (oE (eC (.ty "tuple"))) (aNil))))) (aNil)))))) (fB (eBin semEq (oE (eCB semLenA (aCons (oN 0) (aNil)))) (oE (eC (.int 0)))))) (sRet (eC (.bl false))) (sNx)
def b_is_square_1 : SF := sFor (iA (eN 0)) (gN 1) (l_is_square_0)
def b_is_square_2 : SF := sRet (eC (.bl true))
def b_is_square : SF := sSeq (b_is_square_0) (sSeq (b_is_square_1) (b_is_square_2))
def f_is_square : FF := semDef 3 b_is_square
def l_is_group_table_0 : SF := sIf (fOr (fB (eBin semNe (oE (eBin semIx (oE (eBin semIx (oN 0) (oE (eC (.int 0))))) (oN 2))) (oN 2))) (fOr (fB (eBin semNe (oE (eBin semIx (oE (eBin semIx (oN 0) (oN 2))) (oE (eC (.int 0))))) (oN 2))) (fB (eBin semNin (oE (eC (.int 0))) (oE (eBin semIx (oN 0) (oN 2))))))) (sRet (eC (.bl false))) (sNx)
def e_is_group_table_0 : EF := eCB semTuple (aCons (oN 3) (aNil))
def b_is_group_table_0 : SF := sIf (fNot (fB (eCall (f_is_square) [.v] (aCons (oE (eN 0)) (aNil))))) (sRet (eC (.bl false))) (sNx)
def b_is_group_table_1 : SF := sSet 1 (eCB semLenA (aCons (oN 0) (aNil)))
def b_is_group_table_2 : SF := sFor (iR1 (oN 1)) (gN 2) (l_is_group_table_0)
def b_is_group_table_3 : SF := sRet (eCall (f_is_associative) [.v] (aCons (oE (eLc [3] (iA (eN 0)) (gN 3) (fYes) (e_is_group_table_0))) (aNil)))
def b_is_group_table : SF := sSeq (b_is_group_table_0) (sSeq (b_is_group_table_1) (sSeq (b_is_group_table_2) (b_is_group_table_3)))
def f_is_group_table : FF := semDef 4 b_is_group_table
def l_enumerated_0 : SF := sSeq (sSet 5 (eBin semIx (oE (eBin semIx (oN 0) (oE (eBin semIx (oN 2) (oN 3))))) (oN 4))) (sIf (fB (eBin semNin (oN 5) (oN 2))) (sDrop (eApp 2 (eN 5))) (sNx))
def l_enumerated_1 : SF := sSeq (sFor (iA (eN 1)) (gN 4) (l_enumerated_0)) (sSet 3 (eBin semAdd (oN 3) (oE (eC (.int 1)))))
def t_enumerated_0 : TF := fB (eBin semLt (oN 3) (oE (eCB semLenA (aCons (oN 2) (aNil)))))
def b_enumerated_0 : SF := sSet 2 (eDis .nl (aCons (oE (eC (.int 0))) (aNil)))
def b_enumerated_1 : SF := sSet 3 (eC (.int 0))
def b_enumerated_2 : SF := sWh 1000 (t_enumerated_0) (l_enumerated_1)
def b_enumerated_3 : SF := sIf (fB (eBin semLt (oE (eCB semLenA (aCons (oN 2) (aNil)))) (oE (eCB semLenA (aCons (oN 0) (aNil)))))) (sRet (eC .non)) (sNx)
def b_enumerated_4 : SF := sRet (eCB semTuple (aCons (oN 2) (aNil)))
def b_enumerated : SF := sSeq (b_enumerated_0) (sSeq (b_enumerated_1) (sSeq (b_enumerated_2) (sSeq (b_enumerated_3) (b_enumerated_4))))
def f_enumerated : FF := semDef 6 b_enumerated
def e_tuples_of_0 : EF := eBin semAdd (oN 4) (oE (eDis .nt (aCons (oE (eN 5)) (aNil))))
def l_tuples_of_0 : SF := sSet 2 (eLc2 [4, 5] [5] (iA (eN 2)) (gN 4) (fYes) (iR2 (oE (eC (.int 1))) (oN 0)) (gN 5) (fYes) (e_tuples_of_0))
def b_tuples_of_0 : SF := sSet 2 (eDis .nl (aCons (oE (eDis .nt (aNil))) (aNil)))
def b_tuples_of_1 : SF := sFor (iR1 (oN 1)) (gN 3) (l_tuples_of_0)
def b_tuples_of_2 : SF := sRet (eR 2)
def b_tuples_of : SF := sSeq (b_tuples_of_0) (sSeq (b_tuples_of_1) (b_tuples_of_2))
def f_tuples_of : FF := semDef 6 b_tuples_of
def e_orders_of_0 : EF := eN 5
def t_orders_of_0 : TF := fB (eBin semNis (oN 5) (oE (eC .non)))
def e_orders_of_1 : EF := eCall (f_enumerated) [.v, .v] (aCons (oE (eN 0)) (aCons (oE (eN 4)) (aNil)))
def l_orders_of_0 : SF := sSeq (sSet 2 (eLc [4] (iA (eCall (f_tuples_of) [.v, .v] (aCons (oE (eCB semLenA (aCons (oN 0) (aNil)))) (aCons (oE (eN 1)) (aNil))))) (gN 4) (fYes) (e_orders_of_1))) (sSeq (sSet 3 (eLc [5] (iA (eN 2)) (gN 5) (t_orders_of_0) (e_orders_of_0))) (sSeq (sIf (fB (eBin (semI fun i j => decide (j < i)) (oE (eCB semLenA (aCons (oN 3) (aNil)))) (oE (eC (.int 0))))) (sRet (eR 3)) (sNx)) (sSet 1 (eBin semAdd (oN 1) (oE (eC (.int 1)))))))
def t_orders_of_1 : TF := fB (eBin (semI fun i j => decide (i ≤ j)) (oN 1) (oE (eCB semLenA (aCons (oN 0) (aNil)))))
def b_orders_of_0 : SF := sSet 1 (eC (.int 0))
def b_orders_of_1 : SF := sWh 1000 (t_orders_of_1) (l_orders_of_0)
def b_orders_of_2 : SF := sRet (eDis .nl (aNil))
def b_orders_of : SF := sSeq (b_orders_of_0) (sSeq (b_orders_of_1) (b_orders_of_2))
def f_orders_of : FF := semDef 6 b_orders_of
def e_renamed_0 : EF := eOB (eMeth D.isL semIndexL (oN 2) (aCons (oE (eBin semIx (oE (eBin semIx (oN 0) (oN 3))) (oN 4))) (aNil))) (eMeth D.isTp semIndexT (oN 2) (aCons (oE (eBin semIx (oE (eBin semIx (oN 0) (oN 3))) (oN 4))) (aNil)))
def e_renamed_1 : EF := eCB semTuple (aCons (oE (eLc [4] (iA (eN 1)) (gN 4) (fYes) (e_renamed_0))) (aNil))
def b_renamed_0 : SF := sSet 2 (eCB semList (aCons (oN 1) (aNil)))
def b_renamed_1 : SF := sRet (eCB semTuple (aCons (oE (eLc [3] (iA (eN 1)) (gN 3) (fYes) (e_renamed_1))) (aNil)))
def b_renamed : SF := sSeq (b_renamed_0) (b_renamed_1)
def f_renamed : FF := semDef 5 b_renamed
def e_group_form_0 : EF := eCall (f_renamed) [.v, .v] (aCons (oE (eN 0)) (aCons (oE (eN 1)) (aNil)))
def b_group_form_0 : SF := sRet (eCB semMinD (aCons (oE (eLc [1] (iA (eCall (f_orders_of) [.v] (aCons (oE (eN 0)) (aNil)))) (gN 1) (fYes) (e_group_form_0))) (aNil)))
def b_group_form : SF := b_group_form_0
def f_group_form : FF := semDef 2 b_group_form
def e_form_maps_0 : EF := eOB (eMeth D.isL semIndexL (oN 3) (aCons (oN 4) (aNil))) (eMeth D.isTp semIndexT (oN 3) (aCons (oN 4) (aNil)))
def l_form_maps_0 : SF := sIf (fB (eBin semEq (oE (eCall (f_renamed) [.v, .v] (aCons (oE (eN 0)) (aCons (oE (eN 3)) (aNil))))) (oN 1))) (sDrop (eApp 2 (eCB semTuple (aCons (oE (eLc [4] (iR1 (oE (eCB semLenA (aCons (oN 0) (aNil))))) (gN 4) (fYes) (e_form_maps_0))) (aNil))))) (sNx)
def b_form_maps_0 : SF := sSet 1 (eCall (f_group_form) [.v] (aCons (oE (eN 0)) (aNil)))
def b_form_maps_1 : SF := sSet 2 (eDis .nl (aNil))
def b_form_maps_2 : SF := sFor (iA (eCall (f_orders_of) [.v] (aCons (oE (eN 0)) (aNil)))) (gN 3) (l_form_maps_0)
def b_form_maps_3 : SF := sRet (eCB semTuple (aCons (oE (eCB semSort (aCons (oN 2) (aNil)))) (aNil)))
def b_form_maps : SF := sSeq (b_form_maps_0) (sSeq (b_form_maps_1) (sSeq (b_form_maps_2) (b_form_maps_3)))
def f_form_maps : FF := semDef 5 b_form_maps
def e_group_isomorphisms_0 : EF := eOB (eMeth D.isL semIndexL (oN 2) (aCons (oN 5) (aNil))) (eMeth D.isTp semIndexT (oN 2) (aCons (oN 5) (aNil)))
def l_group_isomorphisms_0 : SF := sDrop (eApp 3 (eCB semTuple (aCons (oE (eLc [5] (iA (eN 4)) (gN 5) (fYes) (e_group_isomorphisms_0))) (aNil))))
def b_group_isomorphisms_0 : SF := sIf (fB (eBin semNe (oE (eCall (f_group_form) [.v] (aCons (oE (eN 0)) (aNil)))) (oE (eCall (f_group_form) [.v] (aCons (oE (eN 1)) (aNil)))))) (sRet (eDis .nt (aNil))) (sNx)
def b_group_isomorphisms_1 : SF := sSet 2 (eBin semIx (oE (eCall (f_form_maps) [.v] (aCons (oE (eN 1)) (aNil)))) (oE (eC (.int 0))))
def b_group_isomorphisms_2 : SF := sSet 3 (eDis .nl (aNil))
def b_group_isomorphisms_3 : SF := sFor (iA (eCall (f_form_maps) [.v] (aCons (oE (eN 0)) (aNil)))) (gN 4) (l_group_isomorphisms_0)
def b_group_isomorphisms_4 : SF := sRet (eCB semTuple (aCons (oE (eCB semSort (aCons (oN 3) (aNil)))) (aNil)))
def b_group_isomorphisms : SF := sSeq (b_group_isomorphisms_0) (sSeq (b_group_isomorphisms_1) (sSeq (b_group_isomorphisms_2) (sSeq (b_group_isomorphisms_3) (b_group_isomorphisms_4))))
def f_group_isomorphisms : FF := semDef 6 b_group_isomorphisms
def l_law_state_0 : SF := sSeq (sSet 1 (eBin semAdd (oE (eBin semMul (oN 1) (oE (eC (.int 1000003))))) (oE (eCB semAbs (aCons (oN 3) (aNil)))))) (sSet 2 (eBin semMod (oE (eCB semInt (aCons (oE (eBin semAdd (oE (eBin semMul (oN 2) (oE (eC (.int 48271))))) (oN 3))) (aNil)))) (oE (eC (.int 2147483647)))))
def b_law_state_0 : SF := sSet 1 (eC (.int 0))
def b_law_state_1 : SF := sSet 2 (eC (.int 1))
def b_law_state_2 : SF := sFor (iA (eSl semSl (oN 0) (pNo) (pE (eC (.int 63))))) (gN 3) (l_law_state_0)
def b_law_state_3 : SF := sRet (eDis .nl (aCons (oE (eN 1)) (aCons (oE (eIf (fB (eBin semNe (oN 2) (oE (eC (.int 1973665155))))) (eN 2) (eC (.int 7)))) (aNil))))
def b_law_state : SF := sSeq (b_law_state_0) (sSeq (b_law_state_1) (sSeq (b_law_state_2) (b_law_state_3)))
def f_law_state : FF := semDef 4 b_law_state
def e_law_odd_0 (φ : FF) : EF := eN 1
def t_law_odd_0 (φ : FF) : TF := fB (eCall (φ) [.v] (aCons (oE (eN 1)) (aNil)))
def b_law_odd_0 (φ : FF) : SF := sIf (fB (eBin semEq (oN 0) (oE (eC (.str "a word that nothing else is"))))) (sRet (eC (.bl true))) (sNx)
def b_law_odd_1 (φ : FF) : SF := sRet (eAnd (eCB semIsiA (aCons (oN 0) (aCons (oE (eDis .nt (aCons (oE (eC (.ty "tuple"))) (aCons (oE (eC (.ty "list"))) (aNil))))) (aNil)))) (eBin (semI fun i j => decide (j < i)) (oE (eCB semLenA (aCons (oE (eLc [1] (iA (eN 0)) (gN 1) (t_law_odd_0 φ) (e_law_odd_0 φ))) (aNil)))) (oE (eC (.int 0)))))
def b_law_odd (φ : FF) : SF := sSeq (b_law_odd_0 φ) (b_law_odd_1 φ)
def f_law_odd : Nat → FF
  | 0 => fun _ => .bad
  | n + 1 => semDef 2 (b_law_odd (f_law_odd n))
def b_law_honest_0 : SF := sRet (eIf (fB (eCall (f_law_odd 12) [.v] (aCons (oE (eN 0)) (aNil)))) (eC (.str "odd")) (eR 0))
def b_law_honest : SF := b_law_honest_0
def f_law_honest : FF := semDef 1 b_law_honest
def b_law_take_0 : SF := sIf (fB (eBin (semI fun i j => decide (j < i)) (oE (eBin semIx (oN 0) (oE (eC (.int 0))))) (oE (eC (.int 0))))) (sSeq (sSet 2 (eBin semMod (oE (eCB semInt (aCons (oE (eBin semIx (oN 0) (oE (eC (.int 0))))) (aNil)))) (oN 1))) (sSeq (sSetIx 0 (eC (.int 0)) (eBin semDiv (oE (eBin semIx (oN 0) (oE (eC (.int 0))))) (oN 1))) (sRet (eR 2)))) (sNx)
def b_law_take_1 : SF := sSetIx 0 (eC (.int 1)) (eBin semMod (oE (eCB semInt (aCons (oE (eBin semAdd (oE (eBin semMul (oE (eBin semIx (oN 0) (oE (eC (.int 1))))) (oE (eC (.int 48271))))) (oE (eC (.int 11))))) (aNil)))) (oE (eC (.int 2147483647))))
def b_law_take_2 : SF := sRet (eBin semMod (oE (eCB semInt (aCons (oE (eBin semDiv (oE (eBin semIx (oN 0) (oE (eC (.int 1))))) (oE (eC (.int 7))))) (aNil)))) (oN 1))
def b_law_take : SF := sSeq (b_law_take_0) (sSeq (b_law_take_1) (b_law_take_2))
def f_law_take : FF := semDef 3 b_law_take
def l_law_order_of_0 : SF := sDrop (eApp 3 (ePopAt 2 (eCall (f_law_take) [.io, .v] (aCons (oN 0) (aCons (oE (eCB semLenA (aCons (oN 2) (aNil)))) (aNil))))))
def b_law_order_of_0 : SF := sSet 2 (eLRg1 (oN 1))
def b_law_order_of_1 : SF := sSet 3 (eDis .nl (aNil))
def b_law_order_of_2 : SF := sFor (iR1 (oN 1)) (gN 4) (l_law_order_of_0)
def b_law_order_of_3 : SF := sRet (eR 3)
def b_law_order_of : SF := sSeq (b_law_order_of_0) (sSeq (b_law_order_of_1) (sSeq (b_law_order_of_2) (b_law_order_of_3)))
def f_law_order_of : FF := semDef 5 b_law_order_of
def e_law_renamed_0 : EF := eC (.int 0)
def e_law_renamed_1 : EF := eLc [5] (iR1 (oN 2)) (gN 5) (fYes) (e_law_renamed_0)
def l_law_renamed_0 : SF := sSetIx2 3 (eBin semIx (oN 1) (oN 4)) (eBin semIx (oN 1) (oN 5)) (eBin semIx (oN 1) (oE (eBin semIx (oE (eBin semIx (oN 0) (oN 4))) (oN 5))))
def l_law_renamed_1 : SF := sFor (iR1 (oN 2)) (gN 5) (l_law_renamed_0)
def e_law_renamed_2 : EF := eCB semTuple (aCons (oN 6) (aNil))
def b_law_renamed_0 : SF := sSet 2 (eCB semLenA (aCons (oN 0) (aNil)))
def b_law_renamed_1 : SF := sSet 3 (eLcR [4] (iR1 (oN 2)) (gN 4) (fYes) (e_law_renamed_1))
def b_law_renamed_2 : SF := sFor (iR1 (oN 2)) (gN 4) (l_law_renamed_1)
def b_law_renamed_3 : SF := sRet (eLc [6] (iA (eN 3)) (gN 6) (fYes) (e_law_renamed_2))
def b_law_renamed : SF := sSeq (b_law_renamed_0) (sSeq (b_law_renamed_1) (sSeq (b_law_renamed_2) (b_law_renamed_3)))
def f_law_renamed : FF := semDef 7 b_law_renamed
def e_law_times_table_0 : EF := eBin semAdd (oE (eBin semMul (oE (eBin semIx (oE (eBin semIx (oN 0) (oE (eBin semDiv (oN 5) (oN 3))))) (oE (eBin semDiv (oN 6) (oN 3))))) (oN 3))) (oE (eBin semIx (oE (eBin semIx (oN 1) (oE (eBin semMod (oE (eCB semInt (aCons (oN 5) (aNil)))) (oN 3))))) (oE (eBin semMod (oE (eCB semInt (aCons (oN 6) (aNil)))) (oN 3)))))
def l_law_times_table_0 : SF := sDrop (eApp 4 (eCB semTuple (aCons (oE (eLc [6] (iR1 (oE (eBin semMul (oN 2) (oN 3)))) (gN 6) (fYes) (e_law_times_table_0))) (aNil))))
def b_law_times_table_0 : SF := sAsg (gTp 2 (gsCons (gN 2) (gsCons (gN 3) (gsNil)))) (eDis .nt (aCons (oE (eCB semLenA (aCons (oN 0) (aNil)))) (aCons (oE (eCB semLenA (aCons (oN 1) (aNil)))) (aNil))))
def b_law_times_table_1 : SF := sSet 4 (eDis .nl (aNil))
def b_law_times_table_2 : SF := sFor (iR1 (oE (eBin semMul (oN 2) (oN 3)))) (gN 5) (l_law_times_table_0)
def b_law_times_table_3 : SF := sRet (eR 4)
def b_law_times_table : SF := sSeq (b_law_times_table_0) (sSeq (b_law_times_table_1) (sSeq (b_law_times_table_2) (b_law_times_table_3)))
def f_law_times_table : FF := semDef 7 b_law_times_table
def e_law_group_of_0 : EF := eBin semIx (oN 2) (oN 3)
def e_law_group_of_1 : EF := eOB (eMeth D.isL semIndexL (oN 0) (aCons (oE (eCB semTuple (aCons (oE (eLc [3] (iA (eN 1)) (gN 3) (fYes) (e_law_group_of_0))) (aNil)))) (aNil))) (eMeth D.isTp semIndexT (oN 0) (aCons (oE (eCB semTuple (aCons (oE (eLc [3] (iA (eN 1)) (gN 3) (fYes) (e_law_group_of_0))) (aNil)))) (aNil)))
def e_law_group_of_2 : EF := eCB semTuple (aCons (oE (eLc [2] (iA (eN 0)) (gN 2) (fYes) (e_law_group_of_1))) (aNil))
def b_law_group_of_0 : SF := sRet (eLc [1] (iA (eN 0)) (gN 1) (fYes) (e_law_group_of_2))
def b_law_group_of : SF := b_law_group_of_0
def f_law_group_of : FF := semDef 4 b_law_group_of
def e_law_turns_0 : EF := eBin semMod (oE (eCB semInt (aCons (oE (eBin semSub (oN 2) (oN 3))) (aNil)))) (oN 0)
def e_law_turns_1 : EF := eBin semMod (oE (eCB semInt (aCons (oE (eBin semAdd (oN 3) (oN 2))) (aNil)))) (oN 0)
def l_law_turns_0 : SF := sSeq (sDrop (eApp 1 (eCB semTuple (aCons (oE (eLc [3] (iR1 (oN 0)) (gN 3) (fYes) (e_law_turns_1))) (aNil))))) (sDrop (eApp 1 (eCB semTuple (aCons (oE (eLc [3] (iR1 (oN 0)) (gN 3) (fYes) (e_law_turns_0))) (aNil)))))
def b_law_turns_0 : SF := sSet 1 (eDis .nl (aNil))
def b_law_turns_1 : SF := sFor (iR1 (oN 0)) (gN 2) (l_law_turns_0)
def b_law_turns_2 : SF := sRet (eCall (f_law_group_of) [.v] (aCons (oE (eN 1)) (aNil)))
def b_law_turns : SF := sSeq (b_law_turns_0) (sSeq (b_law_turns_1) (b_law_turns_2))
def f_law_turns : FF := semDef 4 b_law_turns
def e_law_even_0 : EF := eN 2
def t_law_even_0 : TF := fB (eBin (semI fun i j => decide (j < i)) (oE (eBin semIx (oN 0) (oN 2))) (oE (eBin semIx (oN 0) (oN 1))))
def e_law_even_1 : EF := eCB semLenA (aCons (oE (eLc [2] (iR1 (oN 1)) (gN 2) (t_law_even_0) (e_law_even_0))) (aNil))
def b_law_even_0 : SF := sRet (eBin semEq (oE (eBin semMod (oE (eCB semSum (aCons (oE (eLc [1] (iR1 (oE (eCB semLenA (aCons (oN 0) (aNil))))) (gN 1) (fYes) (e_law_even_1))) (aNil)))) (oE (eC (.int 2))))) (oE (eC (.int 0))))
def b_law_even : SF := b_law_even_0
def f_law_even : FF := semDef 3 b_law_even
def e_law_orders_0 : EF := eBin semAdd (oN 4) (oE (eDis .nt (aCons (oE (eN 5)) (aNil))))
def t_law_orders_0 : TF := fB (eBin semNin (oN 5) (oN 4))
def l_law_orders_0 : SF := sSet 3 (eBin semAdd (oN 3) (oE (eLc [5] (iR1 (oN 0)) (gN 5) (t_law_orders_0) (e_law_orders_0))))
def l_law_orders_1 : SF := sSeq (sSet 3 (eDis .nl (aNil))) (sSeq (sFor (iA (eN 1)) (gN 4) (l_law_orders_0)) (sSet 1 (eCB semList (aCons (oN 3) (aNil)))))
def b_law_orders_0 : SF := sSet 1 (eDis .nl (aCons (oE (eDis .nt (aNil))) (aNil)))
def b_law_orders_1 : SF := sFor (iR1 (oN 0)) (gN 2) (l_law_orders_1)
def b_law_orders_2 : SF := sRet (eR 1)
def b_law_orders : SF := sSeq (b_law_orders_0) (sSeq (b_law_orders_1) (b_law_orders_2))
def f_law_orders : FF := semDef 6 b_law_orders
def e_law_cyclic_0 : EF := eBin semMod (oE (eCB semInt (aCons (oE (eBin semAdd (oN 1) (oN 2))) (aNil)))) (oN 0)
def e_law_cyclic_1 : EF := eCB semTuple (aCons (oE (eLc [2] (iR1 (oN 0)) (gN 2) (fYes) (e_law_cyclic_0))) (aNil))
def b_law_cyclic_0 : SF := sRet (eLc [1] (iR1 (oN 0)) (gN 1) (fYes) (e_law_cyclic_1))
def b_law_cyclic : SF := b_law_cyclic_0
def f_law_cyclic : FF := semDef 3 b_law_cyclic
def l_law_quaternions_0 : SF := sSeq (sPar 8 9 (eBin semDiv (oN 3) (oE (eC (.int 2)))) (eBin semMod (oE (eCB semInt (aCons (oN 3) (aNil)))) (oE (eC (.int 2))))) (sSeq (sSet 6 (eCB semInt (aCons (oE (eOr (eAnd (eBin semEq (oN 4) (oN 8)) (eBin (semI fun i j => decide (j < i)) (oN 4) (oE (eC (.int 0))))) (eBin semIn (oE (eDis .nt (aCons (oE (eN 4)) (aCons (oE (eN 8)) (aNil))))) (oE (eDis .nl (aCons (oE (eDis .nt (aCons (oE (eC (.int 2))) (aCons (oE (eC (.int 1))) (aNil))))) (aCons (oE (eDis .nt (aCons (oE (eC (.int 3))) (aCons (oE (eC (.int 2))) (aNil))))) (aCons (oE (eDis .nt (aCons (oE (eC (.int 1))) (aCons (oE (eC (.int 3))) (aNil))))) (aNil))))))))) (aNil)))) (sSeq (sSet 7 (eIf (fOr (fB (eBin semEq (oN 4) (oE (eC (.int 0))))) (fB (eBin semEq (oN 8) (oE (eC (.int 0)))))) (eBin semAdd (oN 4) (oN 8)) (eIf (fB (eBin semEq (oN 4) (oN 8))) (eC (.int 0)) (eBin semSub (oE (eBin semSub (oE (eC (.int 6))) (oN 4))) (oN 8))))) (sDrop (eApp 2 (eBin semAdd (oE (eBin semMul (oE (eC (.int 2))) (oN 7))) (oE (eBin semMod (oE (eCB semInt (aCons (oE (eBin semAdd (oE (eBin semAdd (oN 5) (oN 9))) (oN 6))) (aNil)))) (oE (eC (.int 2))))))))))
def l_law_quaternions_1 : SF := sSeq (sPar 4 5 (eBin semDiv (oN 1) (oE (eC (.int 2)))) (eBin semMod (oE (eCB semInt (aCons (oN 1) (aNil)))) (oE (eC (.int 2))))) (sSeq (sSet 2 (eDis .nl (aNil))) (sSeq (sFor (iR1 (oE (eC (.int 8)))) (gN 3) (l_law_quaternions_0)) (sDrop (eApp 0 (eCB semTuple (aCons (oN 2) (aNil)))))))
def b_law_quaternions_0 : SF := sSet 0 (eDis .nl (aNil))
def b_law_quaternions_1 : SF := sFor (iR1 (oE (eC (.int 8)))) (gN 1) (l_law_quaternions_1)
def b_law_quaternions_2 : SF := sRet (eR 0)
def b_law_quaternions : SF := sSeq (b_law_quaternions_0) (sSeq (b_law_quaternions_1) (b_law_quaternions_2))
def f_law_quaternions : FF := semDef 10 b_law_quaternions
def e_law_inner_order_0 : EF := eBin semAdd (oE (eC (.int 1))) (oN 2)
def b_law_inner_order_0 : SF := sRet (eBin semAdd (oE (eDis .nl (aCons (oE (eC (.int 0))) (aNil)))) (oE (eLc [2] (iA (eCall (f_law_order_of) [.io, .v] (aCons (oN 0) (aCons (oE (eBin semSub (oN 1) (oE (eC (.int 1))))) (aNil))))) (gN 2) (fYes) (e_law_inner_order_0))))
def b_law_inner_order : SF := b_law_inner_order_0
def f_law_inner_order : FF := semDef 3 b_law_inner_order
def e_law_some_0 : EF := eN 3
def t_law_some_0 : TF := fB (eCall (f_law_even) [.v] (aCons (oE (eN 3)) (aNil)))
def b_law_some_0 : SF := sSet 2 (eCall (f_law_take) [.io, .v] (aCons (oN 0) (aCons (oE (eC (.int 6))) (aNil))))
def b_law_some_1 : SF := sIf (fB (eBin semEq (oN 2) (oE (eC (.int 0))))) (sRet (eCall (f_law_cyclic) [.v] (aCons (oE (eBin semAdd (oE (eC (.int 7))) (oE (eCall (f_law_take) [.io, .v] (aCons (oN 0) (aCons (oE (eC (.int 10))) (aNil))))))) (aNil)))) (sNx)
def b_law_some_2 : SF := sIf (fB (eBin semEq (oN 2) (oE (eC (.int 1))))) (sRet (eCall (f_law_turns) [.v] (aCons (oE (eBin semAdd (oE (eC (.int 4))) (oE (eCall (f_law_take) [.io, .v] (aCons (oN 0) (aCons (oE (eC (.int 5))) (aNil))))))) (aNil)))) (sNx)
def b_law_some_3 : SF := sIf (fB (eBin semEq (oN 2) (oE (eC (.int 2))))) (sRet (eCall0 (f_law_quaternions))) (sNx)
def b_law_some_4 : SF := sIf (fB (eBin semEq (oN 2) (oE (eC (.int 3))))) (sRet (eCall (f_law_group_of) [.v] (aCons (oE (eLc [3] (iA (eCall (f_law_orders) [.v] (aCons (oE (eC (.int 4))) (aNil)))) (gN 3) (t_law_some_0) (e_law_some_0))) (aNil)))) (sNx)
def b_law_some_5 : SF := sIf (fAnd (fB (eBin semEq (oN 2) (oE (eC (.int 4))))) (fB (eN 1))) (sRet (eCall (f_law_group_of) [.v] (aCons (oE (eCall (f_law_orders) [.v] (aCons (oE (eC (.int 4))) (aNil)))) (aNil)))) (sNx)
def b_law_some_6 : SF := sAsg (gTp 2 (gsCons (gN 4) (gsCons (gN 5) (gsNil)))) (eBin semIx (oE (eDis .nl (aCons (oE (eDis .nt (aCons (oE (eC (.int 2))) (aCons (oE (eC (.int 4))) (aNil))))) (aCons (oE (eDis .nt (aCons (oE (eC (.int 3))) (aCons (oE (eC (.int 3))) (aNil))))) (aCons (oE (eDis .nt (aCons (oE (eC (.int 2))) (aCons (oE (eC (.int 6))) (aNil))))) (aCons (oE (eDis .nt (aCons (oE (eC (.int 2))) (aCons (oE (eC (.int 8))) (aNil))))) (aCons (oE (eDis .nt (aCons (oE (eC (.int 4))) (aCons (oE (eC (.int 4))) (aNil))))) (aCons (oE (eDis .nt (aCons (oE (eC (.int 3))) (aCons (oE (eC (.int 4))) (aNil))))) (aCons (oE (eDis .nt (aCons (oE (eC (.int 2))) (aCons (oE (eC (.int 5))) (aNil))))) (aNil)))))))))) (oE (eCall (f_law_take) [.io, .v] (aCons (oN 0) (aCons (oE (eC (.int 7))) (aNil))))))
def b_law_some_7 : SF := sRet (eCall (f_law_times_table) [.v, .v] (aCons (oE (eCall (f_law_cyclic) [.v] (aCons (oE (eN 4)) (aNil)))) (aCons (oE (eCall (f_law_cyclic) [.v] (aCons (oE (eN 5)) (aNil)))) (aNil))))
def b_law_some : SF := sSeq (b_law_some_0) (sSeq (b_law_some_1) (sSeq (b_law_some_2) (sSeq (b_law_some_3) (sSeq (b_law_some_4) (sSeq (b_law_some_5) (sSeq (b_law_some_6) (b_law_some_7)))))))
def f_law_some : FF := semDef 6 b_law_some
def e_law_shuffled_0 : EF := eN 4
def t_law_shuffled_0 : TF := fB (eBin semEq (oE (eBin semIx (oE (eBin semIx (oN 1) (oN 4))) (oN 4))) (oN 4))
def b_law_shuffled_0 : SF := sSet 2 (eCB semLenA (aCons (oN 1) (aNil)))
def b_law_shuffled_1 : SF := sSet 3 (eBin semIx (oE (eLc [4] (iR1 (oN 2)) (gN 4) (t_law_shuffled_0) (e_law_shuffled_0))) (oE (eC (.int 0))))
def b_law_shuffled_2 : SF := sSet 5 (eCall (f_law_inner_order) [.io, .v] (aCons (oN 0) (aCons (oE (eN 2)) (aNil))))
def b_law_shuffled_3 : SF := sSet 6 (eOB (eMeth D.isL semIndexL (oN 5) (aCons (oE (eC (.int 0))) (aNil))) (eMeth D.isTp semIndexT (oN 5) (aCons (oE (eC (.int 0))) (aNil))))
def b_law_shuffled_4 : SF := sAsg (gTp 2 (gsCons (gIx 5 6) (gsCons (gIx 5 3) (gsNil)))) (eDis .nt (aCons (oE (eBin semIx (oN 5) (oN 3))) (aCons (oE (eBin semIx (oN 5) (oN 6))) (aNil))))
def b_law_shuffled_5 : SF := sRet (eCall (f_law_renamed) [.v, .v] (aCons (oE (eN 1)) (aCons (oE (eN 5)) (aNil))))
def b_law_shuffled : SF := sSeq (b_law_shuffled_0) (sSeq (b_law_shuffled_1) (sSeq (b_law_shuffled_2) (sSeq (b_law_shuffled_3) (sSeq (b_law_shuffled_4) (b_law_shuffled_5)))))
def f_law_shuffled : FF := semDef 7 b_law_shuffled
def l_law_listed_0 : SF := sSeq (sSet 6 (eBin semIx (oE (eBin semIx (oN 0) (oE (eBin semIx (oN 2) (oN 4))))) (oN 5))) (sIf (fB (eBin (semDIn true) (oN 6) (oN 3))) (sSeq (sDPutF 3 (eN 6) (eC (.bl true))) (sDrop (eApp 2 (eN 6)))) (sNx))
def l_law_listed_1 : SF := sSeq (sFor (iA (eN 1)) (gN 5) (l_law_listed_0)) (sSet 4 (eBin semAdd (oN 4) (oE (eC (.int 1)))))
def t_law_listed_0 : TF := fB (eBin semLt (oN 4) (oE (eCB semLenA (aCons (oN 2) (aNil)))))
def b_law_listed_0 : SF := sPar 2 3 (eDis .nl (aCons (oE (eC (.int 0))) (aNil))) (eD1 (eC (.int 0)) (eC (.bl true)))
def b_law_listed_1 : SF := sSet 4 (eC (.int 0))
def b_law_listed_2 : SF := sWh 1000 (t_law_listed_0) (l_law_listed_1)
def b_law_listed_3 : SF := sRet (eR 2)
def b_law_listed : SF := sSeq (b_law_listed_0) (sSeq (b_law_listed_1) (sSeq (b_law_listed_2) (b_law_listed_3)))
def f_law_listed : FF := semDef 7 b_law_listed
def e_law_rows_0 : EF := eBin semAdd (oN 5) (oE (eDis .nt (aCons (oE (eN 6)) (aNil))))
def l_law_rows_0 : SF := sSet 4 (eBin semAdd (oN 4) (oE (eLc [6] (iR2 (oE (eC (.int 1))) (oN 0)) (gN 6) (fYes) (e_law_rows_0))))
def l_law_rows_1 : SF := sSeq (sSet 4 (eDis .nl (aNil))) (sSeq (sFor (iA (eN 2)) (gN 5) (l_law_rows_0)) (sSet 2 (eCB semList (aCons (oN 4) (aNil)))))
def b_law_rows_0 : SF := sSet 2 (eDis .nl (aCons (oE (eDis .nt (aNil))) (aNil)))
def b_law_rows_1 : SF := sFor (iR1 (oN 1)) (gN 3) (l_law_rows_1)
def b_law_rows_2 : SF := sRet (eR 2)
def b_law_rows : SF := sSeq (b_law_rows_0) (sSeq (b_law_rows_1) (b_law_rows_2))
def f_law_rows : FF := semDef 7 b_law_rows
def e_law_enumerations_0 : EF := eCall (f_law_listed) [.v, .v] (aCons (oE (eN 0)) (aCons (oE (eN 5)) (aNil)))
def e_law_enumerations_1 : EF := eN 4
def t_law_enumerations_0 : TF := fB (eBin semEq (oE (eCB semLenA (aCons (oN 4) (aNil)))) (oN 1))
def l_law_enumerations_0 : SF := sSeq (sSet 3 (eLc [4] (iA (eLc [5] (iA (eCall (f_law_rows) [.v, .v] (aCons (oE (eN 1)) (aCons (oE (eN 2)) (aNil))))) (gN 5) (fYes) (e_law_enumerations_0))) (gN 4) (t_law_enumerations_0) (e_law_enumerations_1))) (sIf (fB (eBin (semI fun i j => decide (j < i)) (oE (eCB semLenA (aCons (oN 3) (aNil)))) (oE (eC (.int 0))))) (sRet (eR 3)) (sNx))
def b_law_enumerations_0 : SF := sSet 1 (eCB semLenA (aCons (oN 0) (aNil)))
def b_law_enumerations_1 : SF := sFor (iR1 (oE (eC (.int 4)))) (gN 2) (l_law_enumerations_0)
def b_law_enumerations_2 : SF := sRet (eDis .nl (aNil))
def b_law_enumerations : SF := sSeq (b_law_enumerations_0) (sSeq (b_law_enumerations_1) (b_law_enumerations_2))
def f_law_enumerations : FF := semDef 6 b_law_enumerations
def e_law_by_order_0 : EF := eC (.int 0)
def l_law_by_order_0 : SF := sSetIx 2 (eBin semIx (oN 1) (oN 4)) (eN 4)
def e_law_by_order_1 : EF := eBin semIx (oN 2) (oE (eBin semIx (oE (eBin semIx (oN 0) (oN 3))) (oN 5)))
def e_law_by_order_2 : EF := eCB semTuple (aCons (oE (eLc [5] (iA (eN 1)) (gN 5) (fYes) (e_law_by_order_1))) (aNil))
def b_law_by_order_0 : SF := sSet 2 (eLc [3] (iA (eN 1)) (gN 3) (fYes) (e_law_by_order_0))
def b_law_by_order_1 : SF := sFor (iR1 (oE (eCB semLenA (aCons (oN 1) (aNil))))) (gN 4) (l_law_by_order_0)
def b_law_by_order_2 : SF := sRet (eCB semTuple (aCons (oE (eLc [3] (iA (eN 1)) (gN 3) (fYes) (e_law_by_order_2))) (aNil)))
def b_law_by_order : SF := sSeq (b_law_by_order_0) (sSeq (b_law_by_order_1) (b_law_by_order_2))
def f_law_by_order : FF := semDef 6 b_law_by_order
def e_law_form_0 : EF := eOB (eMeth D.isL semIndexL (oN 3) (aCons (oN 5) (aNil))) (eMeth D.isTp semIndexT (oN 3) (aCons (oN 5) (aNil)))
def l_law_form_0 : SF := sSeq (sSet 4 (eCall (f_law_by_order) [.v, .v] (aCons (oE (eN 0)) (aCons (oE (eN 3)) (aNil))))) (sSeq (sIf (fOr (fB (eBin semIs (oN 1) (oE (eC .non)))) (fB (eBin semLt (oN 4) (oN 1)))) (sPar 1 2 (eN 4) (eDis .nl (aNil))) (sNx)) (sIf (fB (eBin semEq (oN 4) (oN 1))) (sDrop (eApp 2 (eCB semTuple (aCons (oE (eLc [5] (iR1 (oE (eCB semLenA (aCons (oN 3) (aNil))))) (gN 5) (fYes) (e_law_form_0))) (aNil))))) (sNx)))
def b_law_form_0 : SF := sPar 1 2 (eC .non) (eDis .nl (aNil))
def b_law_form_1 : SF := sFor (iA (eCall (f_law_enumerations) [.v] (aCons (oE (eN 0)) (aNil)))) (gN 3) (l_law_form_0)
def b_law_form_2 : SF := sRet (eDis .nt (aCons (oE (eN 1)) (aCons (oE (eCB semTuple (aCons (oE (eCB semSort (aCons (oN 2) (aNil)))) (aNil)))) (aNil))))
def b_law_form : SF := sSeq (b_law_form_0) (sSeq (b_law_form_1) (b_law_form_2))
def f_law_form : FF := semDef 6 b_law_form
def l_law_isomorphisms_0 : SF := sSetIx 7 (eBin semIx (oN 3) (oN 8)) (eBin semIx (oN 6) (oN 8))
def e_law_isomorphisms_0 : EF := eC (.int 0)
def l_law_isomorphisms_1 : SF := sIf (fB (eBin semEq (oE (eCall (f_law_by_order) [.v, .v] (aCons (oE (eN 1)) (aCons (oE (eN 6)) (aNil))))) (oN 4))) (sSeq (sSet 7 (eLc [9] (iR1 (oN 2)) (gN 9) (fYes) (e_law_isomorphisms_0))) (sSeq (sFor (iR1 (oN 2)) (gN 8) (l_law_isomorphisms_0)) (sDrop (eApp 5 (eCB semTuple (aCons (oN 7) (aNil))))))) (sNx)
def b_law_isomorphisms_0 : SF := sSet 2 (eCB semLenA (aCons (oN 0) (aNil)))
def b_law_isomorphisms_1 : SF := sIf (fB (eBin semNe (oE (eCB semLenA (aCons (oN 1) (aNil)))) (oN 2))) (sRet (eDis .nt (aNil))) (sNx)
def b_law_isomorphisms_2 : SF := sSet 3 (eBin semIx (oE (eCall (f_law_enumerations) [.v] (aCons (oE (eN 0)) (aNil)))) (oE (eC (.int 0))))
def b_law_isomorphisms_3 : SF := sPar 4 5 (eCall (f_law_by_order) [.v, .v] (aCons (oE (eN 0)) (aCons (oE (eN 3)) (aNil)))) (eDis .nl (aNil))
def b_law_isomorphisms_4 : SF := sFor (iA (eCall (f_law_enumerations) [.v] (aCons (oE (eN 1)) (aNil)))) (gN 6) (l_law_isomorphisms_1)
def b_law_isomorphisms_5 : SF := sRet (eCB semTuple (aCons (oE (eCB semSort (aCons (oN 5) (aNil)))) (aNil)))
def b_law_isomorphisms : SF := sSeq (b_law_isomorphisms_0) (sSeq (b_law_isomorphisms_1) (sSeq (b_law_isomorphisms_2) (sSeq (b_law_isomorphisms_3) (sSeq (b_law_isomorphisms_4) (b_law_isomorphisms_5)))))
def f_law_isomorphisms : FF := semDef 10 b_law_isomorphisms
def e_law_tables_hold_0 : EF := eCB semList (aCons (oN 4) (aNil))
def e_law_tables_hold_1 : EF := eBin semIx (oE (eBin semIx (oN 1) (oN 6))) (oN 5)
def e_law_tables_hold_2 : EF := eCB semTuple (aCons (oE (eLc [6] (iR1 (oN 2)) (gN 6) (fYes) (e_law_tables_hold_1))) (aNil))
def e_law_tables_hold_3 : EF := eCB semList (aCons (oN 4) (aNil))
def e_law_tables_hold_4 : EF := eCB semMax2 (aCons (oN 5) (aCons (oN 6) (aNil)))
def e_law_tables_hold_5 : EF := eLc [6] (iR1 (oN 2)) (gN 6) (fYes) (e_law_tables_hold_4)
def b_law_tables_hold_0 : SF := sSet 2 (eCB semLenA (aCons (oN 1) (aNil)))
def b_law_tables_hold_1 : SF := sSet 3 (eLcR [4] (iA (eN 1)) (gN 4) (fYes) (e_law_tables_hold_0))
def b_law_tables_hold_2 : SF := sIf (fOr (fB (eBin semNis (oE (eCall (f_is_group_table) [.br] (aCons (oN 3) (aNil)))) (oE (eC (.bl true))))) (fB (eBin semNis (oE (eCall (f_is_group_table) [.v] (aCons (oE (eCB semTuple (aCons (oN 1) (aNil)))) (aNil)))) (oE (eC (.bl true)))))) (sRet (eC (.bl false))) (sNx)
def b_law_tables_hold_3 : SF := sIf (fB (eBin semNis (oE (eCall (f_is_group_table) [.v] (aCons (oE (eLc [5] (iR1 (oN 2)) (gN 5) (fYes) (e_law_tables_hold_2))) (aNil)))) (oE (eC (.bl true))))) (sRet (eC (.bl false))) (sNx)
def b_law_tables_hold_4 : SF := sPar 5 6 (eBin semAdd (oE (eC (.int 1))) (oE (eCall (f_law_take) [.io, .v] (aCons (oN 0) (aCons (oE (eBin semSub (oN 2) (oE (eC (.int 1))))) (aNil)))))) (eBin semAdd (oE (eC (.int 1))) (oE (eCall (f_law_take) [.io, .v] (aCons (oN 0) (aCons (oE (eBin semSub (oN 2) (oE (eC (.int 1))))) (aNil))))))
def b_law_tables_hold_5 : SF := sSetIx2 3 (eN 5) (eN 6) (eBin semMod (oE (eCB semInt (aCons (oE (eBin semAdd (oE (eBin semAdd (oE (eIx2 3 (eN 5) (eN 6))) (oE (eC (.int 1))))) (oE (eCall (f_law_take) [.io, .v] (aCons (oN 0) (aCons (oE (eBin semSub (oN 2) (oE (eC (.int 1))))) (aNil))))))) (aNil)))) (oN 2))
def b_law_tables_hold_6 : SF := sIf (fB (eBin semNis (oE (eCall (f_is_group_table) [.br] (aCons (oN 3) (aNil)))) (oE (eC (.bl false))))) (sRet (eC (.bl false))) (sNx)
def b_law_tables_hold_7 : SF := sSet 3 (eLcR [4] (iA (eN 1)) (gN 4) (fYes) (e_law_tables_hold_3))
def b_law_tables_hold_8 : SF := sSet 7 (eBin semAdd (oE (eBin semMod (oE (eCB semInt (aCons (oE (eBin semAdd (oN 6) (oE (eCall (f_law_take) [.io, .v] (aCons (oN 0) (aCons (oE (eBin semSub (oN 2) (oE (eC (.int 2))))) (aNil))))))) (aNil)))) (oE (eBin semSub (oN 2) (oE (eC (.int 1))))))) (oE (eC (.int 1))))
def b_law_tables_hold_9 : SF := sIf (fB (eBin semNe (oN 7) (oN 6))) (sSeq (sAsg (gTp 2 (gsCons (gIx2 3 5 6) (gsCons (gIx2 3 5 7) (gsNil)))) (eDis .nt (aCons (oE (eIx2 3 (eN 5) (eN 7))) (aCons (oE (eIx2 3 (eN 5) (eN 6))) (aNil))))) (sIf (fB (eBin semNis (oE (eCall (f_is_group_table) [.v] (aCons (oE (eN 3)) (aNil)))) (oE (eC (.bl false))))) (sRet (eC (.bl false))) (sNx))) (sNx)
def b_law_tables_hold_10 : SF := sSet 8 (eLc [5] (iR1 (oN 2)) (gN 5) (fYes) (e_law_tables_hold_5))
def b_law_tables_hold_11 : SF := sRet (eAnd (eBin semIs (oE (eCall (f_is_group_table) [.v] (aCons (oE (eN 8)) (aNil)))) (oE (eC (.bl false)))) (eBin semIs (oE (eCall (f_is_group_table) [.v] (aCons (oE (eSl semSl (oN 1) (pNo) (pE (eUn semNeg (oE (eC (.int 1))))))) (aNil)))) (oE (eC (.bl false)))))
def b_law_tables_hold : SF := sSeq (b_law_tables_hold_0) (sSeq (b_law_tables_hold_1) (sSeq (b_law_tables_hold_2) (sSeq (b_law_tables_hold_3) (sSeq (b_law_tables_hold_4) (sSeq (b_law_tables_hold_5) (sSeq (b_law_tables_hold_6) (sSeq (b_law_tables_hold_7) (sSeq (b_law_tables_hold_8) (sSeq (b_law_tables_hold_9) (sSeq (b_law_tables_hold_10) (b_law_tables_hold_11)))))))))))
def f_law_tables_hold : FF := semDef 9 b_law_tables_hold
def e_law_0 : EF := eCB semList (aCons (oN 7) (aNil))
def b_law_0 : SF := sSet 1 (eCall (f_law_state) [.v] (aCons (oE (eN 0)) (aNil)))
def b_law_1 : SF := sSet 2 (eBin semEq (oE (eCall (f_law_take) [.io, .v] (aCons (oN 1) (aCons (oE (eC (.int 8))) (aNil))))) (oE (eC (.int 0))))
def b_law_2 : SF := sSet 3 (eCall (f_law_shuffled) [.io, .v] (aCons (oN 1) (aCons (oE (eCall (f_law_some) [.io, .v] (aCons (oN 1) (aCons (oE (eN 2)) (aNil))))) (aNil))))
def b_law_3 : SF := sSet 4 (eCall (f_law_shuffled) [.io, .v] (aCons (oN 1) (aCons (oE (eIf (fB (eBin semEq (oE (eCall (f_law_take) [.io, .v] (aCons (oN 1) (aCons (oE (eC (.int 2))) (aNil))))) (oE (eC (.int 0))))) (eCall (f_law_some) [.io, .v] (aCons (oN 1) (aCons (oE (eC (.bl false))) (aNil)))) (eN 3))) (aNil))))
def b_law_4 : SF := sIf (fNot (fB (eCall (f_law_tables_hold) [.io, .v] (aCons (oN 1) (aCons (oE (eN 3)) (aNil)))))) (sRet (eC (.bl false))) (sNx)
def b_law_5 : SF := sAsg (gTp 2 (gsCons (gN 5) (gsCons (gN 6) (gsNil)))) (eCall (f_law_form) [.v] (aCons (oE (eN 3)) (aNil)))
def b_law_6 : SF := sIf (fB (eBin semNe (oE (eCall (f_law_honest) [.v] (aCons (oE (eCall (f_group_form) [.v] (aCons (oE (eN 3)) (aNil)))) (aNil)))) (oN 5))) (sRet (eC (.bl false))) (sNx)
def b_law_7 : SF := sIf (fB (eBin (semI fun i j => decide (j < i)) (oE (eCB semLenA (aCons (oN 3) (aNil)))) (oE (eC (.int 16))))) (sRet (eC (.bl true))) (sNx)
def b_law_8 : SF := sIf (fOr (fB (eBin semNe (oE (eCall (f_law_honest) [.v] (aCons (oE (eCall (f_form_maps) [.v] (aCons (oE (eN 3)) (aNil)))) (aNil)))) (oN 6))) (fB (eBin semNe (oE (eCall (f_law_honest) [.v] (aCons (oE (eCall (f_group_form) [.v] (aCons (oE (eLc [7] (iA (eN 4)) (gN 7) (fYes) (e_law_0))) (aNil)))) (aNil)))) (oE (eBin semIx (oE (eCall (f_law_form) [.v] (aCons (oE (eN 4)) (aNil)))) (oE (eC (.int 0)))))))) (sRet (eC (.bl false))) (sNx)
def b_law_9 : SF := sSet 8 (eCall (f_law_isomorphisms) [.v, .v] (aCons (oE (eN 3)) (aCons (oE (eN 4)) (aNil))))
def b_law_10 : SF := sRet (eAnd (eBin semEq (oE (eCall (f_law_honest) [.v] (aCons (oE (eCall (f_group_isomorphisms) [.v, .v] (aCons (oE (eN 3)) (aCons (oE (eN 4)) (aNil))))) (aNil)))) (oN 8)) (eBin semEq (oE (eBin semEq (oE (eBin semIx (oE (eCall (f_law_form) [.v] (aCons (oE (eN 4)) (aNil)))) (oE (eC (.int 0))))) (oN 5))) (oE (eBin (semI fun i j => decide (j < i)) (oE (eCB semLenA (aCons (oN 8) (aNil)))) (oE (eC (.int 0)))))))
def b_law : SF := sSeq (b_law_0) (sSeq (b_law_1) (sSeq (b_law_2) (sSeq (b_law_3) (sSeq (b_law_4) (sSeq (b_law_5) (sSeq (b_law_6) (sSeq (b_law_7) (sSeq (b_law_8) (sSeq (b_law_9) (b_law_10))))))))))
def f_law : FF := semDef 9 b_law
end K74

end
section
set_option Elab.async false
set_option linter.all false
namespace K74
open PySem L2 VI
theorem ev_is_integer (i : Int) : f_is_integer [.fz (.int i)] = .ok (.fz (.bl true)) [] := by rfl
theorem ev_is_item (x n : Nat) : f_is_item [.fz (di x), .fz (di n)] = .ok (.fz (.bl (decide (x < n)))) [] := by
  simp [f_is_item, semDef, b_is_item, b_is_item_0, rho0, FA.sv, mkArgs, mkArg, okIx, ioAt, callRes, setIo, brIx, ev_is_integer, iosOf]
inductive Ctr : (List D → D) → Prop
  | lst : Ctr D.lst
  | tup : Ctr D.tup
def tabD (c r : List D → D) (t : List (List Nat)) : D := c (t.map fun row => r (row.map di))
theorem isi_lst (ds : List D) : semIsiA [.lst ds, .tup [.ty "list", .ty "tuple"]] = some (.sc (.bl true)) := by rfl
theorem isi_tup (ds : List D) : semIsiA [.tup ds, .tup [.ty "list", .ty "tuple"]] = some (.sc (.bl true)) := by rfl
theorem len_eq (a b : Nat) : semEq (.int (a : Int)) (.int (b : Int)) = some (.sc (.bl (decide (a = b)))) := semEq_F eqf_di lef_di a b
theorem len_ne (a b : Nat) : semNe (.int (a : Int)) (.int (b : Int)) = some (.sc (.bl (!decide (a = b)))) := semNe_F eqf_di lef_di a b
theorem len_eq0 (a : Nat) : semEq (.int (a : Int)) (.int 0) = some (.sc (.bl (decide (a = 0)))) := len_eq a 0
theorem all_bls {α : Type} (c : α → Bool) (xs : List α) : semAll [.lst (xs.map fun x => D.bl (c x))] = some (.sc (.bl (xs.all c))) := by
  simp [semAll, bls_cs, List.all_map, Function.comp_def]
def sqB (t : List (List Nat)) : Bool := !decide (t.length = 0) && t.all fun row => decide (row.length = t.length) && row.all fun x => decide (x < t.length)
theorem ev_is_square {c r : List D → D} (hc : Ctr c) (hr : Ctr r) (t : List (List Nat)) (hs : ∀ row ∈ t, row.length ≤ 1000000) : f_is_square [.fz (tabD c r t)] = .ok (.fz (.bl (sqB t))) [] := by
  have key := fun s => forL_all (tg := gN 1) (body := l_is_square_0) (e := fun row : List Nat => r (row.map di)) (c := fun row => decide (row.length = t.length) && row.all fun x => decide (x < t.length))
    (fun s => [SV.fz (tabD c r t), s, .no]) (.fz (.bl false)) t s ?_
  · have k1 := (key .no).1
    have k2 := (key .no).2
    cases hall : t.all (fun row => decide (row.length = t.length) && row.all fun x => decide (x < t.length)) with
    | true =>
      obtain ⟨s', k1⟩ := k1 hall
      cases hc <;> cases hr
      all_goals
        simp only [tabD] at k1
        simp [f_is_square, semDef, b_is_square, b_is_square_0, b_is_square_1, b_is_square_2, rho0, FA.sv, iosOf, isi_lst, isi_tup, len_eq0, sqB, tabD, k1, hall]
        by_cases h0 : t = [] <;> simp [h0, iosOf, k1]
    | false =>
      obtain ⟨s', k2⟩ := k2 hall
      cases hc <;> cases hr
      all_goals
        simp only [tabD] at k2
        simp [f_is_square, semDef, b_is_square, b_is_square_0, b_is_square_1, b_is_square_2, rho0, FA.sv, iosOf, isi_lst, isi_tup, len_eq0, sqB, tabD, k2, hall]
        by_cases h0 : t = [] <;> simp [h0, iosOf, k2]
  · intro s row hrow
    have hl := hs row hrow
    have hlc : ∀ s, lcL [2] (gN 2) fYes e_is_square_0 (row.map di) [SV.fz (tabD c r t), s, .no] = .ok (row.map fun x => D.bl (decide (x < t.length))) [SV.fz (tabD c r t), s, .no] := fun s => by
      refine lcL_map row fun x hx => ?_
      cases hc <;> cases hr <;> simp [e_is_square_0, tabD, mkArgs, mkArg, okIx, ioAt, callRes, setIo, brIx, ev_is_item]
    cases hc <;> cases hr
    all_goals
      simp only [tabD] at hlc
      by_cases h1 : row.length = t.length
      · have hl2 : t.length ≤ 1000000 := h1 ▸ hl
        generalize hb : (row.all fun x => decide (x < t.length)) = b
        simp [l_is_square_0, isi_lst, isi_tup, len_ne, tabD, plainVars, hlc, h1, hl2, all_bls, hb]
        cases b <;> simp
      · simp [l_is_square_0, isi_lst, isi_tup, len_ne, tabD, h1]
end K74

end
section
set_option Elab.async false
set_option linter.all false
namespace K74
open PySem L2 VI
def rowAt (t : List (List Nat)) (x : Nat) : List Nat := t.getD x []
def cellAt (r : List Nat) (y : Nat) : Nat := r.getD y 0
def tg (t : List (List Nat)) (x y : Nat) : Nat := cellAt (rowAt t x) y
theorem at_row {f : List Nat → D} {t : List (List Nat)} {x : Nat} (h : x < t.length) : atI (t.map f) (x : Int) = some (f (rowAt t x)) := by
  rw [atI_map h]; unfold rowAt; simp [h]
theorem at_cell {r : List Nat} {y : Nat} (h : y < r.length) : atI (r.map di) (y : Int) = some (di (cellAt r y)) := by
  rw [atI_map h]; unfold cellAt; simp [h]
structure Valid (n : Nat) (t : List (List Nat)) : Prop where
  len : t.length = n
  row : ∀ r ∈ t, r.length = n
  lt : ∀ r ∈ t, ∀ x ∈ r, x < n
theorem rowAt_mem {t : List (List Nat)} {x : Nat} (h : x < t.length) : rowAt t x ∈ t := by
  unfold rowAt; simp [h]
theorem cellAt_mem {r : List Nat} {y : Nat} (h : y < r.length) : cellAt r y ∈ r := by
  unfold cellAt; simp [h]
theorem Valid.rl {n : Nat} {t : List (List Nat)} (v : Valid n t) {x : Nat} (h : x < n) : (rowAt t x).length = n := v.row _ (rowAt_mem (by rw [v.len]; exact h))
theorem Valid.tlt {n : Nat} {t : List (List Nat)} (v : Valid n t) {x y : Nat} (h : x < n) (h2 : y < n) : tg t x y < n :=
  v.lt _ (rowAt_mem (by rw [v.len]; exact h)) _ (cellAt_mem (by rw [v.rl h]; exact h2))
theorem rowAt_of {t : List (List Nat)} {r : List Nat} (h : r ∈ t) : ∃ x, x < t.length ∧ rowAt t x = r := by
  obtain ⟨x, hx, rfl⟩ := List.mem_iff_getElem.mp h
  exact ⟨x, hx, by unfold rowAt; simp [hx]⟩
/-- (row y) z = row (y z), for all z -/
def ascR (t : List (List Nat)) (row : List Nat) (y : Nat) : Bool := decide ((List.range t.length).map (tg t (cellAt row y)) = (rowAt t y).map (cellAt row))
def ascB (t : List (List Nat)) : Bool := t.all fun row => (List.range t.length).all fun y => ascR t row y
theorem ne_lists {α β : Type} (g : α → Nat) (h : β → Nat) (xs : List α) (ys : List β) : semNe (.lst (xs.map fun z => di (g z))) (.lst (ys.map fun z => di (h z))) = some (.sc (.bl (!decide (xs.map g = ys.map h)))) := by
  have := semNe_F eqf_dL lef_dL (xs.map g) (ys.map h)
  unfold dL at this
  rw [List.map_map, List.map_map] at this
  exact this
theorem ev_assoc {n : Nat} {t : List (List Nat)} (v : Valid n t) (hn : n ≤ 1000000) : f_is_associative [.fz (dLT t)] = .ok (.fz (.bl (ascB t))) [] := by
  have hlen : t.length ≤ 1000000 := by rw [v.len]; exact hn
  have inner : ∀ row ∈ t, ∀ s, (((List.range t.length).all fun y => ascR t row y) = true → ∃ s', forL (gN 2) l_is_associative_0 ((List.range t.length).map di) [.fz (dLT t), .fz (dT row), s, .no, .no] = .ok .nx [.fz (dLT t), .fz (dT row), s', .no, .no]) ∧
      (((List.range t.length).all fun y => ascR t row y) = false → ∃ ρ2, forL (gN 2) l_is_associative_0 ((List.range t.length).map di) [.fz (dLT t), .fz (dT row), s, .no, .no] = .ok (.rt (.fz (.bl false))) ρ2) := by
    intro row hrow s
    refine forL_all (fun s => [SV.fz (dLT t), .fz (dT row), s, .no, .no]) (.fz (.bl false)) (List.range t.length) s fun s y hy => ?_
    have hy : y < t.length := by simpa using hy
    have hrl : row.length = t.length := by rw [v.row _ hrow, v.len]
    have hry : cellAt row y < t.length := by rw [v.len]; exact v.lt _ hrow _ (cellAt_mem (by rw [hrl]; exact hy))
    have h1 : lcL [3] (gN 3) fYes e_is_associative_0 ((List.range t.length).map di) [.fz (dLT t), .fz (dT row), .fz (di y), .no, .no] = .ok ((List.range t.length).map fun z => di (tg t (cellAt row y) z)) [.fz (dLT t), .fz (dT row), .fz (di y), .no, .no] := by
      refine lcL_map (List.range t.length) fun z hz => ?_
      have hz : z < t.length := by simpa using hz
      have hz2 : z < (rowAt t (cellAt row y)).length := by rw [v.rl (by rw [← v.len]; exact hry), ← v.len]; exact hz
      simp [e_is_associative_0, dLT, dT, at_cell (show y < row.length by rw [hrl]; exact hy), at_row (f := dT) hry, at_cell hz2, tg]
    have h2 : lcL [4] (gN 4) fYes e_is_associative_1 ((rowAt t y).map di) [.fz (dLT t), .fz (dT row), .fz (di y), .no, .no] = .ok ((rowAt t y).map fun i => di (cellAt row i)) [.fz (dLT t), .fz (dT row), .fz (di y), .no, .no] := by
      refine lcL_map (rowAt t y) fun i hi => ?_
      have hi : i < row.length := by rw [hrl, v.len]; exact v.lt _ (rowAt_mem hy) _ hi
      simp [e_is_associative_1, dT, at_cell hi]
    have h3 : (rowAt t y).length ≤ 1000000 := by rw [v.rl (by rw [← v.len]; exact hy)]; exact hn
    have hat := at_row (f := dT) hy
    have hlc1 := h1
    have hlc2 := h2
    simp only [dLT, dT] at hlc1 hlc2 hat
    by_cases hA : (List.range t.length).map (tg t (cellAt row y)) = (rowAt t y).map (cellAt row)
    · simp [l_is_associative_0, dLT, dT, rangeD_nat, rgOk_nat hlen, plainVars, hlc1, hlc2, hlen, h3, hat, ne_lists, ascR, hA]
    · simp [l_is_associative_0, dLT, dT, rangeD_nat, rgOk_nat hlen, plainVars, hlc1, hlc2, hlen, h3, hat, ne_lists, ascR, hA]
  have outer := fun s : SV × SV => forL_all (tg := gN 1) (body := l_is_associative_1) (e := dT) (c := fun row => (List.range t.length).all fun y => ascR t row y) (fun s => [SV.fz (dLT t), s.1, s.2, .no, .no]) (.fz (.bl false)) t s ?_
  · have k1 := (outer (.no, .no)).1
    have k2 := (outer (.no, .no)).2
    cases hall : ascB t with
    | true =>
      obtain ⟨s', k1⟩ := k1 hall
      simp only [dLT] at k1
      simp [f_is_associative, semDef, b_is_associative, b_is_associative_0, b_is_associative_1, rho0, FA.sv, iosOf, dLT, k1]
    | false =>
      obtain ⟨s', k2⟩ := k2 hall
      simp only [dLT] at k2
      simp [f_is_associative, semDef, b_is_associative, b_is_associative_0, b_is_associative_1, rho0, FA.sv, iosOf, dLT, k2]
  · intro s row hrow
    obtain ⟨i1, i2⟩ := inner row hrow s.2
    cases hall : (List.range t.length).all fun y => ascR t row y with
    | true =>
      obtain ⟨s', i1⟩ := i1 hall
      simp only [dLT] at i1
      simp [l_is_associative_1, dLT, rangeD_nat, rgOk_nat hlen, i1]
    | false =>
      obtain ⟨s', i2⟩ := i2 hall
      simp only [dLT] at i2
      simp [l_is_associative_1, dLT, rangeD_nat, rgOk_nat hlen, i2]
theorem nin0_T (xs : List Nat) : semNin (.int 0) (.tup (xs.map di)) = some (.sc (.bl (!decide (0 ∈ xs)))) := semNin_T 0 xs
theorem nin0_L (xs : List Nat) : semNin (.int 0) (.lst (xs.map di)) = some (.sc (.bl (!decide (0 ∈ xs)))) := semNin_L eqf_di lef_di 0 xs
theorem at_row0 {f : List Nat → D} {t : List (List Nat)} (h : 0 < t.length) : atI (t.map f) 0 = some (f (rowAt t 0)) := at_row (x := 0) h
theorem at_cell0 {r : List Nat} (h : 0 < r.length) : atI (r.map di) 0 = some (di (cellAt r 0)) := at_cell (y := 0) h
def uniR (t : List (List Nat)) (x : Nat) : Bool := decide (tg t 0 x = x) && decide (tg t x 0 = x) && decide (0 ∈ rowAt t x)
def grpB (t : List (List Nat)) : Bool := ((List.range t.length).all fun x => uniR t x) && ascB t
theorem Valid.sq {n : Nat} {t : List (List Nat)} (v : Valid n t) (h0 : 0 < n) : sqB t = true := by
  unfold sqB
  simp only [Bool.and_eq_true, List.all_eq_true, decide_eq_true_eq, Bool.not_eq_true', decide_eq_false_iff_not, v.len]
  exact ⟨by omega, fun r hr => ⟨v.row r hr, fun x hx => v.lt r hr x hx⟩⟩
theorem tup_rows {c r : List D → D} (hc : Ctr c) (hr : Ctr r) (t : List (List Nat)) (S3 : SV × SV) : lcL [3] (gN 3) fYes e_is_group_table_0 (t.map fun row => r (row.map di)) [.fz (tabD c r t), S3.1, S3.2, .no] = .ok (t.map dT) [.fz (tabD c r t), S3.1, S3.2, .no] := by
  refine lcL_map t fun row hrow => ?_
  cases hr <;> simp [e_is_group_table_0, dT]
theorem ev_group_no {c r : List D → D} (hc : Ctr c) (hr : Ctr r) (t : List (List Nat)) (hs : ∀ row ∈ t, row.length ≤ 1000000) (hq : sqB t = false) : f_is_group_table [.fz (tabD c r t)] = .ok (.fz (.bl false)) [] := by
  simp [f_is_group_table, semDef, b_is_group_table, b_is_group_table_0, rho0, FA.sv, iosOf, mkArgs, mkArg, okIx, ioAt, callRes, setIo, brIx, ev_is_square hc hr t hs, hq]
theorem ev_group {c r : List D → D} (hc : Ctr c) (hr : Ctr r) {n : Nat} {t : List (List Nat)} (v : Valid n t) (h0 : 0 < n) (hn : n ≤ 1000000) : f_is_group_table [.fz (tabD c r t)] = .ok (.fz (.bl (grpB t))) [] := by
  have hlen : t.length ≤ 1000000 := by rw [v.len]; exact hn
  have hl0 : 0 < t.length := by rw [v.len]; exact h0
  have hs : ∀ row ∈ t, row.length ≤ 1000000 := fun row hrow => by rw [v.row _ hrow]; exact hn
  have hsq := ev_is_square hc hr t hs
  rw [v.sq h0] at hsq
  have loop := forL_all (tg := gN 2) (body := l_is_group_table_0) (e := di) (c := fun x => uniR t x) (fun s : SV => [SV.fz (tabD c r t), .fz (di t.length), s, .no]) (.fz (.bl false)) (List.range t.length) .no ?_
  · have hlt := tup_rows hc hr t
    have has := ev_assoc v hn
    cases hall : (List.range t.length).all fun x => uniR t x with
    | true =>
      obtain ⟨s', k1⟩ := loop.1 hall
      have hlt := hlt (.fz (di t.length), s')
      have hg : grpB t = ascB t := by unfold grpB; rw [hall]; rfl
      rw [hg]
      cases hc <;> cases hr
      all_goals
        simp only [tabD, dLT] at k1 hlt hsq has
        simp [f_is_group_table, semDef, b_is_group_table, b_is_group_table_0, b_is_group_table_1, b_is_group_table_2, b_is_group_table_3, rho0, FA.sv, iosOf, mkArgs, mkArg, okIx, ioAt, callRes, setIo, brIx, tabD, hsq, rangeD_nat, rgOk_nat hlen, k1, plainVars, hlt, hlen, has]
    | false =>
      obtain ⟨s', k1⟩ := loop.2 hall
      have hg : grpB t = false := by unfold grpB; rw [hall]; rfl
      rw [hg]
      cases hc <;> cases hr
      all_goals
        simp only [tabD, dLT] at k1 hlt hsq has
        simp [f_is_group_table, semDef, b_is_group_table, b_is_group_table_0, b_is_group_table_1, b_is_group_table_2, b_is_group_table_3, rho0, FA.sv, iosOf, mkArgs, mkArg, okIx, ioAt, callRes, setIo, brIx, tabD, hsq, rangeD_nat, rgOk_nat hlen, k1]
  · intro s x hx
    have hx : x < t.length := by simpa using hx
    have hx2 : x < (rowAt t 0).length := by rw [v.rl h0, ← v.len]; exact hx
    have hx3 : 0 < (rowAt t x).length := by rw [v.rl (by rw [← v.len]; exact hx)]; exact h0
    by_cases h1 : tg t 0 x = x <;> by_cases h2 : tg t x 0 = x <;> by_cases h3 : 0 ∈ rowAt t x
    all_goals
      have h1' := h1
      have h2' := h2
      unfold tg at h1' h2'
      have u : uniR t x = (decide (tg t 0 x = x) && decide (tg t x 0 = x) && decide (0 ∈ rowAt t x)) := rfl
      simp only [h1, h2, h3, decide_true, decide_false, Bool.and_true, Bool.and_false] at u
      cases hc <;> cases hr
      all_goals
        simp [l_is_group_table_0, tabD, at_row hx, at_row0 hl0, at_cell hx2, at_cell0 hx3, len_ne, nin0_T, nin0_L, h1', h2', h3, u]
end K74

end
section
set_option Elab.async false
set_option linter.all false
namespace K74
open PySem L2 VI
/-! ### enumerations -/
def stepG (t : List (List Nat)) (x : Nat) (f : List Nat) (g : Nat) : List Nat := if tg t x g ∈ f then f else f ++ [tg t x g]
def growG (t : List (List Nat)) (gens : List Nat) (x : Nat) (f : List Nat) : List Nat := gens.foldl (stepG t x) f
def bfsC (b : Nat × List Nat) : Bool := decide (b.1 < b.2.length)
def bfsS (t : List (List Nat)) (gens : List Nat) (b : Nat × List Nat) : Nat × List Nat := (b.1 + 1, growG t gens (cellAt b.2 b.1) b.2)
def bfs (t : List (List Nat)) (gens : List Nat) : List Nat := (wit bfsC (bfsS t gens) 1000 (0, [0])).2
/-- found lists: no doubles, below n -/
structure Fnd (n : Nat) (f : List Nat) : Prop where
  nd : f.Nodup
  lt : ∀ x ∈ f, x < n
theorem Fnd.len {n : Nat} {f : List Nat} (h : Fnd n f) : f.length ≤ n := by
  have := List.Nodup.length_le_of_subset (l₂ := List.range n) h.nd fun x hx => by simpa using h.lt x hx
  simpa using this
theorem step_fnd {n : Nat} {t : List (List Nat)} (v : Valid n t) {x g : Nat} (hx : x < n) (hg : g < n) {f : List Nat} (h : Fnd n f) : Fnd n (stepG t x f g) := by
  unfold stepG
  split
  · exact h
  · rename_i hm
    refine ⟨?_, fun y hy => ?_⟩
    · rw [List.nodup_append]
      refine ⟨h.nd, by simp, fun a ha b hb e => ?_⟩
      simp only [List.mem_singleton] at hb
      subst hb e
      exact hm ha
    · rcases List.mem_append.mp hy with hy | hy
      · exact h.lt y hy
      · simp only [List.mem_singleton] at hy
        subst hy; exact v.tlt hx hg
theorem step_pre (t : List (List Nat)) (x : Nat) (f : List Nat) (g : Nat) : f <+: stepG t x f g := by
  unfold stepG
  split
  · exact List.prefix_refl f
  · exact List.prefix_append _ _
theorem grow_pre (t : List (List Nat)) (gens : List Nat) (x : Nat) (f : List Nat) : f <+: growG t gens x f := by
  unfold growG
  induction gens generalizing f with
  | nil => exact List.prefix_refl f
  | cons g gs ih => exact (step_pre t x f g).trans (ih _)
theorem cellAt_pre {f f' : List Nat} (h : f <+: f') {i : Nat} (hi : i < f.length) : cellAt f' i = cellAt f i := by
  obtain ⟨l, rfl⟩ := h
  unfold cellAt
  simp [List.getElem?_append_left hi]
theorem grow_fnd {n : Nat} {t : List (List Nat)} (v : Valid n t) {x : Nat} (hx : x < n) {gens : List Nat} (hg : ∀ g ∈ gens, g < n) {f : List Nat} (h : Fnd n f) : Fnd n (growG t gens x f) := by
  unfold growG
  induction gens generalizing f with
  | nil => exact h
  | cons g gs ih => exact ih (fun g hg' => hg g (List.mem_cons_of_mem _ hg')) (step_fnd v hx (hg g (List.mem_cons_self ..)) h)
def bfsI (n : Nat) (b : Nat × List Nat) : Prop := Fnd n b.2 ∧ b.1 ≤ b.2.length
theorem bfsI_step {n : Nat} {t : List (List Nat)} (v : Valid n t) {gens : List Nat} (hg : ∀ g ∈ gens, g < n) {b : Nat × List Nat} (h : bfsI n b) (hc : bfsC b = true) : bfsI n (bfsS t gens b) := by
  have hc : b.1 < b.2.length := by simpa [bfsC] using hc
  have hx := h.1.lt _ (cellAt_mem hc)
  refine ⟨grow_fnd v hx hg h.1, ?_⟩
  have := (grow_pre t gens (cellAt b.2 b.1) b.2).length_le
  show b.1 + 1 ≤ (growG t gens (cellAt b.2 b.1) b.2).length
  omega
theorem foldl_fst {α β γ : Type} (step : α → γ → α) (h : α → γ → β → β) (xs : List γ) (a : α) (b : β) : (xs.foldl (fun (p : α × β) g => (step p.1 g, h p.1 g p.2)) (a, b)).1 = xs.foldl step a := by
  induction xs generalizing a b with
  | nil => rfl
  | cons x xs ih => exact ih _ _
theorem ev_enumerated {c r : List D → D} (hc : Ctr c) (hr : Ctr r) {n : Nat} {t : List (List Nat)} (v : Valid n t) (h0 : 0 < n) (hn : n ≤ 900) {gens : List Nat} (hg : ∀ g ∈ gens, g < n) :
    f_enumerated [.fz (tabD c r t), .fz (dT gens)] = .ok (.fz (if (bfs t gens).length < n then .non else dT (bfs t gens))) [] ∧ Fnd n (bfs t gens) := by
  -- one round
  have inner : ∀ (i x : Nat) (f : List Nat) (s : SV × SV), Fnd n f → i < f.length → cellAt f i = x → ∃ s' : SV × SV, forL (gN 4) l_enumerated_0 (gens.map di) [.fz (tabD c r t), .fz (dT gens), .ow (.lst (f.map di)), .fz (di i), s.1, s.2] =
      .ok .nx [.fz (tabD c r t), .fz (dT gens), .ow (.lst ((growG t gens x f).map di)), .fz (di i), s'.1, s'.2] := by
    intro i x f s hf hi hx
    have hxn : x < n := by rw [← hx]; exact hf.lt _ (cellAt_mem hi)
    refine (forL_j (tg := gN 4) (body := l_enumerated_0) (e := di) (fun (b : List Nat) (s : SV × SV) => [.fz (tabD c r t), .fz (dT gens), .ow (.lst (b.map di)), .fz (di i), s.1, s.2]) (fun b => Fnd n b ∧ i < b.length ∧ cellAt b i = x)
      (stepG t x) gens f s ⟨hf, hi, hx⟩ ?_).1
    intro b s g hgm ⟨hf, hi, hx⟩
    have hgn := hg g hgm
    refine ⟨⟨step_fnd v hxn hgn hf, Nat.lt_of_lt_of_le hi (step_pre ..).length_le, by rw [cellAt_pre (step_pre ..) hi]; exact hx⟩, ?_⟩
    have hbl := hf.len
    have hb : b.length < 1000000 := by omega
    have h1 : x < t.length := by rw [v.len]; exact hxn
    have h2 : g < (rowAt t x).length := by rw [v.rl hxn]; exact hgn
    have h3 := at_cell hi
    rw [hx] at h3
    have h4 := fun y : Nat => semNin_L eqf_di lef_di y b
    have htg : cellAt (rowAt t x) g = tg t x g := rfl
    by_cases hm : tg t x g ∈ b
    · cases hc <;> cases hr <;> simp [l_enumerated_0, tabD, h3, at_row h1, at_cell h2, htg, h4, hm, stepG]
    · cases hc <;> cases hr <;> simp [l_enumerated_0, tabD, h3, at_row h1, at_cell h2, htg, h4, hm, stepG, hb]
  have loop := whL_j (cd := t_enumerated_0) (body := l_enumerated_1) (fun (b : Nat × List Nat) (s : SV × SV) => [.fz (tabD c r t), .fz (dT gens), .ow (.lst (b.2.map di)), .fz (di b.1), s.1, s.2]) (bfsI n) bfsC (bfsS t gens) (fun b => n - b.1) ?_ 1000 (0, [0]) (.no, .no) ⟨⟨by simp, by simpa using h0⟩, by simp⟩ (by show n - 0 < 1000; omega)
  · obtain ⟨s', k1, k2, k3⟩ := loop
    refine ⟨?_, k2.1⟩
    have e1 : (wit bfsC (bfsS t gens) 1000 (0, [0])).2 = bfs t gens := rfl
    rw [e1] at k1
    have hlen := v.len
    have d0 : di 0 = D.int 0 := rfl
    simp [d0] at k1
    by_cases hlt : (bfs t gens).length < n
    · cases hc <;> cases hr
      all_goals
        simp only [tabD] at k1
        simp [f_enumerated, semDef, b_enumerated, b_enumerated_0, b_enumerated_1, b_enumerated_2, b_enumerated_3, b_enumerated_4, rho0, FA.sv, iosOf, tabD, sWh, k1, hlen, hlt]
    · cases hc <;> cases hr
      all_goals
        simp only [tabD, dT] at k1
        simp [f_enumerated, semDef, b_enumerated, b_enumerated_0, b_enumerated_1, b_enumerated_2, b_enumerated_3, b_enumerated_4, rho0, FA.sv, iosOf, tabD, sWh, k1, hlen, hlt, dT]
  · intro b s hb
    refine ⟨by simp [t_enumerated_0, bfsC], fun hcb => ⟨bfsI_step v hg hb hcb, ?_, ?_⟩⟩
    · have hc2 : b.1 < b.2.length := by simpa [bfsC] using hcb
      have := hb.1.len
      show n - (b.1 + 1) < n - b.1
      omega
    · have hc2 : b.1 < b.2.length := by simpa [bfsC] using hcb
      obtain ⟨s', h1⟩ := inner b.1 _ b.2 s hb.1 hc2 rfl
      simp only [dT] at h1
      simp [l_enumerated_1, dT, h1, bfsS]
end K74

end
section
set_option Elab.async false
set_option linter.all false
namespace K74
open PySem L2 VI
def ext (n : Nat) (l : List (List Nat)) : List (List Nat) := (l.map fun row => (List.range (n - 1)).map fun i => row ++ [1 + i]).flatten
def tuplesOf (n : Nat) : Nat → List (List Nat)
  | 0 => [[]]
  | k + 1 => ext n (tuplesOf n k)
theorem flat_len {α : Type} (n : Nat) : ∀ l : List (List α), (∀ x ∈ l, x.length = n) → l.flatten.length = l.length * n
  | [], _ => by simp
  | x :: l, h => by
    rw [List.flatten_cons, List.length_append, flat_len n l fun y hy => h y (List.mem_cons_of_mem _ hy), h x (List.mem_cons_self ..), List.length_cons, Nat.succ_mul]
    omega
theorem ext_len (n : Nat) (l : List (List Nat)) : (ext n l).length = l.length * (n - 1) := by
  unfold ext
  rw [flat_len (n - 1)]
  · simp
  · intro x hx
    obtain ⟨row, _, rfl⟩ := List.mem_map.mp hx
    simp
theorem tuples_len (n : Nat) : ∀ k, (tuplesOf n k).length = (n - 1) ^ k
  | 0 => by simp [tuplesOf]
  | k + 1 => by simp [tuplesOf, ext_len, tuples_len n k, Nat.pow_succ]
theorem pow_small {n k : Nat} (hn : n ≤ 100) (hk : k ≤ 3) : (n - 1) ^ k ≤ 1000000 := by
  have h1 : (n - 1) ^ k ≤ 100 ^ k := Nat.pow_le_pow_left (by omega) k
  have h2 : 100 ^ k ≤ 100 ^ 3 := Nat.pow_le_pow_right (by omega) hk
  omega
/-- all rows of length k, none longer than k -/
theorem tuples_mem {n : Nat} : ∀ {k : Nat} {g : List Nat}, g ∈ tuplesOf n k ↔ g.length = k ∧ ∀ x ∈ g, 1 ≤ x ∧ x < n
  | 0, g => by
    simp only [tuplesOf, List.mem_singleton]
    constructor
    · rintro rfl; simp
    · rintro ⟨h, _⟩; exact List.length_eq_zero_iff.mp h
  | k + 1, g => by
    simp only [tuplesOf, ext, List.mem_flatten, List.mem_map]
    constructor
    · rintro ⟨l, ⟨row, hrow, rfl⟩, hg⟩
      obtain ⟨i, hi, rfl⟩ := List.mem_map.mp hg
      obtain ⟨h1, h2⟩ := tuples_mem.mp hrow
      have hi : i < n - 1 := by simpa using hi
      refine ⟨by simp [h1], fun x hx => ?_⟩
      rcases List.mem_append.mp hx with hx | hx
      · exact h2 x hx
      · simp only [List.mem_singleton] at hx
        omega
    · rintro ⟨h1, h2⟩
      have hne : g ≠ [] := by intro e; rw [e] at h1; simp at h1
      have hl := h2 _ (List.getLast_mem hne)
      refine ⟨_, ⟨g.dropLast, tuples_mem.mpr ⟨by simp [h1], fun x hx => h2 x (List.dropLast_subset g hx)⟩, rfl⟩, List.mem_map.mpr ⟨g.getLast hne - 1, by simp; omega, ?_⟩⟩
      have : 1 + (g.getLast hne - 1) = g.getLast hne := by omega
      rw [this]
      exact List.dropLast_concat_getLast hne
theorem tuples_nd {n : Nat} : ∀ k : Nat, (tuplesOf n k).Nodup
  | 0 => by simp [tuplesOf]
  | k + 1 => by
    unfold tuplesOf ext
    unfold List.Nodup
    rw [List.pairwise_flatten]
    refine ⟨fun l hl => ?_, ?_⟩
    · obtain ⟨row, _, rfl⟩ := List.mem_map.mp hl
      refine List.Pairwise.map _ (fun a b (hab : a ≠ b) => ?_) (List.nodup_range (n := n - 1))
      intro e
      have := List.append_cancel_left e
      simp at this
      exact hab this
    · refine List.Pairwise.map _ (fun a b (hab : a ≠ b) => ?_) (tuples_nd k)
      intro x hx y hy e
      subst e
      obtain ⟨i, _, rfl⟩ := List.mem_map.mp hx
      obtain ⟨j, _, e⟩ := List.mem_map.mp hy
      have := List.append_inj_left' e rfl
      exact hab this.symm
theorem catT0 (x : Nat) : semAdd (.tup []) (.tup [di x]) = some (.sc (.tup [di x])) := by rfl
theorem catT1 (row : List Nat) (x : Nat) (h : row.length ≤ 100) : semAdd (.tup (row.map di)) (.tup [di x]) = if row = [] then some (.sc (.tup [di x])) else some (.nt (row.map di ++ [di x])) := by
  rw [s_catT (by simp; omega) (by simp)]
  simp
theorem tuples_body {n k : Nat} (hn : n ≤ 100) (hk : k + 1 ≤ 3) (d : D) (j : SV) : l_tuples_of_0 [.fz (di n), .fz d, .ow (.lst ((tuplesOf n k).map dT)), j, .no, .no] = .ok .nx [.fz (di n), .fz d, .ow (.lst ((tuplesOf n (k + 1)).map dT)), j, .no, .no] := by
  have h1 := lcO_map (vs := [4, 5]) (vs1 := [5]) (tg := gN 4) (tg1 := gN 5) (it1 := iR2 (oE (eC (.int 1))) (oN 0)) (elt := e_tuples_of_0) (e := dT) (e1 := fun _ i => di (1 + i)) (g1 := fun row i => dT (row ++ [1 + i])) (S := [.fz (di n), .fz d, .fz (.lst ((tuplesOf n k).map dT)), j, .no, .no]) (tuplesOf n k) (fun _ => List.range (n - 1)) ?_
  · have h2 : ((tuplesOf n k).map fun row => (List.range (n - 1)).map fun i => dT (row ++ [1 + i])).flatten = (tuplesOf n (k + 1)).map dT := by
      simp only [tuplesOf, ext, List.map_flatten, List.map_map, Function.comp_def]
    rw [h2] at h1
    have h3 : (tuplesOf n (k + 1)).length ≤ 1000000 := by rw [tuples_len]; exact pow_small hn hk
    simp [l_tuples_of_0, eLc2, plainVars, h1, h3]
  · intro row hrow
    have hl := (tuples_mem.mp hrow).1
    simp [rangeD_one, rgOk_one (show n ≤ 1000000 by omega)]
    intro i hi
    by_cases h0 : row = []
    · simp [e_tuples_of_0, dT, catT0, h0]
    · simp [e_tuples_of_0, dT, catT1 row _ (by omega), h0]
theorem ev_tuples {n k : Nat} (hn : n ≤ 100) (hk : k ≤ 3) : f_tuples_of [.fz (di n), .fz (di k)] = .ok (.ow (.lst ((tuplesOf n k).map dT))) [] := by
  have b := fun (k' : Nat) (h : k' + 1 ≤ 3) j => tuples_body (n := n) hn h (di k) j
  have h0 := b 0 (by omega)
  have h1 := b 1 (by omega)
  have h2 := b 2 (by omega)
  have e0 : (tuplesOf n 0).map dT = [.tup []] := rfl
  rw [e0] at h0
  have hk' : k = 0 ∨ k = 1 ∨ k = 2 ∨ k = 3 := by omega
  rcases hk' with rfl | rfl | rfl | rfl
  all_goals
    simp [f_tuples_of, semDef, b_tuples_of, b_tuples_of_0, b_tuples_of_1, b_tuples_of_2, rho0, FA.sv, iosOf, rangeD, rgOk, List.range_succ, forL, h0, h1, h2, e0]
end K74

end
section
set_option Elab.async false
set_option linter.all false
namespace K74
open PySem L2 VI
def fullB (t : List (List Nat)) (n : Nat) (g : List Nat) : Bool := !decide ((bfs t g).length < n)
def ordK (t : List (List Nat)) (n k : Nat) : List (List Nat) := ((tuplesOf n k).filter (fullB t n)).map (bfs t)
structure Rank (t : List (List Nat)) (n r : Nat) : Prop where
  le : r ≤ 3
  at_ : ordK t n r ≠ []
  below : ∀ k, k < r → ordK t n k = []
theorem nis_non : semNis .non .non = some (.sc (.bl false)) := by rfl
theorem nis_tup (xs : List D) : semNis (.tup xs) .non = some (.sc (.bl true)) := by rfl
theorem nis_lst (xs : List D) : semNis (.lst xs) .non = some (.sc (.bl true)) := by rfl
theorem gens_lt {n k : Nat} {g : List Nat} (h : g ∈ tuplesOf n k) : ∀ x ∈ g, x < n := fun x hx => ((tuples_mem.mp h).2 x hx).2
theorem orders_body {c r : List D → D} (hc : Ctr c) (hr : Ctr r) {n : Nat} {t : List (List Nat)} (v : Valid n t) (h0 : 0 < n) (hn : n ≤ 100) {k : Nat} (hk : k ≤ 3) (s2 s3 : SV) :
    OkR (l_orders_of_0 [.fz (tabD c r t), .fz (di k), s2, s3, .no, .no]) fun ct ρ2 => (ordK t n k ≠ [] → ct = .rt (.ow (.lst ((ordK t n k).map dT)))) ∧ (ordK t n k = [] → ct = .nx ∧ ∃ s2' s3', ρ2 = [.fz (tabD c r t), .fz (di (k + 1)), s2', s3', .no, .no]) := by
  have hlen := v.len
  have h1 : ∀ s2 s3, lcL [4] (gN 4) fYes e_orders_of_1 ((tuplesOf n k).map dT) [.fz (tabD c r t), .fz (di k), s2, s3, .no, .no] = .ok ((tuplesOf n k).map fun g => if (bfs t g).length < n then .non else dT (bfs t g)) [.fz (tabD c r t), .fz (di k), s2, s3, .no, .no] := fun s2 s3 => by
    refine lcL_map (tuplesOf n k) fun g hg => ?_
    have he := (ev_enumerated hc hr v h0 (by omega) (gens_lt hg)).1
    simp [e_orders_of_1, mkArgs, mkArg, okIx, ioAt, callRes, setIo, brIx, he]
  have h2 : ∀ s2 s3, lcL [5] (gN 5) t_orders_of_0 e_orders_of_0 ((tuplesOf n k).map fun g => if (bfs t g).length < n then .non else dT (bfs t g)) [.fz (tabD c r t), .fz (di k), s2, s3, .no, .no] = .ok ((ordK t n k).map dT) [.fz (tabD c r t), .fz (di k), s2, s3, .no, .no] := fun s2 s3 => by
    have := lcL_filter (vs := [5]) (tg := gN 5) (cond := t_orders_of_0) (elt := e_orders_of_0) (e := fun g => if (bfs t g).length < n then D.non else dT (bfs t g)) (g := fun g => dT (bfs t g)) (c := fullB t n) (S := [.fz (tabD c r t), .fz (di k), s2, s3, .no, .no]) (tuplesOf n k) ?_
    · rw [this]; unfold ordK; rw [List.map_map]; rfl
    · intro g hg
      by_cases hf : (bfs t g).length < n
      · simp [t_orders_of_0, hf, fullB, nis_non]
      · simp [t_orders_of_0, e_orders_of_0, hf, fullB, dT, nis_tup]
  have h3 := ev_tuples (n := n) (k := k) hn hk
  have h4 : (tuplesOf n k).length ≤ 1000000 := by rw [tuples_len]; exact pow_small hn hk
  have h5 : (ordK t n k).length ≤ 1000000 := by
    unfold ordK
    rw [List.length_map]
    exact Nat.le_trans (List.length_filter_le _ _) h4
  have hpre : ∀ (P : Ctl → Rho → Prop), (∀ s2 , OkR ((sSeq (sIf (fB (eBin (semI fun i j => decide (j < i)) (oE (eCB semLenA (aCons (oN 3) (aNil)))) (oE (eC (.int 0))))) (sRet (eR 3)) (sNx)) (sSet 1 (eBin semAdd (oN 1) (oE (eC (.int 1)))))) [.fz (tabD c r t), .fz (di k), s2, .ow (.lst ((ordK t n k).map dT)), .no, .no]) P) → OkR (l_orders_of_0 [.fz (tabD c r t), .fz (di k), s2, s3, .no, .no]) P := by
    intro P hP
    unfold l_orders_of_0
    rw [s_sSeq]
    cases hc <;> cases hr
    all_goals
      simp only [tabD] at h1 h2 hP
      simp [mkArgs, mkArg, okIx, ioAt, callRes, setIo, brIx, tabD, hlen, h3, plainVars, h1, h2, h4, h5] at hP ⊢
      exact hP _
  refine hpre _ fun s2 => ?_
  have hd : (D.int ((k : Int) + 1)) = di (k + 1) := rfl
  by_cases he : ordK t n k = []
  · rw [he]
    simp [hd]
  · have : 0 < (ordK t n k).length := List.length_pos_iff.mpr he
    simp [he, this]
theorem ev_orders {c r : List D → D} (hc : Ctr c) (hr : Ctr r) {n : Nat} {t : List (List Nat)} (v : Valid n t) (h0 : 3 ≤ n) (hn : n ≤ 100) {k : Nat} (hk : Rank t n k) : f_orders_of [.fz (tabD c r t)] = .ok (.ow (.lst ((ordK t n k).map dT))) [] := by
  have loop : ∀ m i fuel (s2 s3 : SV), i + m = k → m < fuel → ∃ ρ2, whL t_orders_of_1 l_orders_of_0 fuel [.fz (tabD c r t), .fz (di i), s2, s3, .no, .no] = .ok (.rt (.ow (.lst ((ordK t n k).map dT)))) ρ2 := by
    intro m
    induction m with
    | zero =>
      intro i fuel s2 s3 e hf
      obtain ⟨fuel, rfl⟩ : ∃ f, fuel = f + 1 := ⟨fuel - 1, by omega⟩
      have e : i = k := by omega
      subst e
      obtain ⟨ct, ρ2, h1, h2, _⟩ := (orders_body hc hr v (by omega) hn hk.le s2 s3).ex
      have h2 := h2 hk.at_
      subst h2
      have hik : i ≤ t.length := by rw [v.len]; have := hk.le; omega
      refine ⟨ρ2, ?_⟩
      cases hc <;> cases hr
      all_goals
        simp only [tabD] at h1
        simp [whL, t_orders_of_1, tabD, hik, h1]
    | succ m ih =>
      intro i fuel s2 s3 e hf
      obtain ⟨fuel, rfl⟩ : ∃ f, fuel = f + 1 := ⟨fuel - 1, by omega⟩
      have hi3 := hk.le
      obtain ⟨ct, ρ2, h1, _, h2⟩ := (orders_body hc hr v (by omega) hn (by omega : i ≤ 3) s2 s3).ex
      obtain ⟨rfl, s2', s3', rfl⟩ := h2 (hk.below i (by omega))
      obtain ⟨ρ3, h3⟩ := ih (i + 1) fuel s2' s3' (by omega) (by omega)
      have hik : i ≤ t.length := by rw [v.len]; omega
      refine ⟨ρ3, ?_⟩
      have ht : t_orders_of_1 [.fz (tabD c r t), .fz (di i), s2, s3, .no, .no] = .ok true [.fz (tabD c r t), .fz (di i), s2, s3, .no, .no] := by
        cases hc <;> cases hr <;> simp [t_orders_of_1, tabD, hik]
      cases hc <;> cases hr
      all_goals
        simp only [tabD] at h1 h3 ht
        simp [whL, ht, tabD, h1, h3]
  obtain ⟨ρ2, h⟩ := loop k 0 1000 .no .no (by omega) (by have := hk.le; omega)
  have d0 : di 0 = D.int 0 := rfl
  rw [d0] at h
  simp [f_orders_of, semDef, b_orders_of, b_orders_of_0, b_orders_of_1, b_orders_of_2, rho0, FA.sv, iosOf, sWh, h]
end K74

end
section
set_option Elab.async false
set_option linter.all false
namespace K74
open PySem L2 VI
structure PermN (n : Nat) (o : List Nat) : Prop where
  fnd : Fnd n o
  len : o.length = n
theorem PermN.mem {n : Nat} {o : List Nat} (h : PermN n o) {y : Nat} (hy : y < n) : y ∈ o := by
  refine Decidable.byContradiction fun hm => ?_
  have h1 : Fnd n (y :: o) := ⟨List.nodup_cons.mpr ⟨hm, h.fnd.nd⟩, fun x hx => by
    rcases List.mem_cons.mp hx with rfl | hx
    · exact hy
    · exact h.fnd.lt x hx⟩
  have := h1.len
  have h2 := h.len
  simp only [List.length_cons] at this
  omega
def ren (t : List (List Nat)) (o : List Nat) : List (List Nat) := o.map fun x => o.map fun y => o.idxOf (tg t x y)
theorem ev_renamed {c r : List D → D} (hc : Ctr c) (hr : Ctr r) {n : Nat} {t : List (List Nat)} (v : Valid n t) (hn : n ≤ 100) {o : List Nat} (ho : PermN n o) : f_renamed [.fz (tabD c r t), .fz (dT o)] = .ok (.fz (dTT (ren t o))) [] := by
  have hol : o.length ≤ 1000000 := by have := ho.len; omega
  have h1 : ∀ x ∈ o, lcL [4] (gN 4) fYes e_renamed_0 (o.map di) [.fz (tabD c r t), .fz (dT o), .ow (.lst (o.map di)), .fz (di x), .no] = .ok (o.map fun y => di (o.idxOf (tg t x y))) [.fz (tabD c r t), .fz (dT o), .ow (.lst (o.map di)), .fz (di x), .no] := fun x hx => by
    refine lcL_map o fun y hy => ?_
    have hx1 := ho.fnd.lt x hx
    have hy1 := ho.fnd.lt y hy
    have h2 : x < t.length := by rw [v.len]; exact hx1
    have h3 : y < (rowAt t x).length := by rw [v.rl hx1]; exact hy1
    have h4 := semIndexL_F eqf_di lef_di (tg t x y) o (ho.mem (v.tlt hx1 hy1))
    have htg : cellAt (rowAt t x) y = tg t x y := rfl
    cases hc <;> cases hr <;> simp [e_renamed_0, tabD, at_row h2, at_cell h3, htg, h4]
  have h2 : lcL [3] (gN 3) fYes e_renamed_1 (o.map di) [.fz (tabD c r t), .fz (dT o), .ow (.lst (o.map di)), .no, .no] = .ok (o.map fun x => dT (o.map fun y => o.idxOf (tg t x y))) [.fz (tabD c r t), .fz (dT o), .ow (.lst (o.map di)), .no, .no] := by
    refine lcL_map o fun x hx => ?_
    have h1 := h1 x hx
    simp only [dT] at h1
    simp [e_renamed_1, dT, plainVars, h1, hol, Function.comp_def]
  simp only [dT] at h2
  simp [f_renamed, semDef, b_renamed, b_renamed_0, b_renamed_1, rho0, FA.sv, iosOf, dT, plainVars, h2, hol, dTT, ren, Function.comp_def]
def formOf : List (List (List Nat)) → List (List Nat)
  | [] => []
  | a :: as => minF dTT a as
def formG (t : List (List Nat)) (n k : Nat) : List (List Nat) := formOf ((ordK t n k).map (ren t))
theorem ordK_perm {n k : Nat} {t : List (List Nat)} (v : Valid n t) (h0 : 0 < n) (hn : n ≤ 100) {o : List Nat} (h : o ∈ ordK t n k) : PermN n o := by
  unfold ordK at h
  obtain ⟨g, hg, rfl⟩ := List.mem_map.mp h
  obtain ⟨hg, hf⟩ := List.mem_filter.mp hg
  have hfn := (ev_enumerated Ctr.lst Ctr.lst v h0 (by omega) (gens_lt hg)).2
  refine ⟨hfn, ?_⟩
  have := hfn.len
  have hf : ¬ (bfs t g).length < n := by simpa [fullB] using hf
  omega
theorem ordK_len {n k : Nat} (t : List (List Nat)) (hn : n ≤ 100) (hk : k ≤ 3) : (ordK t n k).length ≤ 999999 := by
  unfold ordK
  rw [List.length_map]
  refine Nat.le_trans (List.length_filter_le _ _) ?_
  rw [tuples_len]
  have h1 : (n - 1) ^ k ≤ 99 ^ k := Nat.pow_le_pow_left (by omega) k
  have h2 : 99 ^ k ≤ 99 ^ 3 := Nat.pow_le_pow_right (by omega) hk
  omega
theorem ev_form {c r : List D → D} (hc : Ctr c) (hr : Ctr r) {n : Nat} {t : List (List Nat)} (v : Valid n t) (h0 : 3 ≤ n) (hn : n ≤ 100) {k : Nat} (hk : Rank t n k) : f_group_form [.fz (tabD c r t)] = .ok (.fz (dTT (formG t n k))) [] := by
  have h1 := ev_orders hc hr v h0 hn hk
  have hl := ordK_len (n := n) (k := k) t hn hk.le
  have hl2 : (ordK t n k).length ≤ 1000000 := by omega
  have h2 : lcL [1] (gN 1) fYes e_group_form_0 ((ordK t n k).map dT) [.fz (tabD c r t), .no] = .ok ((ordK t n k).map fun o => dTT (ren t o)) [.fz (tabD c r t), .no] := by
    refine lcL_map (ordK t n k) fun o ho => ?_
    have h3 := ev_renamed hc hr v hn (ordK_perm v (by omega) hn ho)
    simp [e_group_form_0, mkArgs, mkArg, okIx, ioAt, callRes, setIo, brIx, h3]
  have h4 : semMinD [.lst ((ordK t n k).map fun o => dTT (ren t o))] = some (.sc (dTT (formG t n k))) := by
    unfold formG
    cases e : ordK t n k with
    | nil => exact absurd e hk.at_
    | cons a as =>
      have := semMinD_F lef_dTT alf_dTT (fun _ z => nomatch z) (ren t a) (as.map (ren t))
      simpa [formOf, Function.comp_def] using this
  simp [f_group_form, semDef, b_group_form, b_group_form_0, rho0, FA.sv, iosOf, mkArgs, mkArg, okIx, ioAt, callRes, setIo, brIx, h1, plainVars, h2, hl2, h4]
def inv (n : Nat) (o : List Nat) : List Nat := (List.range n).map fun x => o.idxOf x
def mapsG (t : List (List Nat)) (n k : Nat) : List (List Nat) := ((ordK t n k).filter fun o => decide (ren t o = formG t n k)).map (inv n)
theorem eq_dTT (a b : List (List Nat)) : semEq (dTT a) (dTT b) = some (.sc (.bl (decide (a = b)))) := semEq_F eqf_dTT lef_dTT a b
theorem ne_dTT (a b : List (List Nat)) : semNe (dTT a) (dTT b) = some (.sc (.bl (!decide (a = b)))) := semNe_F eqf_dTT lef_dTT a b
theorem foldl_filter_map {α β : Type} (p : α → Bool) (f : α → β) : ∀ (xs : List α) (acc : List β), xs.foldl (fun acc x => if p x = true then acc ++ [f x] else acc) acc = acc ++ (xs.filter p).map f
  | [], acc => by simp
  | x :: xs, acc => by
    rw [List.foldl_cons, foldl_filter_map p f xs]
    cases h : p x <;> simp [h, List.filter_cons]
theorem ev_maps {c r : List D → D} (hc : Ctr c) (hr : Ctr r) {n : Nat} {t : List (List Nat)} (v : Valid n t) (h0 : 3 ≤ n) (hn : n ≤ 100) {k : Nat} (hk : Rank t n k) : f_form_maps [.fz (tabD c r t)] = .ok (.fz (dTT (sortT (mapsG t n k)))) [] := by
  have h1 := ev_orders hc hr v h0 hn hk
  have hf := ev_form hc hr v h0 hn hk
  have hl := ordK_len (n := n) (k := k) t hn hk.le
  have hlen := v.len
  have hn6 : n ≤ 1000000 := by omega
  -- the maps' loop
  have loop := forL_i (tg := gN 3) (body := l_form_maps_0) (e := dT) (fun (b : List (List Nat)) (s : SV) => [.fz (tabD c r t), .fz (dTT (formG t n k)), .ow (.lst (b.map dT)), s, .no])
    (fun b o => if decide (ren t o = formG t n k) = true then b ++ [inv n o] else b) (ordK t n k) (fun i b => b.length ≤ i) [] SV.no (by simp) ?_
  · obtain ⟨⟨j, k1⟩, k2⟩ := loop
    rw [foldl_filter_map, List.nil_append] at k1 k2
    have hm : ((ordK t n k).filter fun o => decide (ren t o = formG t n k)).map (inv n) = mapsG t n k := rfl
    rw [hm] at k1 k2
    have hs := semSort_T (mapsG t n k) (fun x hx => ?_) (by omega)
    · simp only [List.map_nil, dTT] at k1
      simp [f_form_maps, semDef, b_form_maps, b_form_maps_0, b_form_maps_1, b_form_maps_2, b_form_maps_3, rho0, FA.sv, iosOf, mkArgs, mkArg, okIx, ioAt, callRes, setIo, brIx, hf, h1, k1, hs, dTT]
    · unfold mapsG at hx
      obtain ⟨o, _, rfl⟩ := List.mem_map.mp hx
      intro e
      have : (inv n o).length = 0 := by rw [e]; rfl
      simp [inv] at this
      omega
  · intro i b j o hi hb
    have ho := ordK_perm v (by omega) hn (List.mem_of_getElem? hi)
    have hil := (List.getElem?_eq_some_iff.mp hi).1
    have hbl : b.length < 1000000 := by omega
    have hren := ev_renamed hc hr v hn ho
    have hlc : ∀ x2, lcL [4] (gN 4) fYes e_form_maps_0 ((List.range n).map di) [.fz (tabD c r t), .fz (dTT (formG t n k)), x2, .fz (dT o), .no] = .ok ((List.range n).map fun x => di (o.idxOf x)) [.fz (tabD c r t), .fz (dTT (formG t n k)), x2, .fz (dT o), .no] := fun x2 => by
      refine lcL_map (List.range n) fun x hx => ?_
      have h4 := semIndexT_F eqf_di lef_di x o (ho.mem (by simpa using hx))
      simp [e_form_maps_0, dT, h4]
    have hinv : D.tup ((List.range n).map fun x => di (o.idxOf x)) = dT (inv n o) := by
      unfold dT inv; rw [List.map_map]; rfl
    have hlen2 : (if decide (ren t o = formG t n k) = true then b ++ [inv n o] else b).length ≤ i + 1 := by
      split
      · rw [List.length_append, List.length_singleton]; omega
      · omega
    refine ⟨hlen2, ?_⟩
    by_cases heq : ren t o = formG t n k
    · cases hc <;> cases hr
      all_goals
        simp only [tabD] at hlc hren
        simp [l_form_maps_0, tabD, mkArgs, mkArg, okIx, ioAt, callRes, setIo, brIx, hren, eq_dTT, heq, hlen, rangeD_nat, rgOk_nat hn6, plainVars, hlc, hn6, hbl, hinv]
    · cases hc <;> cases hr
      all_goals
        simp only [tabD] at hlc hren
        simp [l_form_maps_0, tabD, mkArgs, mkArg, okIx, ioAt, callRes, setIo, brIx, hren, eq_dTT, heq]
end K74

end
section
set_option Elab.async false
set_option linter.all false
namespace K74
open PySem L2 VI
theorem mem_sortT {x : List Nat} {l : List (List Nat)} : x ∈ sortT l ↔ x ∈ l := List.mem_mergeSort
theorem len_sortT (l : List (List Nat)) : (sortT l).length = l.length := List.length_mergeSort _
theorem inv_perm {n : Nat} {o : List Nat} (h : PermN n o) : PermN n (inv n o) := by
  refine ⟨⟨?_, fun x hx => ?_⟩, by simp [inv]⟩
  · unfold inv
    rw [List.Nodup, List.pairwise_map]
    refine List.Pairwise.imp_of_mem ?_ (List.nodup_range (n := n))
    intro a b ha hb hab e
    have ha := h.mem (by simpa using ha)
    have hb := h.mem (by simpa using hb)
    apply hab
    have h1 := List.getElem_idxOf (List.idxOf_lt_length_of_mem ha)
    have h2 := List.getElem_idxOf (List.idxOf_lt_length_of_mem hb)
    rw [← h1, ← h2]
    congr 1
  · obtain ⟨y, hy, rfl⟩ := List.mem_map.mp hx
    have := List.idxOf_lt_length_of_mem (h.mem (by simpa using hy))
    rw [h.len] at this
    exact this
theorem mapsG_perm {n k : Nat} {t : List (List Nat)} (v : Valid n t) (h0 : 0 < n) (hn : n ≤ 100) {m : List Nat} (h : m ∈ mapsG t n k) : PermN n m := by
  unfold mapsG at h
  obtain ⟨o, ho, rfl⟩ := List.mem_map.mp h
  exact inv_perm (ordK_perm v h0 hn (List.mem_filter.mp ho).1)
theorem formOf_mem {l : List (List (List Nat))} (h : l ≠ []) : formOf l ∈ l := by
  cases l with
  | nil => exact absurd rfl h
  | cons a as => exact minF_mem dTT as a
theorem mapsG_ne {n k : Nat} {t : List (List Nat)} (hk : Rank t n k) : mapsG t n k ≠ [] := by
  have h1 : (ordK t n k).map (ren t) ≠ [] := by simpa using hk.at_
  obtain ⟨o, ho, e⟩ := List.mem_map.mp (formOf_mem h1)
  intro h
  have : inv n o ∈ mapsG t n k := List.mem_map.mpr ⟨o, List.mem_filter.mpr ⟨ho, decide_eq_true e⟩, rfl⟩
  rw [h] at this; cases this
def backG (t : List (List Nat)) (n k : Nat) : List Nat := rowAt (sortT (mapsG t n k)) 0
theorem back_mem {n k : Nat} {t : List (List Nat)} (hk : Rank t n k) : backG t n k ∈ mapsG t n k := by
  have h1 : 0 < (sortT (mapsG t n k)).length := by rw [len_sortT]; exact List.length_pos_iff.mpr (mapsG_ne hk)
  exact mem_sortT.mp (rowAt_mem h1)
def isoP (one two : List (List Nat)) (n k1 k2 : Nat) : List (List Nat) := (sortT (mapsG one n k1)).map fun im => im.map fun i => (backG two n k2).idxOf i
theorem ev_iso_no {c r c2 r2 : List D → D} (hc : Ctr c) (hr : Ctr r) (hc2 : Ctr c2) (hr2 : Ctr r2) {n n2 : Nat} {one two : List (List Nat)} (v : Valid n one) (v2 : Valid n2 two) (h0 : 3 ≤ n) (hn : n ≤ 100) (h02 : 3 ≤ n2) (hn2 : n2 ≤ 100) {k k2 : Nat} (hk : Rank one n k) (hk2 : Rank two n2 k2)
    (hne : formG one n k ≠ formG two n2 k2) : f_group_isomorphisms [.fz (tabD c r one), .fz (tabD c2 r2 two)] = .ok (.fz (dTT [])) [] := by
  have h1 := ev_form hc hr v h0 hn hk
  have h2 := ev_form hc2 hr2 v2 h02 hn2 hk2
  simp [f_group_isomorphisms, semDef, b_group_isomorphisms, b_group_isomorphisms_0, rho0, FA.sv, iosOf, mkArgs, mkArg, okIx, ioAt, callRes, setIo, brIx, h1, h2, ne_dTT, hne]
  rfl
theorem ev_iso {c r c2 r2 : List D → D} (hc : Ctr c) (hr : Ctr r) (hc2 : Ctr c2) (hr2 : Ctr r2) {n : Nat} {one two : List (List Nat)} (v : Valid n one) (v2 : Valid n two) (h0 : 3 ≤ n) (hn : n ≤ 100) {k k2 : Nat} (hk : Rank one n k) (hk2 : Rank two n k2)
    (heq : formG one n k = formG two n k2) : f_group_isomorphisms [.fz (tabD c r one), .fz (tabD c2 r2 two)] = .ok (.fz (dTT (sortT (isoP one two n k k2)))) [] := by
  have h1 := ev_form hc hr v h0 hn hk
  have h2 := ev_form hc2 hr2 v2 h0 hn hk2
  have m1 := ev_maps hc hr v h0 hn hk
  have m2 := ev_maps hc2 hr2 v2 h0 hn hk2
  have hl := ordK_len (n := n) (k := k) one hn hk.le
  have hml : (sortT (mapsG one n k)).length ≤ 999999 := by
    rw [len_sortT]; unfold mapsG; rw [List.length_map]
    exact Nat.le_trans (List.length_filter_le _ _) hl
  have hb : 0 < (sortT (mapsG two n k2)).length := by rw [len_sortT]; exact List.length_pos_iff.mpr (mapsG_ne hk2)
  have hat := at_row0 (f := dT) hb
  have hbp := mapsG_perm v2 (by omega) hn (back_mem hk2)
  have loop := forL_i (tg := gN 4) (body := l_group_isomorphisms_0) (e := dT) (fun (b : List (List Nat)) (s : SV) => [.fz (tabD c r one), .fz (tabD c2 r2 two), .fz (dT (backG two n k2)), .ow (.lst (b.map dT)), s, .no])
    (fun b im => b ++ [im.map fun i => (backG two n k2).idxOf i]) (sortT (mapsG one n k)) (fun i b => b.length ≤ i) [] SV.no (by simp) ?_
  · obtain ⟨⟨j, k1⟩, k2'⟩ := loop
    have hfold : (sortT (mapsG one n k)).foldl (fun b im => b ++ [im.map fun i => (backG two n k2).idxOf i]) [] = isoP one two n k k2 := by
      have := foldl_filter_map (fun _ => true) (fun im : List Nat => im.map fun i => (backG two n k2).idxOf i) (sortT (mapsG one n k)) []
      rw [List.filter_eq_self.mpr (fun _ _ => rfl)] at this
      simp only [if_true, List.nil_append] at this
      exact this
    rw [hfold] at k1 k2'
    have hs := semSort_T (isoP one two n k k2) (fun x hx => ?_) (by omega)
    · have hbk : dT (rowAt (sortT (mapsG two n k2)) 0) = dT (backG two n k2) := rfl
      rw [hbk] at hat
      simp only [List.map_nil] at k1
      simp [f_group_isomorphisms, semDef, b_group_isomorphisms, b_group_isomorphisms_0, b_group_isomorphisms_1, b_group_isomorphisms_2, b_group_isomorphisms_3, b_group_isomorphisms_4, rho0, FA.sv, iosOf, mkArgs, mkArg, okIx, ioAt, callRes, setIo, brIx, h1, h2, ne_dTT, heq, m1, m2]
      simp [dTT, hat, m1, k1, hs]
    · obtain ⟨im, him, rfl⟩ := List.mem_map.mp hx
      have := (mapsG_perm v (by omega) hn (mem_sortT.mp him)).len
      intro e
      have e2 := congrArg List.length e
      simp at e2
      rw [e2] at this
      simp at this
      omega
  · intro i b j im hi hb
    have him := mapsG_perm v (by omega) hn (mem_sortT.mp (List.mem_of_getElem? hi))
    have hil := (List.getElem?_eq_some_iff.mp hi).1
    have hbl : b.length < 1000000 := by omega
    have himl : im.length ≤ 1000000 := by have := him.len; omega
    have hlc : ∀ x3, lcL [5] (gN 5) fYes e_group_isomorphisms_0 (im.map di) [.fz (tabD c r one), .fz (tabD c2 r2 two), .fz (dT (backG two n k2)), x3, .fz (dT im), .no] = .ok (im.map fun x => di ((backG two n k2).idxOf x)) [.fz (tabD c r one), .fz (tabD c2 r2 two), .fz (dT (backG two n k2)), x3, .fz (dT im), .no] := fun x3 => by
      refine lcL_map im fun x hx => ?_
      have h4 := semIndexT_F eqf_di lef_di x (backG two n k2) (hbp.mem (him.fnd.lt x hx))
      simp [e_group_isomorphisms_0, dT, h4]
    have hinv : D.tup (im.map fun x => di ((backG two n k2).idxOf x)) = dT (im.map fun x => (backG two n k2).idxOf x) := by
      unfold dT; rw [List.map_map]; rfl
    refine ⟨by rw [List.length_append, List.length_singleton]; omega, ?_⟩
    rw [show dT im = D.tup (im.map di) from rfl] at hlc ⊢
    simp [l_group_isomorphisms_0, plainVars, hlc, himl, hbl, hinv]
end K74

end
section
set_option Elab.async false
set_option linter.all false
namespace K74
open PySem L2 VI
def kI (f : List Nat) : List Key := f.map fun n : Nat => Sum.inl (n : Int)
def vI (f : List Nat) : List D := f.map fun _ => D.bl true
theorem dkVal_in (x : Nat) : ∀ f : List Nat, (dkVal (kI f) (vI f) (Sum.inl (x : Int))).isSome = decide (x ∈ f)
  | [] => rfl
  | y :: f => by
    have ih := dkVal_in x f
    unfold kI vI at ih ⊢
    simp only [List.map_cons, dkVal]
    by_cases e : y = x
    · subst e; simp
    · have : ¬ ((Sum.inl (y : Int) : Key) = Sum.inl (x : Int)) := by
        intro h; apply e; have h2 : (y : Int) = x := by simpa using h
        omega
      rw [if_neg this, ih]
      simp [Ne.symm e]
theorem dkPut_new (x : Nat) (f : List Nat) (h : x ∉ f) : dkPut (kI f) (vI f) (Sum.inl (x : Int)) (.bl true) = (kI (f ++ [x]), vI (f ++ [x])) := by
  unfold dkPut
  have : ((kI f).any fun k => decide (k = Sum.inl (x : Int))) = false := by
    rw [List.any_eq_false]
    intro k hk
    obtain ⟨y, hy, rfl⟩ := List.mem_map.mp hk
    simp
    intro e
    apply h
    have : y = x := by omega
    rw [← this]; exact hy
  rw [this]
  simp [kI, vI]
theorem ev_listed {n : Nat} {t : List (List Nat)} (v : Valid n t) (h0 : 0 < n) (hn : n ≤ 900) {gens : List Nat} (hg : ∀ g ∈ gens, g < n) :
    f_law_listed [.fz (dLT t), .fz (dT gens)] = .ok (.ow (.lst ((bfs t gens).map di))) [] := by
  have inner : ∀ (i x : Nat) (f : List Nat) (s : SV × SV), Fnd n f → i < f.length → cellAt f i = x → ∃ s' : SV × SV, forL (gN 5) l_law_listed_0 (gens.map di) [.fz (dLT t), .fz (dT gens), .ow (.lst (f.map di)), .ow (.dk (kI f) (vI f)), .fz (di i), s.1, s.2] =
      .ok .nx [.fz (dLT t), .fz (dT gens), .ow (.lst ((growG t gens x f).map di)), .ow (.dk (kI (growG t gens x f)) (vI (growG t gens x f))), .fz (di i), s'.1, s'.2] := by
    intro i x f s hf hi hx
    have hxn : x < n := by rw [← hx]; exact hf.lt _ (cellAt_mem hi)
    refine (forL_j (tg := gN 5) (body := l_law_listed_0) (e := di) (fun (b : List Nat) (s : SV × SV) => [.fz (dLT t), .fz (dT gens), .ow (.lst (b.map di)), .ow (.dk (kI b) (vI b)), .fz (di i), s.1, s.2]) (fun b => Fnd n b ∧ i < b.length ∧ cellAt b i = x)
      (stepG t x) gens f s ⟨hf, hi, hx⟩ ?_).1
    intro b s g hgm ⟨hf, hi, hx⟩
    have hgn := hg g hgm
    refine ⟨⟨step_fnd v hxn hgn hf, Nat.lt_of_lt_of_le hi (step_pre ..).length_le, by rw [cellAt_pre (step_pre ..) hi]; exact hx⟩, ?_⟩
    have hbl := hf.len
    have hb : b.length < 1000000 := by omega
    have hb2 : (kI b).length < 1000000 := by unfold kI; simpa using hb
    have h1 : x < t.length := by rw [v.len]; exact hxn
    have h2 : g < (rowAt t x).length := by rw [v.rl hxn]; exact hgn
    have h3 := at_cell hi
    rw [hx] at h3
    have htg : cellAt (rowAt t x) g = tg t x g := rfl
    have hat := at_row (f := dT) h1
    simp only [dT] at hat
    have h4 : semDIn true (di (tg t x g)) (.dk (kI b) (vI b)) = some (.sc (.bl (!decide (tg t x g ∈ b)))) := by
      show some (PR.sc (D.bl (!(dkVal (kI b) (vI b) (Sum.inl ((tg t x g : Nat) : Int))).isSome))) = _
      rw [dkVal_in]
    have hkey : D.key (di (tg t x g)) = some (Sum.inl ((tg t x g : Nat) : Int)) := rfl
    by_cases hm : tg t x g ∈ b
    · simp [l_law_listed_0, dLT, h3, hat, at_cell h2, htg, h4, hm, stepG]
    · simp [l_law_listed_0, dLT, h3, hat, at_cell h2, htg, h4, hm, stepG, hb, hb2, sDPutF, s_od1, hkey, dkPut_new _ _ hm]
  have loop := whL_j (cd := t_law_listed_0) (body := l_law_listed_1) (fun (b : Nat × List Nat) (s : SV × SV) => [.fz (dLT t), .fz (dT gens), .ow (.lst (b.2.map di)), .ow (.dk (kI b.2) (vI b.2)), .fz (di b.1), s.1, s.2]) (bfsI n) bfsC (bfsS t gens) (fun b => n - b.1) ?_ 1000 (0, [0]) (.no, .no) ⟨⟨by simp, by simpa using h0⟩, by simp⟩ (by show n - 0 < 1000; omega)
  · obtain ⟨s', k1, k2, k3⟩ := loop
    have e1 : (wit bfsC (bfsS t gens) 1000 (0, [0])).2 = bfs t gens := rfl
    rw [e1] at k1
    have d0 : di 0 = D.int 0 := rfl
    have d1 : kI [0] = [Sum.inl 0] := rfl
    have d2 : vI [0] = [D.bl true] := rfl
    simp [d0, d1, d2] at k1
    simp [f_law_listed, semDef, b_law_listed, b_law_listed_0, b_law_listed_1, b_law_listed_2, b_law_listed_3, rho0, sWh, eD1, D.key, k1]
  · intro b s hb
    refine ⟨by simp [t_law_listed_0, bfsC], fun hcb => ⟨bfsI_step v hg hb hcb, ?_, ?_⟩⟩
    · have hc2 : b.1 < b.2.length := by simpa [bfsC] using hcb
      have := hb.1.len
      show n - (b.1 + 1) < n - b.1
      omega
    · have hc2 : b.1 < b.2.length := by simpa [bfsC] using hcb
      obtain ⟨s', h1⟩ := inner b.1 _ b.2 s hb.1 hc2 rfl
      simp only [dT] at h1
      simp [l_law_listed_1, dT, h1, bfsS]
end K74

end
section
set_option Elab.async false
set_option linter.all false
namespace K74
open PySem L2 VI
theorem foldl_flat {α β : Type} (f : α → List β) : ∀ (xs : List α) (acc : List β), xs.foldl (fun acc x => acc ++ f x) acc = acc ++ (xs.map f).flatten
  | [], acc => by simp
  | x :: xs, acc => by rw [List.foldl_cons, foldl_flat f xs]; simp
theorem rows_body {n k : Nat} (hn : n ≤ 100) (hk : k + 1 ≤ 3) (d : D) (j s4 s5 : SV) : ∃ s5', l_law_rows_1 [.fz (di n), .fz d, .ow (.lst ((tuplesOf n k).map dT)), j, s4, s5, .no] =
    .ok .nx [.fz (di n), .fz d, .ow (.lst ((tuplesOf n (k + 1)).map dT)), j, .ow (.lst ((tuplesOf n (k + 1)).map dT)), s5', .no] := by
  have hl3 : (tuplesOf n (k + 1)).length ≤ 1000000 := by rw [tuples_len]; exact pow_small hn hk
  have hl4 : (tuplesOf n k).length * (n - 1) ≤ 1000000 := by
    have : (tuplesOf n (k + 1)).length = (tuplesOf n k).length * (n - 1) := by simp [tuplesOf, ext_len]
    omega
  have loop := forL_i (tg := gN 5) (body := l_law_rows_0) (e := dT) (fun (b : List (List Nat)) (s : SV) => [.fz (di n), .fz d, .fz (.lst ((tuplesOf n k).map dT)), j, .ow (.lst (b.map dT)), s, .no])
    (fun b row => b ++ (List.range (n - 1)).map fun i => row ++ [1 + i]) (tuplesOf n k) (fun i b => b.length ≤ i * (n - 1)) [] s5 (by simp) ?_
  · obtain ⟨⟨s', k1⟩, _⟩ := loop
    rw [foldl_flat, List.nil_append] at k1
    have e1 : ((tuplesOf n k).map fun row => (List.range (n - 1)).map fun i => row ++ [1 + i]).flatten = tuplesOf n (k + 1) := rfl
    rw [e1] at k1
    simp only [List.map_nil] at k1
    refine ⟨s', ?_⟩
    simp [l_law_rows_1, k1]
  · intro i b s row hi hb
    have hil := (List.getElem?_eq_some_iff.mp hi).1
    have hrow := (tuples_mem.mp (List.mem_of_getElem? hi)).1
    have h1 : ∀ s5, lcL [6] (gN 6) fYes e_law_rows_0 ((List.range (n - 1)).map fun i => di (1 + i)) [.fz (di n), .fz d, .fz (.lst ((tuplesOf n k).map dT)), j, s5, .fz (dT row), .no] =
        .ok ((List.range (n - 1)).map fun i => dT (row ++ [1 + i])) [.fz (di n), .fz d, .fz (.lst ((tuplesOf n k).map dT)), j, s5, .fz (dT row), .no] := fun s5 => by
      refine lcL_map (List.range (n - 1)) fun i hi => ?_
      by_cases h0 : row = []
      · simp [e_law_rows_0, dT, catT0, h0]
      · simp [e_law_rows_0, dT, catT1 row _ (by omega), h0]
    have h2 : (i + 1) * (n - 1) ≤ (tuplesOf n k).length * (n - 1) := Nat.mul_le_mul_right _ (by omega)
    have h3 : (i + 1) * (n - 1) = i * (n - 1) + (n - 1) := by rw [Nat.succ_mul]
    have h4 : b.length + (n - 1) ≤ 1000000 := by omega
    have h5 : n - 1 ≤ 1000000 := by omega
    refine ⟨by simp; omega, ?_⟩
    simp [l_law_rows_0, rangeD_one, rgOk_one (show n ≤ 1000000 by omega), plainVars, h1, h4, h5]
theorem ev_rows {n k : Nat} (hn : n ≤ 100) (hk : k ≤ 3) : f_law_rows [.fz (di n), .fz (di k)] = .ok (.ow (.lst ((tuplesOf n k).map dT))) [] := by
  have e0 : (tuplesOf n 0).map dT = [.tup []] := rfl
  have b := fun (k' : Nat) (h : k' + 1 ≤ 3) j s4 s5 => rows_body (n := n) hn h (di k) j s4 s5
  obtain ⟨s1, h0⟩ := b 0 (by omega) (.fz (.int 0)) .no .no
  obtain ⟨s2, h1⟩ := b 1 (by omega) (.fz (.int 1)) (.ow (.lst ((tuplesOf n 1).map dT))) s1
  obtain ⟨s3, h2⟩ := b 2 (by omega) (.fz (.int 2)) (.ow (.lst ((tuplesOf n 2).map dT))) s2
  rw [e0] at h0
  have hk' : k = 0 ∨ k = 1 ∨ k = 2 ∨ k = 3 := by omega
  rcases hk' with rfl | rfl | rfl | rfl
  all_goals
    simp [f_law_rows, semDef, b_law_rows, b_law_rows_0, b_law_rows_1, b_law_rows_2, rho0, rangeD, rgOk, List.range_succ, forL, h0, h1, h2, e0]
theorem enum_body {n : Nat} {t : List (List Nat)} (v : Valid n t) (h0 : 0 < n) (hn : n ≤ 100) {k : Nat} (hk : k ≤ 3) (s3 : SV) :
    OkR (l_law_enumerations_0 [.fz (dLT t), .fz (di n), .fz (di k), s3, .no, .no]) fun ct ρ2 => (ordK t n k ≠ [] → ct = .rt (.ow (.lst ((ordK t n k).map dL)))) ∧ (ordK t n k = [] → ct = .nx ∧ ∃ s3', ρ2 = [.fz (dLT t), .fz (di n), .fz (di k), s3', .no, .no]) := by
  have h1 : ∀ s3, lcL [5] (gN 5) fYes e_law_enumerations_0 ((tuplesOf n k).map dT) [.fz (dLT t), .fz (di n), .fz (di k), s3, .no, .no] = .ok ((tuplesOf n k).map fun g => dL (bfs t g)) [.fz (dLT t), .fz (di n), .fz (di k), s3, .no, .no] := fun s3 => by
    refine lcL_map (tuplesOf n k) fun g hg => ?_
    have he := ev_listed v h0 (by omega) (gens_lt hg)
    simp [e_law_enumerations_0, he, dL]
  have h2 : ∀ s3, lcL [4] (gN 4) t_law_enumerations_0 e_law_enumerations_1 ((tuplesOf n k).map fun g => dL (bfs t g)) [.fz (dLT t), .fz (di n), .fz (di k), s3, .no, .no] = .ok ((ordK t n k).map dL) [.fz (dLT t), .fz (di n), .fz (di k), s3, .no, .no] := fun s3 => by
    have := lcL_filter (vs := [4]) (tg := gN 4) (cond := t_law_enumerations_0) (elt := e_law_enumerations_1) (e := fun g => dL (bfs t g)) (g := fun g => dL (bfs t g)) (c := fullB t n) (S := [.fz (dLT t), .fz (di n), .fz (di k), s3, .no, .no]) (tuplesOf n k) ?_
    · rw [this]; unfold ordK; rw [List.map_map]; rfl
    · intro g hg
      have hfl := (ev_enumerated Ctr.lst Ctr.lst v h0 (by omega) (gens_lt hg)).2.len
      have hb : decide ((bfs t g).length = n) = fullB t n g := by
        unfold fullB
        by_cases hf : (bfs t g).length < n
        · simp [hf]; omega
        · simp [hf]; omega
      simp [t_law_enumerations_0, e_law_enumerations_1, dL, len_eq, hb]
  have h3 := ev_rows (n := n) (k := k) hn hk
  have h4 : (tuplesOf n k).length ≤ 1000000 := by rw [tuples_len]; exact pow_small hn hk
  have h5 : (ordK t n k).length ≤ 1000000 := by
    have := ordK_len (n := n) (k := k) t hn hk; omega
  by_cases he : ordK t n k = []
  · rw [he] at h2 ⊢
    simp [l_law_enumerations_0, h3, plainVars, h1, h2, h4]
  · have : 0 < (ordK t n k).length := List.length_pos_iff.mpr he
    simp [l_law_enumerations_0, h3, plainVars, h1, h2, h4, h5, he, this]
theorem ev_enums {n : Nat} {t : List (List Nat)} (v : Valid n t) (h0 : 0 < n) (hn : n ≤ 100) {k : Nat} (hk : Rank t n k) : f_law_enumerations [.fz (dLT t)] = .ok (.ow (.lst ((ordK t n k).map dL))) [] := by
  have hlen := v.len
  have loop : ∀ m i (s2 s3 : SV), i + m = k → ∃ ρ2, forL (gN 2) l_law_enumerations_0 ((List.range' i (4 - i)).map di) [.fz (dLT t), .fz (di n), s2, s3, .no, .no] = .ok (.rt (.ow (.lst ((ordK t n k).map dL)))) ρ2 := by
    have hk3 := hk.le
    intro m
    induction m with
    | zero =>
      intro i s2 s3 e
      have e : i = k := by omega
      subst e
      obtain ⟨ct, ρ2, h1, h2, _⟩ := (enum_body v h0 hn hk3 s3).ex
      have h2 := h2 hk.at_
      subst h2
      have : 4 - i = (3 - i) + 1 := by omega
      rw [this, List.range'_succ]
      exact ⟨ρ2, by simp [forL, h1]⟩
    | succ m ih =>
      intro i s2 s3 e
      obtain ⟨ct, ρ2, h1, _, h2⟩ := (enum_body v h0 hn (by omega : i ≤ 3) s3).ex
      obtain ⟨rfl, s3', rfl⟩ := h2 (hk.below i (by omega))
      obtain ⟨ρ3, h3⟩ := ih (i + 1) (.fz (di i)) s3' (by omega)
      have : 4 - i = (4 - (i + 1)) + 1 := by omega
      rw [this, List.range'_succ]
      generalize List.range' (i + 1) (4 - (i + 1)) = L at h3 ⊢
      exact ⟨ρ3, by simp [forL, h1, h3]⟩
  obtain ⟨ρ2, h⟩ := loop k 0 .no .no (by omega)
  have hr : rangeD 0 4 = (List.range' 0 (4 - 0)).map di := by
    have := rangeD_nat 4
    rw [List.range_eq_range'] at this
    exact this
  have hr2 : rgOk 0 4 = true := rfl
  simp only [dLT] at h
  simp [f_law_enumerations, semDef, b_law_enumerations, b_law_enumerations_0, b_law_enumerations_1, b_law_enumerations_2, rho0, dLT, hlen, hr2]
  rw [hr, h]
  simp
end K74

end
section
set_option Elab.async false
set_option linter.all false
namespace K74
open PySem L2 VI
theorem getD_set {l : List Nat} {i j v : Nat} (h : i < l.length) : cellAt (l.set i v) j = if i = j then v else cellAt l j := by
  unfold cellAt
  by_cases e : i = j
  · subst e; simp [h]
  · simp [List.getElem?_set_ne e, e]
theorem cellAt_get {l : List Nat} {i : Nat} (h : i < l.length) : cellAt l i = l[i] := by unfold cellAt; simp [h]
theorem inv_cell {n : Nat} {o : List Nat} {y : Nat} (h : y < n) : cellAt (inv n o) y = o.idxOf y := by
  unfold cellAt inv; simp [h]
/-- the places, one by one -/
def place (o : List Nat) : List Nat := (List.range o.length).foldl (fun p k => p.set (cellAt o k) k) (o.map fun _ => 0)
theorem cell_inj {n : Nat} {o : List Nat} (h : PermN n o) {i j : Nat} (hi : i < n) (hj : j < n) (e : cellAt o i = cellAt o j) : i = j := by
  have hl := h.len
  rw [cellAt_get (by omega), cellAt_get (by omega)] at e
  have hi2 : i < o.length := by omega
  have hj2 : j < o.length := by omega
  exact (List.getElem?_inj hi2 h.fnd.nd).mp (by rw [List.getElem?_eq_getElem hi2, List.getElem?_eq_getElem hj2, e])
theorem place_eq {n : Nat} {o : List Nat} (h : PermN n o) : place o = inv n o := by
  have hl := h.len
  have key : ∀ m, m ≤ n → ((List.range m).foldl (fun p k => p.set (cellAt o k) k) (o.map fun _ => 0)).length = n ∧ ∀ j, j < m → cellAt ((List.range m).foldl (fun p k => p.set (cellAt o k) k) (o.map fun _ => 0)) (cellAt o j) = j := by
    intro m
    induction m with
    | zero => exact fun _ => ⟨by simp [hl], fun j hj => absurd hj (Nat.not_lt_zero j)⟩
    | succ m ih =>
      intro hm
      obtain ⟨h1, h2⟩ := ih (by omega)
      rw [List.range_succ, List.foldl_append]
      simp only [List.foldl_cons, List.foldl_nil]
      have hlt : cellAt o m < n := h.fnd.lt _ (cellAt_mem (by omega))
      refine ⟨by rw [List.length_set]; exact h1, fun j hj => ?_⟩
      rw [getD_set (by rw [h1]; exact hlt)]
      by_cases e : cellAt o m = cellAt o j
      · rw [if_pos e]; exact cell_inj h (by omega) (by omega) e
      · rw [if_neg e]
        refine h2 j ?_
        have : j ≠ m := fun z => e (by rw [z])
        omega
  obtain ⟨h1, h2⟩ := key n (Nat.le_refl n)
  have hp : place o = (List.range n).foldl (fun p k => p.set (cellAt o k) k) (o.map fun _ => 0) := by unfold place; rw [hl]
  rw [← hp] at h1 h2
  apply List.ext_getElem
  · rw [h1]; simp [inv]
  · intro y hy1 hy2
    have hy : y < n := by rw [h1] at hy1; exact hy1
    have hm := h.mem hy
    have hix := List.idxOf_lt_length_of_mem hm
    have e1 : cellAt o (o.idxOf y) = y := by
      rw [cellAt_get hix]
      exact List.getElem_idxOf hix
    have h3 := h2 (o.idxOf y) (by omega)
    rw [e1] at h3
    have h4 : cellAt (place o) y = (place o)[y] := cellAt_get hy1
    have h5 : cellAt (inv n o) y = (inv n o)[y] := cellAt_get hy2
    rw [← h4, ← h5, h3, inv_cell hy]
theorem ev_by_order {n : Nat} {t : List (List Nat)} (v : Valid n t) (hn : n ≤ 100) {o : List Nat} (ho : PermN n o) : f_law_by_order [.fz (dLT t), .fz (dL o)] = .ok (.fz (dTT (ren t o))) [] := by
  have hl := ho.len
  have hol : o.length ≤ 1000000 := by omega
  have h1 : lcL [3] (gN 3) fYes e_law_by_order_0 (o.map di) [.fz (dLT t), .fz (dL o), .no, .no, .no, .no] = .ok (o.map fun _ => D.int 0) [.fz (dLT t), .fz (dL o), .no, .no, .no, .no] :=
    lcL_map o fun x hx => by simp [e_law_by_order_0]
  have loop := forL_i (tg := gN 4) (body := l_law_by_order_0) (e := di) (fun (b : List Nat) (s : SV) => [.fz (dLT t), .fz (dL o), .ow (.lst (b.map di)), .no, s, .no])
    (fun p k => p.set (cellAt o k) k) (List.range o.length) (fun _ b => b.length = n) (o.map fun _ => 0) SV.no (by simp [hl]) ?_
  · obtain ⟨⟨s', k1⟩, _⟩ := loop
    have e1 : (List.range o.length).foldl (fun p k => p.set (cellAt o k) k) (o.map fun _ => 0) = place o := rfl
    rw [e1, place_eq ho] at k1
    have e2 : ((o.map fun _ => 0).map di) = o.map fun _ => D.int 0 := by rw [List.map_map]; rfl
    rw [e2] at k1
    have h2 : ∀ x ∈ o, lcL [5] (gN 5) fYes e_law_by_order_1 (o.map di) [.fz (dLT t), .fz (dL o), .ow (.lst ((inv n o).map di)), .fz (di x), s', .no] = .ok (o.map fun y => di (o.idxOf (tg t x y))) [.fz (dLT t), .fz (dL o), .ow (.lst ((inv n o).map di)), .fz (di x), s', .no] := fun x hx => by
      refine lcL_map o fun y hy => ?_
      have hx1 := ho.fnd.lt x hx
      have hy1 := ho.fnd.lt y hy
      have h2 : x < t.length := by rw [v.len]; exact hx1
      have h3 : y < (rowAt t x).length := by rw [v.rl hx1]; exact hy1
      have htg : cellAt (rowAt t x) y = tg t x y := rfl
      have hat := at_row (f := dT) h2
      have hlt := v.tlt hx1 hy1
      have h4 := at_cell (r := inv n o) (y := tg t x y) (by simp [inv]; exact hlt)
      rw [inv_cell hlt] at h4
      simp only [dT] at hat
      simp [e_law_by_order_1, dLT, hat, at_cell h3, htg, h4]
    have h3 : lcL [3] (gN 3) fYes e_law_by_order_2 (o.map di) [.fz (dLT t), .fz (dL o), .ow (.lst ((inv n o).map di)), .no, s', .no] = .ok (o.map fun x => dT (o.map fun y => o.idxOf (tg t x y))) [.fz (dLT t), .fz (dL o), .ow (.lst ((inv n o).map di)), .no, s', .no] := by
      refine lcL_map o fun x hx => ?_
      have h2 := h2 x hx
      simp only [dL] at h2
      simp [e_law_by_order_2, dL, plainVars, h2, hol, dT, Function.comp_def]
    simp only [dL] at h1 k1 h3
    simp [f_law_by_order, semDef, b_law_by_order, b_law_by_order_0, b_law_by_order_1, b_law_by_order_2, rho0, dL, plainVars, h1, hol, rangeD_nat, rgOk_nat hol, k1, h3, dTT, ren, Function.comp_def]
  · intro i b s k hi hb
    have hk : k < o.length := by
      have := List.mem_of_getElem? hi
      simpa using this
    have hlt : cellAt o k < b.length := by rw [hb]; exact ho.fnd.lt _ (cellAt_mem hk)
    refine ⟨by rw [List.length_set]; exact hb, ?_⟩
    simp [l_law_by_order_0, dL, at_cell hk, ixN_nat hlt]
theorem formOf_snoc (l : List (List (List Nat))) (h : l ≠ []) (x : List (List Nat)) : formOf (l ++ [x]) = if ltF dTT x (formOf l) = true then x else formOf l := by
  cases l with
  | nil => exact absurd rfl h
  | cons a as =>
    show minF dTT a (as ++ [x]) = _
    unfold minF
    rw [List.foldl_append]
    rfl
theorem formOf_le (l : List (List (List Nat))) {y : List (List Nat)} (h : y ∈ l) : ltF dTT y (formOf l) = false := by
  cases l with
  | nil => cases h
  | cons a as => exact minF_le dTT as a y h
abbrev FS := Option (List (List Nat)) × List (List Nat)
def fstep (t : List (List Nat)) (n : Nat) (b : FS) (o : List Nat) : FS :=
  let f := ren t o
  let b1 : FS := match b.1 with
    | none => (some f, [])
    | some x => if ltF dTT f x = true then (some f, []) else b
  if b1.1 = some f then (b1.1, b1.2 ++ [inv n o]) else b1
def fdone (t : List (List Nat)) (n : Nat) (ps : List (List Nat)) : FS := (some (formOf (ps.map (ren t))), (ps.filter fun o => decide (ren t o = formOf (ps.map (ren t)))).map (inv n))
theorem fstep_done (t : List (List Nat)) (n : Nat) (ps : List (List Nat)) (h : ps ≠ []) (o : List Nat) : fstep t n (fdone t n ps) o = fdone t n (ps ++ [o]) := by
  have e : formOf ((ps ++ [o]).map (ren t)) = if ltF dTT (ren t o) (formOf (ps.map (ren t))) = true then ren t o else formOf (ps.map (ren t)) := by
    rw [List.map_append, List.map_singleton]
    exact formOf_snoc _ (by simpa using h) _
  unfold fdone
  rw [e]
  unfold fstep
  by_cases hlt : ltF dTT (ren t o) (formOf (ps.map (ren t))) = true
  · simp only [hlt, if_true, List.filter_append, List.map_append]
    have : (ps.filter fun p => decide (ren t p = ren t o)) = [] := by
      rw [List.filter_eq_nil_iff]
      intro p hp hpe
      have hpe : ren t p = ren t o := by simpa using hpe
      have := formOf_le (ps.map (ren t)) (List.mem_map.mpr ⟨p, hp, rfl⟩)
      rw [hpe, hlt] at this
      cases this
    simp [this]
  · simp only [hlt, if_false, List.filter_append, List.map_append]
    by_cases heq : ren t o = formOf (ps.map (ren t))
    · simp [heq]
    · have : ¬ formOf (ps.map (ren t)) = ren t o := fun z => heq z.symm
      simp [heq, this]
theorem ffold (t : List (List Nat)) (n : Nat) : ∀ (l ps : List (List Nat)), ps ≠ [] → l.foldl (fstep t n) (fdone t n ps) = fdone t n (ps ++ l)
  | [], ps, _ => by simp
  | o :: l, ps, h => by
    rw [List.foldl_cons, fstep_done t n ps h o, ffold t n l (ps ++ [o]) (by simp)]
    simp
theorem ffold0 (t : List (List Nat)) (n : Nat) (l : List (List Nat)) (h : l ≠ []) : l.foldl (fstep t n) (none, []) = fdone t n l := by
  cases l with
  | nil => exact absurd rfl h
  | cons o l =>
    have : fstep t n (none, []) o = fdone t n [o] := by simp [fstep, fdone, formOf, minF]
    rw [List.foldl_cons, this, ffold t n l [o] (by simp)]
    rfl
end K74

end
section
set_option Elab.async false
set_option linter.all false
namespace K74
open PySem L2 VI
def sB : Option (List (List Nat)) → D
  | none => .non
  | some x => dTT x
theorem is_non : semIs .non .non = some (.sc (.bl true)) := by rfl
theorem is_tup (xs : List D) : semIs (.tup xs) .non = some (.sc (.bl false)) := by rfl
theorem is_dTT (t : List (List Nat)) : semIs (dTT t) .non = some (.sc (.bl false)) := is_tup _
theorem lt_dTT (a b : List (List Nat)) : semLt (dTT a) (dTT b) = some (.sc (.bl (ltF dTT a b))) := semLt_F lef_dTT alf_dTT (fun a => ⟨_, rfl⟩) a b
theorem fstep_len (t : List (List Nat)) (n : Nat) (b : FS) (o : List Nat) : (fstep t n b o).2.length ≤ b.2.length + 1 := by
  obtain ⟨b1, b2⟩ := b
  cases b1 with
  | none => simp [fstep]
  | some x =>
    unfold fstep
    simp only
    split <;> split <;> simp_all
theorem form_body {n : Nat} {t : List (List Nat)} (v : Valid n t) (hn : n ≤ 100) {o : List Nat} (ho : PermN n o) (b : FS) (hb : b.2.length < 999999) (s : SV) :
    OkR (l_law_form_0 [.fz (dLT t), .fz (sB b.1), .ow (.lst (b.2.map dT)), .fz (dL o), s, .no]) fun ct ρ2 => ct.go = true ∧ ∃ s' : SV × SV, ρ2 = [.fz (dLT t), .fz (sB (fstep t n b o).1), .ow (.lst ((fstep t n b o).2.map dT)), s'.1, s'.2, .no] := by
  have hl := ho.len
  have h1 := ev_by_order v hn ho
  have hol : o.length ≤ 1000000 := by omega
  have hlc : ∀ x1 x2 x4, lcL [5] (gN 5) fYes e_law_form_0 ((List.range o.length).map di) [.fz (dLT t), x1, x2, .fz (dL o), x4, .no] = .ok ((List.range o.length).map fun x => di (o.idxOf x)) [.fz (dLT t), x1, x2, .fz (dL o), x4, .no] := fun x1 x2 x4 => by
    refine lcL_map (List.range o.length) fun x hx => ?_
    have hx : x < o.length := by simpa using hx
    have h4 := semIndexL_F eqf_di lef_di x o (ho.mem (by omega))
    simp [e_law_form_0, dL, h4]
  have hinv : D.tup ((List.range o.length).map fun x => di (o.idxOf x)) = dT (inv n o) := by
    unfold dT inv; rw [hl, List.map_map]; rfl
  have hb0 : b.2.length < 1000000 := by omega
  simp only [dL] at hlc h1
  obtain ⟨b1, b2⟩ := b
  cases b1 with
  | none =>
    simp [l_law_form_0, dL, h1, sB, is_non, eq_dTT, rangeD_nat, rgOk_nat hol, plainVars, hlc, hol, hinv, fstep]
  | some x =>
    cases hlt : ltF dTT (ren t o) x with
    | true => simp [l_law_form_0, dL, h1, sB, is_dTT, lt_dTT, hlt, eq_dTT, rangeD_nat, rgOk_nat hol, plainVars, hlc, hol, hinv, fstep]
    | false =>
      by_cases he : ren t o = x
      · have : ltF dTT x x = false := by rw [← he] at hlt ⊢; exact hlt
        simp [l_law_form_0, dL, h1, sB, is_dTT, lt_dTT, hlt, eq_dTT, rangeD_nat, rgOk_nat hol, plainVars, hlc, hol, hinv, fstep, he, this, hb0]
        try omega
      · have he2 : ¬ x = ren t o := fun z => he z.symm
        simp [l_law_form_0, dL, h1, sB, is_dTT, lt_dTT, hlt, eq_dTT, fstep, he, he2]
theorem ev_law_form {n : Nat} {t : List (List Nat)} (v : Valid n t) (h0 : 3 ≤ n) (hn : n ≤ 100) {k : Nat} (hk : Rank t n k) : f_law_form [.fz (dLT t)] = .ok (.fz (.tup [dTT (formG t n k), dTT (sortT (mapsG t n k))])) [] := by
  have h1 := ev_enums v (by omega) hn hk
  have hl := ordK_len (n := n) (k := k) t hn hk.le
  have loop := forL_i (tg := gN 3) (body := l_law_form_0) (e := dL) (fun (b : FS) (s : SV × SV) => [.fz (dLT t), .fz (sB b.1), .ow (.lst (b.2.map dT)), s.1, s.2, .no])
    (fstep t n) (ordK t n k) (fun i b => b.2.length ≤ i) (none, []) (SV.no, SV.no) (by simp) ?_
  · obtain ⟨⟨s', k1⟩, k2⟩ := loop
    rw [ffold0 t n _ hk.at_] at k1 k2
    have hml : (mapsG t n k).length ≤ 1000000 := Nat.le_trans k2 (by omega)
    have hs := semSort_T (mapsG t n k) (fun x hx => ?_) hml
    · have e1 : sB (fdone t n (ordK t n k)).1 = dTT (formG t n k) := rfl
      have e2 : (fdone t n (ordK t n k)).2 = mapsG t n k := rfl
      simp only [e1, e2, List.map_nil, sB] at k1
      simp [f_law_form, semDef, b_law_form, b_law_form_0, b_law_form_1, b_law_form_2, rho0, h1, k1, hs]
      exact ⟨rfl, rfl⟩
    · have := (mapsG_perm v (by omega) hn hx).len
      intro e
      rw [e] at this
      simp at this
      omega
  · intro i b s o hi hb
    have hil := (List.getElem?_eq_some_iff.mp hi).1
    have ho := ordK_perm v (by omega) hn (List.mem_of_getElem? hi)
    have hbl : b.2.length < 999999 := by omega
    refine ⟨Nat.le_trans (fstep_len t n b o) (by omega), ?_⟩
    exact form_body v hn ho b hbl s.2
/-! ### isomorphisms, the law's way -/
def compO (n : Nat) (first o : List Nat) : List Nat := (List.range n).map fun y => cellAt o (first.idxOf y)
def firstG (t : List (List Nat)) (n k : Nat) : List Nat := rowAt (ordK t n k) 0
def isoL (one two : List (List Nat)) (n k k2 : Nat) : List (List Nat) := ((ordK two n k2).filter fun o => decide (ren two o = ren one (firstG one n k))).map (compO n (firstG one n k))
theorem comp_cell {n : Nat} {f o : List Nat} {y : Nat} (h : y < n) : cellAt (compO n f o) y = cellAt o (f.idxOf y) := by
  rw [cellAt_get (by simp [compO]; exact h)]
  simp [compO]
theorem cell_idx {n : Nat} {o : List Nat} (h : PermN n o) {y : Nat} (hy : y < n) : cellAt o (o.idxOf y) = y := by
  have hix := List.idxOf_lt_length_of_mem (h.mem hy)
  rw [cellAt_get hix]
  exact List.getElem_idxOf hix
theorem idx_lt {n : Nat} {o : List Nat} (h : PermN n o) {y : Nat} (hy : y < n) : o.idxOf y < n := by
  have := List.idxOf_lt_length_of_mem (h.mem hy)
  rw [h.len] at this
  exact this
theorem place_gen {n : Nat} {o o2 init : List Nat} (h : PermN n o) (hi : init.length = n) : (List.range n).foldl (fun p k => p.set (cellAt o k) (cellAt o2 k)) init = compO n o o2 := by
  have hl := h.len
  have key : ∀ m, m ≤ n → ((List.range m).foldl (fun p k => p.set (cellAt o k) (cellAt o2 k)) init).length = n ∧ ∀ j, j < m → cellAt ((List.range m).foldl (fun p k => p.set (cellAt o k) (cellAt o2 k)) init) (cellAt o j) = cellAt o2 j := by
    intro m
    induction m with
    | zero => exact fun _ => ⟨hi, fun j hj => absurd hj (Nat.not_lt_zero j)⟩
    | succ m ih =>
      intro hm
      obtain ⟨h1, h2⟩ := ih (by omega)
      rw [List.range_succ, List.foldl_append]
      simp only [List.foldl_cons, List.foldl_nil]
      have hlt : cellAt o m < n := h.fnd.lt _ (cellAt_mem (by omega))
      refine ⟨by rw [List.length_set]; exact h1, fun j hj => ?_⟩
      rw [getD_set (by rw [h1]; exact hlt)]
      by_cases e : cellAt o m = cellAt o j
      · rw [if_pos e, cell_inj h (by omega) (by omega) e]
      · rw [if_neg e]
        refine h2 j ?_
        have : j ≠ m := fun z => e (by rw [z])
        omega
  obtain ⟨h1, h2⟩ := key n (Nat.le_refl n)
  apply List.ext_getElem
  · rw [h1]; simp [compO]
  · intro y hy1 hy2
    have hy : y < n := by rw [h1] at hy1; exact hy1
    have h3 := h2 (o.idxOf y) (idx_lt h hy)
    rw [cell_idx h hy] at h3
    rw [← cellAt_get hy1, ← cellAt_get hy2, h3, comp_cell hy]
theorem first_mem {n k : Nat} {t : List (List Nat)} (hk : Rank t n k) : firstG t n k ∈ ordK t n k := rowAt_mem (List.length_pos_iff.mpr hk.at_)
theorem ev_isoL_no {n n2 : Nat} {one two : List (List Nat)} (v : Valid n one) (v2 : Valid n2 two) (hne : n2 ≠ n) : f_law_isomorphisms [.fz (dLT one), .fz (dLT two)] = .ok (.fz (dTT [])) [] := by
  simp [f_law_isomorphisms, semDef, b_law_isomorphisms, b_law_isomorphisms_0, b_law_isomorphisms_1, rho0, dLT, v.len, v2.len, len_ne, hne]
  rfl
theorem ev_isoL {n : Nat} {one two : List (List Nat)} (v : Valid n one) (v2 : Valid n two) (h0 : 3 ≤ n) (hn : n ≤ 100) {k k2 : Nat} (hk : Rank one n k) (hk2 : Rank two n k2) :
    f_law_isomorphisms [.fz (dLT one), .fz (dLT two)] = .ok (.fz (dTT (sortT (isoL one two n k k2)))) [] := by
  have h1 := ev_enums v (by omega) hn hk
  have h2 := ev_enums v2 (by omega) hn hk2
  have hf := ordK_perm v (by omega) hn (first_mem hk)
  have hbf := ev_by_order v hn hf
  have hl := ordK_len (n := n) (k := k2) two hn hk2.le
  have hat : atI ((ordK one n k).map dL) 0 = some (dL (firstG one n k)) := at_row0 (f := dL) (List.length_pos_iff.mpr hk.at_)
  have hn6 : n ≤ 1000000 := by omega
  have loop := forL_i (tg := gN 6) (body := l_law_isomorphisms_1) (e := dL) (fun (b : List (List Nat)) (s : SV × SV × SV) => [.fz (dLT one), .fz (dLT two), .fz (di n), .fz (dL (firstG one n k)), .fz (dTT (ren one (firstG one n k))), .ow (.lst (b.map dT)), s.1, s.2.1, s.2.2, .no])
    (fun b o => if decide (ren two o = ren one (firstG one n k)) = true then b ++ [compO n (firstG one n k) o] else b) (ordK two n k2) (fun i b => b.length ≤ i) [] (SV.no, SV.no, SV.no) (by simp) ?_
  · obtain ⟨⟨s', k1⟩, k2'⟩ := loop
    rw [foldl_filter_map, List.nil_append] at k1 k2'
    have e1 : ((ordK two n k2).filter fun o => decide (ren two o = ren one (firstG one n k))).map (compO n (firstG one n k)) = isoL one two n k k2 := rfl
    rw [e1] at k1 k2'
    have hs := semSort_T (isoL one two n k k2) (fun x hx => ?_) (by omega)
    · simp only [List.map_nil, dLT] at k1 h1 h2 hbf
      simp [f_law_isomorphisms, semDef, b_law_isomorphisms, b_law_isomorphisms_0, b_law_isomorphisms_1, b_law_isomorphisms_2, b_law_isomorphisms_3, b_law_isomorphisms_4, b_law_isomorphisms_5, rho0, dLT, v.len, v2.len, len_ne, h1, hat, hbf, h2, k1, hs]
      rfl
    · unfold isoL at hx
      obtain ⟨o, _, rfl⟩ := List.mem_map.mp hx
      intro e
      have e2 := congrArg List.length e
      simp [compO] at e2
      omega
  · intro i b s o hi hb
    have hil := (List.getElem?_eq_some_iff.mp hi).1
    have ho := ordK_perm v2 (by omega) hn (List.mem_of_getElem? hi)
    have hbo := ev_by_order v2 hn ho
    have hbl : b.length < 1000000 := by omega
    have hlen2 : (if decide (ren two o = ren one (firstG one n k)) = true then b ++ [compO n (firstG one n k) o] else b).length ≤ i + 1 := by
      split
      · rw [List.length_append, List.length_singleton]; omega
      · omega
    refine ⟨hlen2, ?_⟩
    have h3 : ∀ x5 x7 x8, lcL [9] (gN 9) fYes e_law_isomorphisms_0 ((List.range n).map di) [.fz (dLT one), .fz (dLT two), .fz (di n), .fz (dL (firstG one n k)), .fz (dTT (ren one (firstG one n k))), x5, .fz (dL o), x7, x8, .no] =
        .ok ((List.range n).map fun _ => D.int 0) [.fz (dLT one), .fz (dLT two), .fz (di n), .fz (dL (firstG one n k)), .fz (dTT (ren one (firstG one n k))), x5, .fz (dL o), x7, x8, .no] := fun x5 x7 x8 =>
      lcL_map (List.range n) fun x hx => by simp [e_law_isomorphisms_0]
    have inner := forL_i (tg := gN 8) (body := l_law_isomorphisms_0) (e := di) (fun (p : List Nat) (s8 : SV) => [.fz (dLT one), .fz (dLT two), .fz (di n), .fz (dL (firstG one n k)), .fz (dTT (ren one (firstG one n k))), .ow (.lst (b.map dT)), .fz (dL o), .ow (.lst (p.map di)), s8, .no])
      (fun p k' => p.set (cellAt (firstG one n k) k') (cellAt o k')) (List.range n) (fun _ p => p.length = n) ((List.range n).map fun _ => 0) s.2.2 (by simp) ?_
    · obtain ⟨⟨s8, k1⟩, _⟩ := inner
      rw [place_gen hf (by simp)] at k1
      have e2 : (((List.range n).map fun _ => 0).map di) = (List.range n).map fun _ => D.int 0 := by rw [List.map_map]; rfl
      rw [e2] at k1
      simp only [dLT, dL] at h3 k1 hbo
      by_cases he : ren two o = ren one (firstG one n k)
      · simp [l_law_isomorphisms_1, dLT, dL, hbo, eq_dTT, he, rangeD_nat, rgOk_nat hn6, plainVars, h3, hn6, k1, hbl]
        rfl
      · simp [l_law_isomorphisms_1, dLT, dL, hbo, eq_dTT, he]
    · intro i p s8 k' hi' hp
      have hk' : k' < n := by
        have := List.mem_of_getElem? hi'
        simpa using this
      have hlt : cellAt (firstG one n k) k' < p.length := by rw [hp]; exact hf.fnd.lt _ (cellAt_mem (by rw [hf.len]; exact hk'))
      refine ⟨by rw [List.length_set]; exact hp, ?_⟩
      simp [l_law_isomorphisms_0, dL, at_cell (show k' < (firstG one n k).length by rw [hf.len]; exact hk'), at_cell (show k' < o.length by rw [ho.len]; exact hk'), ixN_nat hlt]
end K74

end
section
set_option Elab.async false
set_option linter.all false
namespace K74
open PySem L2 VI
def stO (s t : Nat) : O := .lst [di s, di t]
theorem mod_nat (a b : Nat) : ((a : Int) % (b : Int)) = ((a % b : Nat) : Int) := rfl
theorem div_nat (a b : Nat) : ((a : Int) / (b : Int)) = ((a / b : Nat) : Int) := rfl
theorem at2_0 (a b : D) : atI [a, b] 0 = some a := rfl
theorem at2_1 (a b : D) : atI [a, b] 1 = some b := rfl
theorem mul_s (a : Int) : semMul (.int a) (.int 48271) = some (.sc (.int (a * 48271))) := by
  have : cMul a 48271 = true := by
    unfold cMul
    rw [Bool.or_eq_true]
    right
    exact decide_eq_true (by decide)
  unfold semMul semA
  simp [this]
theorem take1 (s t m : Nat) (h0 : 0 < m) (h1 : m < 1073741824) (hs : 0 < s) : f_law_take [.io (stO s t), .fz (di m)] = .ok (.fz (di (s % m))) [stO (s / m) t] := by
  have hd := cDiv_nat (s := s) h0 h1
  have i0 : ixN 2 0 = some 0 := rfl
  simp [f_law_take, semDef, b_law_take, b_law_take_0, rho0, stO, at2_0, hs, h0, hd, i0]
theorem take2 (t m : Nat) (h0 : 0 < m) (q : Nat) (hq : ((t : Int) * 48271 + 11) % 2147483647 = (q : Int)) : f_law_take [.io (stO 0 t), .fz (di m)] = .ok (.fz (di (q / 7 % m))) [stO 0 q] := by
  have i1 : ixN 2 1 = some 1 := rfl
  have d0 : di 0 = D.int 0 := rfl
  have hd7 : ∀ a : Int, cDiv a 7 = true := fun a => cDiv_lit a (by decide) (by decide)
  simp [f_law_take, semDef, b_law_take, b_law_take_0, b_law_take_1, b_law_take_2, rho0, stO, at2_0, at2_1, h0, i1, mul_s, hd7, d0, hq]
theorem ev_take (s t m : Nat) (h0 : 0 < m) (h1 : m < 1073741824) : ∃ r s' t', r < m ∧ f_law_take [.io (stO s t), .fz (di m)] = .ok (.fz (di r)) [stO s' t'] := by
  by_cases hs : 0 < s
  · exact ⟨s % m, s / m, t, Nat.mod_lt _ h0, take1 s t m h0 h1 hs⟩
  · have hs0 : s = 0 := by omega
    subst hs0
    obtain ⟨q, hq⟩ : ∃ q : Nat, ((t : Int) * 48271 + 11) % 2147483647 = (q : Int) := ⟨(((t : Int) * 48271 + 11) % 2147483647).toNat, by omega⟩
    exact ⟨q / 7 % m, 0, q, Nat.mod_lt _ h0, take2 t m h0 q hq⟩
end K74

end
section
set_option Elab.async false
set_option linter.all false
namespace VI
open PySem L2
theorem forL_inv {α : Type} {tg : D → Rho → Option Rho} {body : SF} {e : α → D} (xs : List α) : ∀ (P : Nat → Rho → Prop) (ρ : Rho), P 0 ρ →
    (∀ i x ρ, xs[i]? = some x → P i ρ → OkO (tg (e x) ρ) fun ρ1 => OkR (body ρ1) fun k ρ2 => k.go = true ∧ P (i + 1) ρ2) → ∃ ρ', forL tg body (xs.map e) ρ = .ok .nx ρ' ∧ P xs.length ρ' := by
  induction xs with
  | nil => exact fun P ρ h _ => ⟨ρ, rfl, h⟩
  | cons x xs ih =>
    intro P ρ h0 h
    obtain ⟨ρ1, h1, h2⟩ := (h 0 x ρ rfl h0).ex
    obtain ⟨k, ρ2, h2, h3, h4⟩ := h2.ex
    obtain ⟨ρ', h5, h6⟩ := ih (fun i => P (i + 1)) ρ2 h4 fun i y ρ hy => h (i + 1) y ρ (by simpa using hy)
    refine ⟨ρ', ?_, h6⟩
    cases k with
    | nx => simp [forL, h1, h2, h5]
    | ct => simp [forL, h1, h2, h5]
    | bk => cases h3
    | rt r => cases h3
end VI
namespace K74
open PySem L2 VI
theorem mul_c (a : Int) : semMul (.int a) (.int 1000003) = some (.sc (.int (a * 1000003))) := by
  have : cMul a 1000003 = true := by
    unfold cMul
    rw [Bool.or_eq_true]
    right
    exact decide_eq_true (by decide)
  unfold semMul semA
  simp [this]
theorem cut_ints (ns : List Int) (lo hi : Option Int) : ∃ l : List Int, cutD (ns.map D.int) lo hi = l.map D.int := by
  unfold cutD
  rw [← List.map_drop, ← List.map_take]
  exact ⟨_, rfl⟩
theorem ev_state (ns : List Int) : ∃ s t : Nat, f_law_state [.fz (.scr ns)] = .ok (.ow (stO s t)) [] := by
  obtain ⟨l, hl⟩ := cut_ints ns none (some 63)
  have H := forL_inv (tg := gN 3) (body := l_law_state_0) (e := D.int) l (fun _ ρ => ∃ (s t : Nat) (j : SV), ρ = [.fz (.scr ns), .fz (di s), .fz (di t), j]) [.fz (.scr ns), .fz (di 0), .fz (di 1), .no] ⟨0, 1, .no, rfl⟩ ?_
  · obtain ⟨ρ', h1, s, t, j, rfl⟩ := H
    have hsl : semSl (.scr ns) none (some 63) = some (.nl (l.map D.int)) := by
      show (some (PR.nl (cutD (ns.map D.int) none (some 63)))).or _ = _
      rw [hl]; rfl
    have d0 : di 0 = D.int 0 := rfl
    have d1 : di 1 = D.int 1 := rfl
    rw [d0, d1] at h1
    by_cases ht : t = 1973665155
    · refine ⟨s, 7, ?_⟩
      have : semNe (di t) (.int 1973665155) = some (.sc (.bl false)) := by
        rw [show (D.int 1973665155) = di 1973665155 from rfl, len_ne]; simp [ht]
      simp [f_law_state, semDef, b_law_state, b_law_state_0, b_law_state_1, b_law_state_2, b_law_state_3, rho0, eSl, pNo, pE, hsl, h1, this, stO]
    · refine ⟨s, t, ?_⟩
      have : semNe (di t) (.int 1973665155) = some (.sc (.bl true)) := by
        rw [show (D.int 1973665155) = di 1973665155 from rfl, len_ne]; simp [ht]
      simp [f_law_state, semDef, b_law_state, b_law_state_0, b_law_state_1, b_law_state_2, b_law_state_3, rho0, eSl, pNo, pE, hsl, h1, this, stO]
  · rintro i z ρ _ ⟨s, t, j, rfl⟩
    obtain ⟨q, hq⟩ : ∃ q : Nat, ((t : Int) * 48271 + z) % 2147483647 = (q : Int) := ⟨(((t : Int) * 48271 + z) % 2147483647).toNat, by omega⟩
    obtain ⟨p, hp⟩ : ∃ p : Nat, (s : Int) * 1000003 + (if z < 0 then -z else z) = (p : Int) := ⟨((s : Int) * 1000003 + (if z < 0 then -z else z)).toNat, by split <;> omega⟩
    have ha : semAbs [.int z] = some (.sc (.int (if z < 0 then -z else z))) := rfl
    simp [l_law_state_0, mul_c, mul_s, ha, hq]
    exact ⟨⟨p, hp⟩, ⟨q, rfl⟩⟩
theorem ev_order_of (n s t : Nat) (hn : n ≤ 100) : ∃ s' t' o, PermN n o ∧ f_law_order_of [.io (stO s t), .fz (di n)] = .ok (.ow (.lst (o.map di))) [stO s' t'] := by
  have H := forL_inv (tg := gN 4) (body := l_law_order_of_0) (e := di) (List.range n) (fun i ρ => ∃ (s t : Nat) (left o : List Nat) (j : SV), ρ = [.io (stO s t), .fz (di n), .ow (.lst (left.map di)), .ow (.lst (o.map di)), j] ∧ left.length + i = n ∧ (left ++ o).Perm (List.range n))
    [.io (stO s t), .fz (di n), .ow (.lst ((List.range n).map di)), .ow (.lst []), .no] ⟨s, t, List.range n, [], .no, rfl, by simp, by simp⟩ ?_
  · obtain ⟨ρ', h1, s', t', left, o, j, rfl, hl, hp⟩ := H
    have hl0 : left = [] := by
      simp only [List.length_range] at hl
      exact List.length_eq_zero_iff.mp (by omega)
    subst hl0
    have hp : o.Perm (List.range n) := by simpa using hp
    refine ⟨s', t', o, ⟨⟨hp.nodup_iff.mpr List.nodup_range, fun x hx => by simpa using hp.mem_iff.mp hx⟩, by have := hp.length_eq; simpa using this⟩, ?_⟩
    have hr := rgOk_nat (n := n) (by omega)
    simp [f_law_order_of, semDef, b_law_order_of, b_law_order_of_0, b_law_order_of_1, b_law_order_of_2, b_law_order_of_3, rho0, eLRg1, rangeD_nat, hr, h1]
  · rintro i k ρ hi ⟨s, t, left, o, j, rfl, hl, hp⟩
    have hil : i < n := by
      have := (List.getElem?_eq_some_iff.mp hi).1
      simpa using this
    obtain ⟨r, s', t', hr, ht⟩ := ev_take s t left.length (by omega) (by omega)
    have hol : o.length < 1000000 := by
      have := hp.length_eq
      simp at this
      omega
    have hr2 : (r : Int) ≤ 1000000 := by omega
    have hg : left[r]? = some left[r] := List.getElem?_eq_getElem hr
    have he : (left.map di).eraseIdx r = (left.eraseIdx r).map di := by
      rw [List.eraseIdx_eq_take_drop_succ, List.eraseIdx_eq_take_drop_succ, List.map_append, List.map_take, List.map_drop]
    have ha : o.map di ++ [di left[r]] = (o ++ [left[r]]).map di := by simp
    have hfin : (left.eraseIdx r).length + (i + 1) = n ∧ (left.eraseIdx r ++ (o ++ [left[r]])).Perm (List.range n) := by
      refine ⟨by rw [List.length_eraseIdx_of_lt hr]; omega, ?_⟩
      refine List.Perm.trans ?_ hp
      have h1 : (left[r] :: left.eraseIdx r).Perm left := by
        rw [List.eraseIdx_eq_take_drop_succ]
        have := (List.perm_middle (a := left[r]) (l₁ := left.take r) (l₂ := left.drop (r + 1))).symm
        rw [← List.drop_eq_getElem_cons hr, List.take_append_drop] at this
        exact this
      have h2 : (left.eraseIdx r ++ (o ++ [left[r]])).Perm (left[r] :: left.eraseIdx r ++ o) := by
        rw [← List.append_assoc]
        exact List.perm_append_comm.trans (by simp)
      exact h2.trans (h1.append_right o)
    simp [l_law_order_of_0, ht, hr2, hg, hol, he]
    refine ⟨s', t', left.eraseIdx r, o ++ [left[r]], by simp, hfin.1, ?_⟩
    simpa using hfin.2
end K74

end
section
set_option Elab.async false
set_option linter.all false
namespace K74
open PySem L2 VI
theorem ev_inner (n s t : Nat) (h0 : 0 < n) (hn : n ≤ 100) : ∃ s' t' o, PermN n o ∧ cellAt o 0 = 0 ∧ f_law_inner_order [.io (stO s t), .fz (di n)] = .ok (.ow (.lst (o.map di))) [stO s' t'] := by
  obtain ⟨s', t', o, ho, he⟩ := ev_order_of (n - 1) s t (by omega)
  have hl := ho.len
  refine ⟨s', t', 0 :: o.map (1 + ·), ⟨⟨?_, ?_⟩, by simp; omega⟩, rfl, ?_⟩
  · rw [List.nodup_cons]
    refine ⟨fun h => ?_, ?_⟩
    · obtain ⟨x, _, e⟩ := List.mem_map.mp h
      omega
    · rw [List.Nodup, List.pairwise_map]
      exact ho.fnd.nd.imp fun h e => h (by omega)
  · intro x hx
    rcases List.mem_cons.mp hx with rfl | hx
    · omega
    · obtain ⟨y, hy, rfl⟩ := List.mem_map.mp hx
      have := ho.fnd.lt y hy
      show 1 + y < n
      omega
  · have hlc : lcL [2] (gN 2) fYes e_law_inner_order_0 (o.map di) [.io (stO s' t'), .fz (di n), .no] = .ok (o.map fun x => di (1 + x)) [.io (stO s' t'), .fz (di n), .no] := by
      refine lcL_map o fun x hx => ?_
      simp [e_law_inner_order_0]
    have hd : (D.int ((n : Int) - 1)) = di (n - 1) := by
      have : (n : Int) - 1 = ((n - 1 : Nat) : Int) := by omega
      rw [this]
    have hol : o.length ≤ 1000000 := by omega
    have h1 : 1 + o.length ≤ 1000000 := by omega
    simp [f_law_inner_order, semDef, b_law_inner_order, b_law_inner_order_0, rho0, hd, he, plainVars, hlc, hol, h1]
/-- the table found, row by row -/
theorem s_o2 {ρ : Rho} {i : Nat} {dss : List (List D)} (h : ρ[i]? = some (.ow (.l2 dss))) : ρ.o2 i = some dss := by simp only [Rho.o2, Rho.own, h, Option.bind_some, SV.own?]
theorem tg_set {n : Nat} {f : List (List Nat)} (v : Valid n f) {a b w x y : Nat} (ha : a < n) (hb : b < n) (hx : x < n) (hy : y < n) : tg (f.set a ((rowAt f a).set b w)) x y = if a = x ∧ b = y then w else tg f x y := by
  unfold tg
  have h1 : rowAt (f.set a ((rowAt f a).set b w)) x = if a = x then (rowAt f a).set b w else rowAt f x := by
    unfold rowAt
    by_cases e : a = x
    · subst e; simp [v.len, ha]
    · simp [List.getElem?_set_ne e, e]
  rw [h1]
  by_cases e : a = x
  · subst e
    rw [if_pos rfl, getD_set (by rw [v.rl ha]; exact hb)]
    by_cases e2 : b = y <;> simp [e2]
  · simp [e]
theorem valid_set {n : Nat} {f : List (List Nat)} (v : Valid n f) {a b w : Nat} (ha : a < n) (hw : w < n) : Valid n (f.set a ((rowAt f a).set b w)) := by
  refine ⟨by rw [List.length_set]; exact v.len, fun r hr => ?_, fun r hr x hx => ?_⟩
  · rcases List.mem_or_eq_of_mem_set hr with hr | rfl
    · exact v.row r hr
    · rw [List.length_set]; exact v.rl ha
  · rcases List.mem_or_eq_of_mem_set hr with hr | rfl
    · exact v.lt r hr x hx
    · rcases List.mem_or_eq_of_mem_set hx with hx | rfl
      · exact v.lt _ (rowAt_mem (by rw [v.len]; exact ha)) x hx
      · exact hw
theorem ev_law_renamed {n : Nat} {t : List (List Nat)} (v : Valid n t) (h0 : 0 < n) (hn : n ≤ 100) {o : List Nat} (ho : PermN n o) : ∃ t', Valid n t' ∧ (∀ x y, x < n → y < n → tg t' (cellAt o x) (cellAt o y) = cellAt o (tg t x y)) ∧
    f_law_renamed [.fz (dLT t), .fz (dL o)] = .ok (.ow (.lst (t'.map dT))) [] := by
  have hl := ho.len
  have hn6 : n ≤ 1000000 := by omega
  have cell_lt : ∀ {x}, x < n → cellAt o x < n := fun {x} hx => ho.fnd.lt _ (cellAt_mem (by omega))
  -- the rows of noughts
  have z1 : ∀ x, lcL [5] (gN 5) fYes e_law_renamed_0 ((List.range n).map di) [.fz (dLT t), .fz (dL o), .fz (di n), .no, x, .no, .no] = .ok ((List.range n).map fun _ => D.int 0) [.fz (dLT t), .fz (dL o), .fz (di n), .no, x, .no, .no] := fun x => by
    exact lcL_map (List.range n) fun y hy => by simp [e_law_renamed_0]
  let zs : List (List Nat) := (List.range n).map fun _ => (List.range n).map fun _ => 0
  have z2 : eLcR [4] (iR1 (oN 2)) (gN 4) (fYes) (e_law_renamed_1) [.fz (dLT t), .fz (dL o), .fz (di n), .no, .no, .no, .no] = .ok (.ow (.l2 (zs.map fun r => r.map di))) [.fz (dLT t), .fz (dL o), .fz (di n), .no, .no, .no, .no] := by
    have he : ∀ x, e_law_renamed_1 [.fz (dLT t), .fz (dL o), .fz (di n), .no, .fz (di x), .no, .no] = .ok (.ow (.lst ((List.range n).map fun _ => D.int 0))) [.fz (dLT t), .fz (dL o), .fz (di n), .no, .fz (di x), .no, .no] := fun x => by
      simp [e_law_renamed_1, rangeD_nat, rgOk_nat hn6, plainVars, z1, hn6]
    have key : ∀ l : List Nat, lcR [4] (gN 4) fYes e_law_renamed_1 (l.map di) [.fz (dLT t), .fz (dL o), .fz (di n), .no, .no, .no, .no] = .ok (l.map fun _ => (List.range n).map fun _ => D.int 0) [.fz (dLT t), .fz (dL o), .fz (di n), .no, .no, .no, .no] := fun l => by
      induction l with
      | nil => rfl
      | cons x l ih => simp [lcR, he, ih]
    have e : (zs.map fun r => r.map di) = (List.range n).map fun _ => (List.range n).map fun _ => D.int 0 := by
      simp only [zs, List.map_map, Function.comp_def]; rfl
    rw [e]
    simp [eLcR, rangeD_nat, rgOk_nat hn6, plainVars, key, hn6]
  have vz : Valid n zs := by
    refine ⟨by simp [zs], fun r hr => ?_, fun r hr x hx => ?_⟩
    · obtain ⟨_, _, rfl⟩ := List.mem_map.mp hr; simp
    · obtain ⟨_, _, rfl⟩ := List.mem_map.mp hr
      obtain ⟨_, _, rfl⟩ := List.mem_map.mp hx
      exact h0
  -- the loops
  have inner : ∀ (a : Nat) (f : List (List Nat)) (j5 : SV), a < n → Valid n f → (∀ x y, x < a → y < n → tg f (cellAt o x) (cellAt o y) = cellAt o (tg t x y)) →
      ∃ ρ', forL (gN 5) l_law_renamed_0 ((List.range n).map di) [.fz (dLT t), .fz (dL o), .fz (di n), .ow (.l2 (f.map fun r => r.map di)), .fz (di a), j5, .no] = .ok .nx ρ' ∧
        ∃ f' j5', ρ' = [.fz (dLT t), .fz (dL o), .fz (di n), .ow (.l2 (f'.map fun r => r.map di)), .fz (di a), j5', .no] ∧ Valid n f' ∧ ∀ x y, x < a + 1 → y < n → tg f' (cellAt o x) (cellAt o y) = cellAt o (tg t x y) := by
    intro a f j5 ha vf hf
    have H := forL_inv (tg := gN 5) (body := l_law_renamed_0) (e := di) (List.range n) (fun b ρ => ∃ f' j5', ρ = [.fz (dLT t), .fz (dL o), .fz (di n), .ow (.l2 (f'.map fun r => r.map di)), .fz (di a), j5', .no] ∧ Valid n f' ∧ ∀ x y, (x < a ∧ y < n) ∨ (x = a ∧ y < b) → tg f' (cellAt o x) (cellAt o y) = cellAt o (tg t x y))
      [.fz (dLT t), .fz (dL o), .fz (di n), .ow (.l2 (f.map fun r => r.map di)), .fz (di a), j5, .no] ⟨f, j5, rfl, vf, fun x y h => ?_⟩ ?_
    · obtain ⟨ρ', h1, f', j5', rfl, vf', h2⟩ := H
      refine ⟨_, h1, f', j5', rfl, vf', fun x y hx hy => h2 x y ?_⟩
      rcases Nat.lt_or_ge x a with h | h
      · exact .inl ⟨h, hy⟩
      · exact .inr ⟨by omega, by simpa using hy⟩
    · rcases h with h | h
      · exact hf x y h.1 h.2
      · exact absurd h.2 (Nat.not_lt_zero _)
    · rintro i b ρ hi ⟨f', j5', rfl, vf', h2⟩
      have hib : b = i := by
        rw [List.getElem?_range (by have := (List.getElem?_eq_some_iff.mp hi).1; simpa using this)] at hi
        exact (Option.some.inj hi).symm
      subst hib
      have hb : b < n := by
        have := (List.getElem?_eq_some_iff.mp hi).1
        simpa using this
      have hw := v.tlt ha hb
      have q1 := at_cell (show a < o.length by omega)
      have q2 := at_cell (show b < o.length by omega)
      have q3 := at_cell (show tg t a b < o.length by omega)
      have q4 := at_row (f := dT) (show a < t.length by rw [v.len]; exact ha)
      have q5 := at_cell (show b < (rowAt t a).length by rw [v.rl ha]; exact hb)
      have q6 : cellAt (rowAt t a) b = tg t a b := rfl
      have c1 := cell_lt ha
      have c2 := cell_lt hb
      have c3 := cell_lt hw
      have r1 : ixN f'.length (cellAt o a : Int) = some (cellAt o a) := ixN_nat (by rw [vf'.len]; exact c1)
      have r2 : f'[cellAt o a]? = some (rowAt f' (cellAt o a)) := by
        unfold rowAt; simp [vf'.len, c1]
      have r3 : ixN (rowAt f' (cellAt o a)).length (cellAt o b : Int) = some (cellAt o b) := ixN_nat (by rw [vf'.rl c1]; exact c2)
      have r4 : ((f'.map fun r => r.map di).set (cellAt o a) (((rowAt f' (cellAt o a)).map di).set (cellAt o b) (di (cellAt o (tg t a b))))) = (f'.set (cellAt o a) ((rowAt f' (cellAt o a)).set (cellAt o b) (cellAt o (tg t a b)))).map fun r => r.map di := by
        rw [List.map_set, List.map_set]
      have hP : ∃ f'' j5', [SV.fz (dLT t), .fz (dL o), .fz (di n), .ow (.l2 ((f'.set (cellAt o a) ((rowAt f' (cellAt o a)).set (cellAt o b) (cellAt o (tg t a b)))).map fun r => r.map di)), .fz (di a), .fz (di b), .no] = [.fz (dLT t), .fz (dL o), .fz (di n), .ow (.l2 (f''.map fun r => r.map di)), .fz (di a), j5', .no] ∧ Valid n f'' ∧ ∀ x y, (x < a ∧ y < n) ∨ (x = a ∧ y < b + 1) → tg f'' (cellAt o x) (cellAt o y) = cellAt o (tg t x y) := by
        refine ⟨_, _, rfl, valid_set vf' c1 c3, fun x y h => ?_⟩
        have hx : x < n := by omega
        have hy : y < n := by omega
        rw [tg_set vf' c1 c2 (cell_lt hx) (cell_lt hy)]
        split
        · rename_i e
          rw [cell_inj ho ha hx e.1, cell_inj ho hb hy e.2]
        · rename_i e
          refine h2 x y ?_
          rcases h with h | h
          · exact .inl h
          · refine .inr ⟨h.1, ?_⟩
            have : y ≠ b := fun z => e ⟨by rw [h.1], by rw [z]⟩
            omega
      simp only [dT] at q4
      simp only [dLT, dL] at hP ⊢
      simp [l_law_renamed_0, sSetIx2, s_o2, q1, q2, q3, q4, q5, q6, r1, r2, r3]
      simpa using hP
  have H := forL_inv (tg := gN 4) (body := l_law_renamed_1) (e := di) (List.range n) (fun a ρ => ∃ f j4 j5, ρ = [.fz (dLT t), .fz (dL o), .fz (di n), .ow (.l2 (f.map fun r => r.map di)), j4, j5, .no] ∧ Valid n f ∧ ∀ x y, x < a → y < n → tg f (cellAt o x) (cellAt o y) = cellAt o (tg t x y))
    [.fz (dLT t), .fz (dL o), .fz (di n), .ow (.l2 (zs.map fun r => r.map di)), .no, .no, .no] ⟨zs, .no, .no, rfl, vz, fun x y h => absurd h (Nat.not_lt_zero _)⟩ ?_
  · obtain ⟨ρ', h1, f, j4, j5, rfl, vf, h2⟩ := H
    refine ⟨f, vf, fun x y hx hy => h2 x y (by simpa using hx) hy, ?_⟩
    have h3 : lcL [6] (gN 6) fYes e_law_renamed_2 (f.map fun r => .lst (r.map di)) [.fz (dLT t), .fz (dL o), .fz (di n), .fz (.lst (f.map fun r => .lst (r.map di))), j4, j5, .no] = .ok (f.map dT) [.fz (dLT t), .fz (dL o), .fz (di n), .fz (.lst (f.map fun r => .lst (r.map di))), j4, j5, .no] :=
      lcL_map f fun r hr => by simp [e_law_renamed_2, dT]
    have hfl : f.length ≤ 1000000 := by rw [vf.len]; exact hn6
    have e0 : semLenA [dLT t] = some (.sc (di n)) := by unfold dLT; simp [v.len]
    have e1 : (f.map fun r => r.map di).map D.lst = f.map fun r => .lst (r.map di) := by rw [List.map_map]; rfl
    simp [f_law_renamed, semDef, b_law_renamed, b_law_renamed_0, b_law_renamed_1, b_law_renamed_2, b_law_renamed_3, rho0, e0, z2, rangeD_nat, rgOk_nat hn6, h1, Function.comp_def, plainVars, h3, hfl]
  · rintro i a ρ hi ⟨f, j4, j5, rfl, vf, h2⟩
    have hia : a = i := by
      rw [List.getElem?_range (by have := (List.getElem?_eq_some_iff.mp hi).1; simpa using this)] at hi
      exact (Option.some.inj hi).symm
    subst hia
    have ha : a < n := by
      have := (List.getElem?_eq_some_iff.mp hi).1
      simpa using this
    obtain ⟨ρ', k1, f', j5', rfl, vf', k2⟩ := inner a f j5 ha vf h2
    simp [l_law_renamed_1, rangeD_nat, rgOk_nat hn6, k1]
    exact ⟨f', rfl, vf', k2⟩
end K74

end
section
set_option Elab.async false
set_option linter.all false
namespace K74
open PySem L2 VI
/-- a group, its unit u -/
structure Grp (n : Nat) (t : List (List Nat)) (u : Nat) : Prop where
  v : Valid n t
  un : u < n
  ul : ∀ x, x < n → tg t u x = x
  ur : ∀ x, x < n → tg t x u = x
  iv : ∀ x, x < n → ∃ y, y < n ∧ tg t x y = u
  as : ∀ x y z, x < n → y < n → z < n → tg t (tg t x y) z = tg t x (tg t y z)
theorem Grp.lc {n : Nat} {t : List (List Nat)} {u : Nat} (G : Grp n t u) {x y z : Nat} (hx : x < n) (hy : y < n) (hz : z < n) (e : tg t x y = tg t x z) : y = z := by
  -- a left inverse of x
  obtain ⟨a, ha, e1⟩ := G.iv x hx
  obtain ⟨b, hb, e2⟩ := G.iv a ha
  have hxb : x = b := by
    have h1 := G.as x a b hx ha hb
    rw [e1, e2, G.ul b hb, G.ur x hx] at h1
    exact h1.symm
  subst hxb
  have h1 := G.as a x y ha hx hy
  have h2 := G.as a x z ha hx hz
  rw [e2, G.ul y hy] at h1
  rw [e2, G.ul z hz] at h2
  rw [h1, h2, e]
theorem Grp.rc {n : Nat} {t : List (List Nat)} {u : Nat} (G : Grp n t u) {x y z : Nat} (hx : x < n) (hy : y < n) (hz : z < n) (e : tg t y x = tg t z x) : y = z := by
  obtain ⟨a, ha, e1⟩ := G.iv x hx
  have h1 := G.as y x a hy hx ha
  have h2 := G.as z x a hz hx ha
  rw [e1, G.ur y hy] at h1
  rw [e1, G.ur z hz] at h2
  rw [← h1, ← h2, e]
theorem Grp.idem {n : Nat} {t : List (List Nat)} {u : Nat} (G : Grp n t u) {x : Nat} (hx : x < n) (e : tg t x x = x) : x = u :=
  G.lc hx hx G.un (by rw [e, G.ur x hx])
/-- an isomorphism -/
structure Iso (n : Nat) (s t : List (List Nat)) (p : List Nat) : Prop where
  perm : PermN n p
  hom : ∀ x y, x < n → y < n → cellAt p (tg s x y) = tg t (cellAt p x) (cellAt p y)
theorem PermN.lt {n : Nat} {p : List Nat} (h : PermN n p) {x : Nat} (hx : x < n) : cellAt p x < n := h.fnd.lt _ (cellAt_mem (by rw [h.len]; exact hx))
theorem PermN.onto {n : Nat} {p : List Nat} (h : PermN n p) {y : Nat} (hy : y < n) : ∃ x, x < n ∧ cellAt p x = y := ⟨p.idxOf y, idx_lt h hy, cell_idx h hy⟩
theorem Grp.iso {n : Nat} {s t : List (List Nat)} {p : List Nat} {u : Nat} (G : Grp n s u) (vt : Valid n t) (I : Iso n s t p) : Grp n t (cellAt p u) := by
  have P := I.perm
  refine ⟨vt, P.lt G.un, fun x hx => ?_, fun x hx => ?_, fun x hx => ?_, fun x y z hx hy hz => ?_⟩
  · obtain ⟨a, ha, rfl⟩ := P.onto hx
    rw [← I.hom _ _ G.un ha, G.ul a ha]
  · obtain ⟨a, ha, rfl⟩ := P.onto hx
    rw [← I.hom _ _ ha G.un, G.ur a ha]
  · obtain ⟨a, ha, rfl⟩ := P.onto hx
    obtain ⟨b, hb, e⟩ := G.iv a ha
    exact ⟨cellAt p b, P.lt hb, by rw [← I.hom _ _ ha hb, e]⟩
  · obtain ⟨a, ha, rfl⟩ := P.onto hx
    obtain ⟨b, hb, rfl⟩ := P.onto hy
    obtain ⟨c, hc, rfl⟩ := P.onto hz
    rw [← I.hom _ _ ha hb, ← I.hom _ _ (G.v.tlt ha hb) hc, ← I.hom _ _ hb hc, ← I.hom _ _ ha (G.v.tlt hb hc), G.as a b c ha hb hc]
theorem ev_shuffled {n s t : Nat} {T : List (List Nat)} {u : Nat} (G : Grp n T u) (hn : n ≤ 100) : ∃ s' t' T' p, Valid n T' ∧ Iso n T T' p ∧ cellAt p u = 0 ∧
    f_law_shuffled [.io (stO s t), .fz (dLT T)] = .ok (.ow (.lst (T'.map dT))) [stO s' t'] := by
  have h0 : 0 < n := by have := G.un; omega
  have hn6 : n ≤ 1000000 := by omega
  obtain ⟨s', t', o, ho, ho0, he⟩ := ev_inner n s t h0 hn
  have hl := ho.len
  have hu := G.un
  -- the order with the unit's place put first
  let o2 := (o.set 0 (cellAt o u)).set u (cellAt o 0)
  have c2 : ∀ x, x < n → cellAt o2 x = if u = x then 0 else if x = 0 then cellAt o u else cellAt o x := fun x hx => by
    show cellAt ((o.set 0 (cellAt o u)).set u (cellAt o 0)) x = _
    rw [getD_set (by rw [List.length_set]; omega), getD_set (by omega), ho0]
    by_cases e : u = x
    · simp [e]
    · by_cases e2 : 0 = x
      · subst e2; simp [e]
      · have : ¬ x = 0 := fun z => e2 z.symm
        simp [e, e2, this]
  have P2 : PermN n o2 := by
    have hlen : o2.length = n := by simp [o2, hl]
    refine ⟨⟨?_, fun x hx => ?_⟩, hlen⟩
    · rw [List.Nodup, List.pairwise_iff_getElem]
      intro i j hi hj hij e
      have hj' : j < n := by rw [hlen] at hj; exact hj
      rw [← cellAt_get hi, ← cellAt_get hj, c2 i (by omega), c2 j hj'] at e
      have inj := fun {a b : Nat} (ha : a < n) (hb : b < n) => cell_inj ho ha hb
      by_cases e1 : u = i
      · have e1' : ¬ u = j := by omega
        rw [if_pos e1, if_neg e1'] at e
        by_cases e3 : j = 0
        · omega
        · rw [if_neg e3] at e
          have := inj h0 hj' (by rw [ho0]; exact e)
          omega
      · rw [if_neg e1] at e
        by_cases e2 : u = j
        · rw [if_pos e2] at e
          by_cases e3 : i = 0
          · rw [if_pos e3] at e
            have := inj hu h0 (by rw [ho0]; exact e)
            omega
          · rw [if_neg e3] at e
            have := inj (show i < n by omega) h0 (by rw [ho0]; exact e)
            omega
        · rw [if_neg e2] at e
          by_cases e3 : i = 0
          · have e4 : ¬ j = 0 := by omega
            rw [if_pos e3, if_neg e4] at e
            exact e2 (inj hu hj' e)
          · have e4 : ¬ j = 0 := by omega
            rw [if_neg e3, if_neg e4] at e
            have := inj (show i < n by omega) hj' e
            omega
    · obtain ⟨i, hi, rfl⟩ := List.mem_iff_getElem.mp hx
      have hi' : i < n := by rw [hlen] at hi; exact hi
      rw [← cellAt_get hi, c2 i hi']
      split
      · exact h0
      · split
        · exact ho.lt hu
        · exact ho.lt hi'
  obtain ⟨T', vT, hT, hr⟩ := ev_law_renamed G.v h0 hn P2
  refine ⟨s', t', T', o2, vT, ⟨P2, fun x y hx hy => (hT x y hx hy).symm⟩, by rw [c2 u hu, if_pos rfl], ?_⟩
  -- the unit found
  have hfl : lcL [4] (gN 4) t_law_shuffled_0 e_law_shuffled_0 ((List.range n).map di) [.io (stO s t), .fz (dLT T), .fz (di n), .no, .no, .no, .no] = .ok (((List.range n).filter fun x => decide (tg T x x = x)).map di) [.io (stO s t), .fz (dLT T), .fz (di n), .no, .no, .no, .no] := by
    refine lcL_filter (List.range n) fun x hx => ?_
    have hx : x < n := by simpa using hx
    have q4 := at_row (f := dT) (show x < T.length by rw [G.v.len]; exact hx)
    have q5 := at_cell (show x < (rowAt T x).length by rw [G.v.rl hx]; exact hx)
    have q6 : cellAt (rowAt T x) x = tg T x x := rfl
    simp only [dT] at q4
    simp [t_law_shuffled_0, e_law_shuffled_0, dLT, q4, q5, q6, len_eq]
  have hmem : ∀ x ∈ (List.range n).filter (fun x => decide (tg T x x = x)), x = u := fun x hx => by
    obtain ⟨h1, h2⟩ := List.mem_filter.mp hx
    exact G.idem (by simpa using h1) (by simpa using h2)
  have hne : 0 < ((List.range n).filter fun x => decide (tg T x x = x)).length := by
    refine List.length_pos_iff.mpr fun e => ?_
    have : u ∈ (List.range n).filter fun x => decide (tg T x x = x) := List.mem_filter.mpr ⟨by simpa using hu, by simpa using G.ul u hu⟩
    rw [e] at this; cases this
  have hat := at_cell0 hne
  rw [hmem _ (cellAt_mem hne)] at hat
  have hfle : ((List.range n).filter fun x => decide (tg T x x = x)).length ≤ 1000000 := by
    refine Nat.le_trans (List.length_filter_le _ _) ?_
    simp; omega
  have e0 : semLenA [dLT T] = some (.sc (di n)) := by unfold dLT; simp [G.v.len]
  have m0 : 0 ∈ o := ho.mem h0
  have i0 : o.idxOf 0 = 0 := by
    have h1 := cell_idx ho h0
    exact cell_inj ho (idx_lt ho h0) h0 (by rw [h1, ho0])
  have hix := semIndexL_F eqf_di lef_di 0 o m0
  rw [i0] at hix
  have d0 : di 0 = D.int 0 := rfl
  rw [d0] at hix
  have g1 := at_cell (show u < o.length by omega)
  have g2 := at_cell0 (show 0 < o.length by omega)
  rw [ho0] at g2
  have ix0 : ixN o.length 0 = some 0 := ixN_nat (i := 0) (by omega)
  have ixu : ixN o.length (u : Int) = some u := ixN_nat (by omega)
  have hr2 : f_law_renamed [.fz (dLT T), .fz (.lst (((o.map di).set 0 (di (cellAt o u))).set u (.int 0)))] = .ok (.ow (.lst (T'.map dT))) [] := by
    have : ((o.map di).set 0 (di (cellAt o u))).set u (.int 0) = o2.map di := by
      simp only [o2, ho0]
      rw [List.map_set, List.map_set]
      rfl
    rw [this]; exact hr
  simp [f_law_shuffled, semDef, b_law_shuffled, b_law_shuffled_0, b_law_shuffled_1, b_law_shuffled_2, b_law_shuffled_3, b_law_shuffled_4, b_law_shuffled_5, rho0, e0, rangeD_nat, rgOk_nat hn6, plainVars, hfl, hfle, hat, he, hix, g1, g2, d0, gTp, gsCons, gsNil, gIx, ix0, ixu, hr2]
end K74

end
section
set_option Elab.async false
set_option linter.all false
namespace K74
open PySem L2 VI
theorem cell_map {f : Nat → Nat} {l : List Nat} {z : Nat} (h : z < l.length) : cellAt (l.map f) z = f (cellAt l z) := by
  rw [cellAt_get (by simpa using h), cellAt_get h]; simp
theorem cell_range {n z : Nat} (h : z < n) : cellAt (List.range n) z = z := by
  rw [cellAt_get (by simpa using h)]; simp
theorem list_ext {a b : List Nat} {n : Nat} (ha : a.length = n) (hb : b.length = n) (h : ∀ z, z < n → cellAt a z = cellAt b z) : a = b := by
  apply List.ext_getElem (by rw [ha, hb])
  intro z h1 h2
  rw [← cellAt_get h1, ← cellAt_get h2]
  exact h z (by omega)
theorem Grp.true {n : Nat} {t : List (List Nat)} (G : Grp n t 0) : grpB t = true := by
  have hl := G.v.len
  unfold grpB
  rw [Bool.and_eq_true]
  constructor
  · rw [List.all_eq_true]
    intro x hx
    have hx : x < n := by rw [hl] at hx; simpa using hx
    unfold uniR
    obtain ⟨y, hy, e⟩ := G.iv x hx
    have hm : 0 ∈ rowAt t x := by rw [← e]; exact cellAt_mem (by rw [G.v.rl hx]; exact hy)
    simp [G.ul x hx, G.ur x hx, hm]
  · unfold ascB
    rw [List.all_eq_true]
    intro row hrow
    obtain ⟨x, hx, rfl⟩ := rowAt_of hrow
    rw [hl] at hx
    rw [List.all_eq_true]
    intro y hy
    have hy : y < n := by rw [hl] at hy; simpa using hy
    unfold ascR
    refine decide_eq_true (list_ext (n := n) (by simp [hl]) (by simp [G.v.rl hy]) fun z hz => ?_)
    rw [cell_map (by simp [hl]; exact hz), cell_map (by rw [G.v.rl hy]; exact hz), cell_range (by rw [hl]; exact hz)]
    exact G.as x y z hx hy hz
theorem grp_of {n : Nat} {t : List (List Nat)} (v : Valid n t) (h0 : 0 < n) (h : grpB t = true) : Grp n t 0 := by
  have hl := v.len
  unfold grpB at h
  rw [Bool.and_eq_true] at h
  obtain ⟨h1, h2⟩ := h
  have u := fun x (hx : x < n) => (by
    have := List.all_eq_true.mp h1 x (by rw [hl]; simpa using hx)
    simpa [uniR, and_assoc] using this : tg t 0 x = x ∧ tg t x 0 = x ∧ 0 ∈ rowAt t x)
  refine ⟨v, h0, fun x hx => (u x hx).1, fun x hx => (u x hx).2.1, fun x hx => ?_, fun x y z hx hy hz => ?_⟩
  · have hm := (u x hx).2.2
    obtain ⟨i, hi, e⟩ := List.mem_iff_getElem.mp hm
    refine ⟨i, by rw [v.rl hx] at hi; exact hi, ?_⟩
    show cellAt (rowAt t x) i = 0
    rw [cellAt_get hi]; exact e
  · have h3 := List.all_eq_true.mp h2 (rowAt t x) (rowAt_mem (by rw [hl]; exact hx))
    have h4 := List.all_eq_true.mp h3 y (by rw [hl]; simpa using hy)
    unfold ascR at h4
    have h4 := of_decide_eq_true h4
    have h5 : cellAt ((List.range t.length).map (tg t (cellAt (rowAt t x) y))) z = cellAt ((rowAt t y).map (cellAt (rowAt t x))) z := congrArg (fun l => cellAt l z) h4
    rw [cell_map (by simp [hl]; exact hz), cell_map (by rw [v.rl hy]; exact hz), cell_range (by rw [hl]; exact hz)] at h5
    exact h5
/-- one entry changed: no group -/
theorem no_change {n : Nat} {t : List (List Nat)} (G : Grp n t 0) {x y w : Nat} (hx : x < n) (hy : y < n) (hw : w < n) (hne : w ≠ tg t x y) : grpB (t.set x ((rowAt t x).set y w)) = false := by
  have h0 := G.un
  cases h : grpB (t.set x ((rowAt t x).set y w)) with
  | false => rfl
  | true =>
    exfalso
    have v' := valid_set (b := y) G.v hx hw
    have G' := grp_of v' h0 h
    have key := fun {a b : Nat} (ha : a < n) (hb : b < n) => tg_set (w := w) G.v hx hy ha hb
    -- w stands in the row elsewhere
    obtain ⟨a, ha, e1⟩ := G.iv x hx
    -- z with tg x z = w
    have hz : tg t x (tg t a w) = w := by rw [← G.as x a w hx ha hw, e1, G.ul w hw]
    have hzn := G.v.tlt ha hw
    have hzy : tg t a w ≠ y := fun z => hne (by rw [← hz, z])
    have e2 : tg (t.set x ((rowAt t x).set y w)) x y = w := by rw [key hx hy, if_pos ⟨rfl, rfl⟩]
    have e3 : tg (t.set x ((rowAt t x).set y w)) x (tg t a w) = w := by rw [key hx hzn, if_neg fun z => hzy z.2.symm]; exact hz
    exact hzy (G'.lc hx hzn hy (by rw [e2, e3]))
/-- two entries of a row exchanged: no group -/
theorem no_swap {n : Nat} {t t' : List (List Nat)} (G : Grp n t 0) (v' : Valid n t') {x y z : Nat} (hx : x < n) (hy : y < n) (hz : z < n) (hyz : y ≠ z) (h1 : tg t' x y = tg t x z) (h2 : ∀ a b, a < n → b < n → a ≠ x → tg t' a b = tg t a b) : grpB t' = false := by
  have h0 := G.un
  cases h : grpB t' with
  | false => rfl
  | true =>
    exfalso
    have G' := grp_of v' h0 h
    have hw := G.v.tlt hx hz
    -- a with tg a y = tg x z
    obtain ⟨b, hb, e1⟩ := G.iv y hy
    obtain ⟨c, hc, e2⟩ := G.iv b hb
    have hyc : y = c := by
      have h1 := G.as y b c hy hb hc
      rw [e1, e2, G.ul c hc, G.ur y hy] at h1
      exact h1.symm
    subst hyc
    have ha := G.v.tlt hw hb
    have e3 : tg t (tg t (tg t x z) b) y = tg t x z := by rw [G.as _ b y hw hb hy, e2, G.ur _ hw]
    have hax : tg t (tg t x z) b ≠ x := fun e => by
      rw [e] at e3
      exact hyz (G.lc hx hy hz e3)
    have e4 := h2 _ y ha hy hax
    rw [e3] at e4
    exact hax (G'.rc hy ha hx (by rw [e4, h1]))
theorem ev_max {n : Nat} (h : 2 ≤ n) {t : List (List Nat)} (v : Valid n t) (ht : ∀ x y, x < n → y < n → tg t x y = max x y) : grpB t = false := by
  cases hg : grpB t with
  | false => rfl
  | true =>
    exfalso
    have G := grp_of v (by omega) hg
    obtain ⟨y, hy, e⟩ := G.iv 1 (by omega)
    rw [ht 1 y (by omega) hy] at e
    omega
theorem no_short {n : Nat} {t : List (List Nat)} (v : Valid n t) (h : 2 ≤ n) : sqB (t.take (n - 1)) = false := by
  unfold sqB
  have hl := v.len
  have hm : rowAt t 0 ∈ t.take (n - 1) := by
    cases t with
    | nil => simp at hl; omega
    | cons r t =>
      have : n - 1 = (n - 2) + 1 := by omega
      rw [this]
      simp [rowAt]
  have hr := v.rl (show 0 < n by omega)
  have : (t.take (n - 1)).all (fun row => decide (row.length = (t.take (n - 1)).length) && row.all fun x => decide (x < (t.take (n - 1)).length)) = false := by
    rw [List.all_eq_false]
    refine ⟨_, hm, ?_⟩
    rw [hr]
    have : ¬ n = (t.take (n - 1)).length := by simp [hl]; omega
    rw [decide_eq_false this]
    simp
  rw [this]
  simp
end K74

end
section
set_option Elab.async false
set_option linter.all false
namespace K74
open PySem L2 VI
def mkT (n : Nat) (f : Nat → Nat → Nat) : List (List Nat) := (List.range n).map fun x => (List.range n).map fun y => f x y
theorem mkT_valid {n : Nat} {f : Nat → Nat → Nat} (h : ∀ x y, x < n → y < n → f x y < n) : Valid n (mkT n f) := by
  refine ⟨by simp [mkT], fun r hr => ?_, fun r hr x hx => ?_⟩
  · obtain ⟨_, _, rfl⟩ := List.mem_map.mp hr; simp
  · obtain ⟨a, ha, rfl⟩ := List.mem_map.mp hr
    obtain ⟨b, hb, rfl⟩ := List.mem_map.mp hx
    exact h a b (by simpa using ha) (by simpa using hb)
theorem mkT_tg {n : Nat} {f : Nat → Nat → Nat} {x y : Nat} (hx : x < n) (hy : y < n) : tg (mkT n f) x y = f x y := by
  unfold tg
  have : rowAt (mkT n f) x = (List.range n).map fun y => f x y := by
    unfold rowAt mkT; simp [hx]
  rw [this, cell_map (by simpa using hy), cell_range hy]
theorem Grp.op {n : Nat} {t : List (List Nat)} (G : Grp n t 0) : Grp n (mkT n fun x y => tg t y x) 0 := by
  have h := fun {x y : Nat} (hx : x < n) (hy : y < n) => mkT_tg (f := fun x y => tg t y x) hx hy
  refine ⟨mkT_valid fun x y hx hy => G.v.tlt hy hx, G.un, fun x hx => by rw [h G.un hx, G.ur x hx], fun x hx => by rw [h hx G.un, G.ul x hx], fun x hx => ?_, fun x y z hx hy hz => ?_⟩
  · obtain ⟨y, hy, e⟩ := G.iv x hx
    refine ⟨y, hy, ?_⟩
    rw [h hx hy]
    -- a right inverse is a left one
    obtain ⟨c, hc, e2⟩ := G.iv y hy
    have h1 := G.as x y c hx hy hc
    rw [e, e2, G.ul c hc, G.ur x hx] at h1
    rw [← h1]; exact e2
  · rw [h hx hy, h (G.v.tlt hy hx) hz, h hy hz, h hx (G.v.tlt hz hy)]
    exact (G.as z y x hz hy hx).symm
theorem nis_tt : semNis (.bl true) (.bl true) = some (.sc (.bl false)) := rfl
theorem nis_ff : semNis (.bl false) (.bl false) = some (.sc (.bl false)) := rfl
theorem is_ff : semIs (.bl false) (.bl false) = some (.sc (.bl true)) := rfl
theorem rows_l2 (t : List (List Nat)) : ∀ (S : SV × SV × SV × SV × SV × SV × SV), S.2.2.2.1 = .no → lcR [4] (gN 4) fYes e_law_tables_hold_0 (t.map dT) [S.1, .fz (dLT t), S.2.1, S.2.2.1, .no, S.2.2.2.2.1, S.2.2.2.2.2.1, S.2.2.2.2.2.2, .no] = .ok (t.map fun r => r.map di) [S.1, .fz (dLT t), S.2.1, S.2.2.1, .no, S.2.2.2.2.1, S.2.2.2.2.2.1, S.2.2.2.2.2.2, .no] := by
  intro S hS
  have : ∀ l : List (List Nat), lcR [4] (gN 4) fYes e_law_tables_hold_0 (l.map dT) [S.1, .fz (dLT t), S.2.1, S.2.2.1, .no, S.2.2.2.2.1, S.2.2.2.2.2.1, S.2.2.2.2.2.2, .no] = .ok (l.map fun r => r.map di) [S.1, .fz (dLT t), S.2.1, S.2.2.1, .no, S.2.2.2.2.1, S.2.2.2.2.2.1, S.2.2.2.2.2.2, .no] := fun l => by
    induction l with
    | nil => rfl
    | cons r l ih =>
      have he : ∀ r : List Nat, e_law_tables_hold_0 [S.1, .fz (dLT t), S.2.1, S.2.2.1, .fz (dT r), S.2.2.2.2.1, S.2.2.2.2.2.1, S.2.2.2.2.2.2, .no] = .ok (.ow (.lst (r.map di))) [S.1, .fz (dLT t), S.2.1, S.2.2.1, .fz (dT r), S.2.2.2.2.1, S.2.2.2.2.2.1, S.2.2.2.2.2.2, .no] := fun r => by
        simp [e_law_tables_hold_0, dT]
      simp [lcR, he, ih]
  exact this t
theorem hold_eq3 : e_law_tables_hold_3 = e_law_tables_hold_0 := rfl
theorem ll_toD (t : List (List Nat)) : (O.l2 (t.map fun r => r.map di)).toD = tabD .lst .lst t := by
  unfold tabD; simp [Function.comp_def]
section
variable {n s t0 : Nat} {t : List (List Nat)}
theorem hold_1 (v : Valid n t) (hn : n ≤ 100) (st : SV) (s3 s5 s6 s7 : SV) : (sSet 3 (eLcR [4] (iA (eN 1)) (gN 4) (fYes) (e_law_tables_hold_0))) [st, .fz (dLT t), .fz (di n), s3, .no, s5, s6, s7, .no] = .ok .nx [st, .fz (dLT t), .fz (di n), .ow (.l2 (t.map fun r => r.map di)), .no, s5, s6, s7, .no] := by
  have h := rows_l2 t (st, .fz (di n), s3, .no, s5, s6, s7) rfl
  have hl : t.length ≤ 1000000 := by rw [v.len]; omega
  simp only [dLT] at h ⊢
  simp [eLcR, plainVars, h, hl]
theorem hold_2 (G : Grp n t 0) (hn : n ≤ 100) (s5 s6 s7 : SV) : b_law_tables_hold_2 [.io (stO s t0), .fz (dLT t), .fz (di n), .ow (.l2 (t.map fun r => r.map di)), .no, s5, s6, s7, .no] = .ok .nx [.io (stO s t0), .fz (dLT t), .fz (di n), .ow (.l2 (t.map fun r => r.map di)), .no, s5, s6, s7, .no] := by
  have h0 := G.un
  have g1 := ev_group Ctr.lst Ctr.lst G.v h0 (by omega)
  have g2 := ev_group Ctr.tup Ctr.tup G.v h0 (by omega)
  rw [G.true] at g1 g2
  simp only [tabD] at g1 g2
  have e1 : semTuple [dLT t] = some (.nt (t.map dT)) := rfl
  have e2 : D.tup (t.map dT) = D.tup (t.map fun r => D.tup (r.map di)) := rfl
  simp [b_law_tables_hold_2, Function.comp_def, g1, e1, e2, g2, nis_tt]
theorem hold_3 (G : Grp n t 0) (hn : n ≤ 100) (st s3 s7 : SV) : b_law_tables_hold_3 [st, .fz (dLT t), .fz (di n), s3, .no, .no, .no, s7, .no] = .ok .nx [st, .fz (dLT t), .fz (di n), s3, .no, .no, .no, s7, .no] := by
  have h0 := G.un
  have hn6 : n ≤ 1000000 := by omega
  have g1 := ev_group Ctr.lst Ctr.tup G.op.v h0 (by omega)
  rw [G.op.true] at g1
  have hlen := G.v.len
  have z1 : ∀ x, x < n → lcL [6] (gN 6) fYes e_law_tables_hold_1 ((List.range n).map di) [st, .fz (dLT t), .fz (di n), s3, .no, .fz (di x), .no, s7, .no] = .ok ((List.range n).map fun y => di (tg t y x)) [st, .fz (dLT t), .fz (di n), s3, .no, .fz (di x), .no, s7, .no] := fun x hx => by
    refine lcL_map (List.range n) fun y hy => ?_
    have hy : y < n := by simpa using hy
    have q4 := at_row (f := dT) (show y < t.length by rw [hlen]; exact hy)
    have q5 := at_cell (show x < (rowAt t y).length by rw [G.v.rl hy]; exact hx)
    have q6 : cellAt (rowAt t y) x = tg t y x := rfl
    simp only [dT] at q4
    simp [e_law_tables_hold_1, dLT, q4, q5, q6]
  have z2 : lcL [5] (gN 5) fYes e_law_tables_hold_2 ((List.range n).map di) [st, .fz (dLT t), .fz (di n), s3, .no, .no, .no, s7, .no] = .ok ((List.range n).map fun x => D.tup ((List.range n).map fun y => di (tg t y x))) [st, .fz (dLT t), .fz (di n), s3, .no, .no, .no, s7, .no] := by
    refine lcL_map (List.range n) fun x hx => ?_
    have hx : x < n := by simpa using hx
    simp [e_law_tables_hold_2, rangeD_nat, rgOk_nat hn6, plainVars, z1 x hx, hn6]
  have e : tabD .lst .tup (mkT n fun x y => tg t y x) = D.lst ((List.range n).map fun x => D.tup ((List.range n).map fun y => di (tg t y x))) := by
    unfold tabD mkT
    rw [List.map_map]
    simp [Function.comp_def]
  rw [e] at g1
  simp [b_law_tables_hold_3, rangeD_nat, rgOk_nat hn6, plainVars, z2, hn6, g1, nis_tt]
theorem hold_4 (hn2 : 2 ≤ n) (hn : n ≤ 100) (tb s3 s7 : SV) : ∃ s' t' x y, 1 ≤ x ∧ x < n ∧ 1 ≤ y ∧ y < n ∧ b_law_tables_hold_4 [.io (stO s t0), tb, .fz (di n), s3, .no, .no, .no, s7, .no] = .ok .nx [.io (stO s' t'), tb, .fz (di n), s3, .no, .fz (di x), .fz (di y), s7, .no] := by
  obtain ⟨r1, s1, t1, h1, e1⟩ := ev_take s t0 (n - 1) (by omega) (by omega)
  obtain ⟨r2, s2, t2, h2, e2⟩ := ev_take s1 t1 (n - 1) (by omega) (by omega)
  have hd : (D.int ((n : Int) - 1)) = di (n - 1) := by
    have : (n : Int) - 1 = ((n - 1 : Nat) : Int) := by omega
    rw [this]
  refine ⟨s2, t2, 1 + r1, 1 + r2, by omega, by omega, by omega, by omega, ?_⟩
  simp [b_law_tables_hold_4, hd, e1, e2]
theorem hold_5 (v : Valid n t) (hn2 : 2 ≤ n) (hn : n ≤ 100) {x y : Nat} (hx : x < n) (hy : y < n) (tb s7 : SV) : ∃ s' t' w, w < n ∧ w ≠ tg t x y ∧ b_law_tables_hold_5 [.io (stO s t0), tb, .fz (di n), .ow (.l2 (t.map fun r => r.map di)), .no, .fz (di x), .fz (di y), s7, .no] =
    .ok .nx [.io (stO s' t'), tb, .fz (di n), .ow (.l2 ((t.set x ((rowAt t x).set y w)).map fun r => r.map di)), .no, .fz (di x), .fz (di y), s7, .no] := by
  obtain ⟨r1, s1, t1, h1, e1⟩ := ev_take s t0 (n - 1) (by omega) (by omega)
  have hd : (D.int ((n : Int) - 1)) = di (n - 1) := by
    have : (n : Int) - 1 = ((n - 1 : Nat) : Int) := by omega
    rw [this]
  have hlt := v.tlt hx hy
  have hw : (tg t x y + 1 + r1) % n ≠ tg t x y := by
    intro e
    rcases Nat.lt_or_ge (tg t x y + 1 + r1) n with h | h
    · rw [Nat.mod_eq_of_lt h] at e; omega
    · have h2 : (tg t x y + 1 + r1) % n = tg t x y + 1 + r1 - n := by
        rw [Nat.mod_eq_sub_mod h, Nat.mod_eq_of_lt (by omega)]
      omega
  have q1 : ixN t.length (x : Int) = some x := ixN_nat (by rw [v.len]; exact hx)
  have q2 : t[x]? = some (rowAt t x) := by unfold rowAt; simp [v.len, hx]
  have q3 : ixN (rowAt t x).length (y : Int) = some y := ixN_nat (by rw [v.rl hx]; exact hy)
  have q4 : atI (t.map fun r => r.map di) (x : Int) = some ((rowAt t x).map di) := by
    rw [VI.atI_nat (by simpa [v.len] using hx), List.getElem?_map, q2]; rfl
  have q5 := at_cell (show y < (rowAt t x).length by rw [v.rl hx]; exact hy)
  have q6 : cellAt (rowAt t x) y = tg t x y := rfl
  have hm : D.int (((tg t x y : Int) + 1 + (r1 : Int)) % (n : Int)) = di ((tg t x y + 1 + r1) % n) := rfl
  have hn0 : 0 < n := by omega
  refine ⟨s1, t1, (tg t x y + 1 + r1) % n, Nat.mod_lt _ hn0, hw, ?_⟩
  simp [b_law_tables_hold_5, eIx2, s_o2, q4, q5, q6, hd, e1, sSetIx2, q1, q2, q3, hn0, hm]
end
end K74

end
section
set_option Elab.async false
set_option linter.all false
namespace K74
open PySem L2 VI
section
variable {n s t0 : Nat} {t : List (List Nat)}
theorem hold_6 {f : List (List Nat)} (vf : Valid n f) (h0 : 0 < n) (hn : n ≤ 100) (hf : grpB f = false) (st tb s5 s6 s7 : SV) : b_law_tables_hold_6 [st, tb, .fz (di n), .ow (.l2 (f.map fun r => r.map di)), .no, s5, s6, s7, .no] = .ok .nx [st, tb, .fz (di n), .ow (.l2 (f.map fun r => r.map di)), .no, s5, s6, s7, .no] := by
  have g1 := ev_group Ctr.lst Ctr.lst vf h0 (by omega)
  rw [hf] at g1
  simp only [tabD] at g1
  simp [b_law_tables_hold_6, Function.comp_def, g1, nis_ff]
theorem hold_7 (v : Valid n t) (hn : n ≤ 100) (st : SV) (s3 s5 s6 s7 : SV) : b_law_tables_hold_7 [st, .fz (dLT t), .fz (di n), s3, .no, s5, s6, s7, .no] = .ok .nx [st, .fz (dLT t), .fz (di n), .ow (.l2 (t.map fun r => r.map di)), .no, s5, s6, s7, .no] :=
  hold_1 v hn st s3 s5 s6 s7
theorem hold_8 (hn2 : 3 ≤ n) (hn : n ≤ 100) {y : Nat} (hy : y < n) (tb s3 s5 s7 : SV) : ∃ s' t' z, 1 ≤ z ∧ z < n ∧ b_law_tables_hold_8 [.io (stO s t0), tb, .fz (di n), s3, .no, s5, .fz (di y), s7, .no] = .ok .nx [.io (stO s' t'), tb, .fz (di n), s3, .no, s5, .fz (di y), .fz (di z), .no] := by
  obtain ⟨r1, s1, t1, h1, e1⟩ := ev_take s t0 (n - 2) (by omega) (by omega)
  have hd : (D.int ((n : Int) - 2)) = di (n - 2) := by
    have : (n : Int) - 2 = ((n - 2 : Nat) : Int) := by omega
    rw [this]
  have hd1 : (D.int ((n : Int) - 1)) = di (n - 1) := by
    have : (n : Int) - 1 = ((n - 1 : Nat) : Int) := by omega
    rw [this]
  have hp : 0 < n - 1 := by omega
  have hlt := Nat.mod_lt (y + r1) hp
  have hm : D.int (((y : Int) + (r1 : Int)) % ((n - 1 : Nat) : Int) + 1) = di ((y + r1) % (n - 1) + 1) := rfl
  refine ⟨s1, t1, (y + r1) % (n - 1) + 1, by omega, by omega, ?_⟩
  have hmod : ∀ a : Int, semMod (.int a) (di (n - 1)) = some (.sc (.int (a % ((n - 1 : Nat) : Int)))) := fun a => by
    rw [s_semMod, if_pos (decide_eq_true (by omega))]
  simp [b_law_tables_hold_8, hd, hd1, e1, hmod, hm]
theorem swap_valid (v : Valid n t) {x y z : Nat} (hx : x < n) (hy : y < n) (hz : z < n) : Valid n (t.set x (((rowAt t x).set y (tg t x z)).set z (tg t x y))) := by
  have v1 := valid_set (b := y) v hx (v.tlt hx hz)
  have v2 := valid_set (b := z) v1 hx (v.tlt hx hy)
  have e : rowAt (t.set x ((rowAt t x).set y (tg t x z))) x = (rowAt t x).set y (tg t x z) := by
    unfold rowAt; simp [v.len, hx]
  rw [e, List.set_set] at v2
  exact v2
theorem swap_tg (v : Valid n t) {x y z : Nat} (hx : x < n) (hy : y < n) (hz : z < n) {a b : Nat} (ha : a < n) (hb : b < n) : tg (t.set x (((rowAt t x).set y (tg t x z)).set z (tg t x y))) a b = if x = a ∧ z = b then tg t x y else if x = a ∧ y = b then tg t x z else tg t a b := by
  have v1 := valid_set (b := y) v hx (v.tlt hx hz)
  have e : rowAt (t.set x ((rowAt t x).set y (tg t x z))) x = (rowAt t x).set y (tg t x z) := by
    unfold rowAt; simp [v.len, hx]
  have := tg_set (w := tg t x y) v1 hx hz ha hb
  rw [e, List.set_set] at this
  rw [this, tg_set v hx hy ha hb]
theorem hold_9 (G : Grp n t 0) (hn : n ≤ 100) {x y z : Nat} (hx : x < n) (hy : y < n) (hz : z < n) (st tb : SV) : ∃ s3, b_law_tables_hold_9 [st, tb, .fz (di n), .ow (.l2 (t.map fun r => r.map di)), .no, .fz (di x), .fz (di y), .fz (di z), .no] = .ok .nx [st, tb, .fz (di n), s3, .no, .fz (di x), .fz (di y), .fz (di z), .no] := by
  have v := G.v
  by_cases hzy : z = y
  · refine ⟨.ow (.l2 (t.map fun r => r.map di)), ?_⟩
    simp [b_law_tables_hold_9, len_ne, hzy]
  · have vs := swap_valid v hx hy hz
    have hg := no_swap G vs hx hy hz (fun e => hzy e.symm) (by rw [swap_tg v hx hy hz hx hy, if_neg fun e => hzy e.2, if_pos ⟨rfl, rfl⟩]) fun a b ha hb hax => by
      rw [swap_tg v hx hy hz ha hb, if_neg fun e => hax e.1.symm, if_neg fun e => hax e.1.symm]
    have g1 := ev_group Ctr.lst Ctr.lst vs (by omega) (by omega)
    rw [hg] at g1
    have q1 : ixN t.length (x : Int) = some x := ixN_nat (by rw [v.len]; exact hx)
    have q2 : t[x]? = some (rowAt t x) := by unfold rowAt; simp [v.len, hx]
    have q3 : ixN (rowAt t x).length (y : Int) = some y := ixN_nat (by rw [v.rl hx]; exact hy)
    have q3z : ixN (rowAt t x).length (z : Int) = some z := ixN_nat (by rw [v.rl hx]; exact hz)
    have q4 : atI (t.map fun r => r.map di) (x : Int) = some ((rowAt t x).map di) := by
      rw [VI.atI_nat (by simpa [v.len] using hx), List.getElem?_map, q2]; rfl
    have q5 := at_cell (show y < (rowAt t x).length by rw [v.rl hx]; exact hy)
    have q5z := at_cell (show z < (rowAt t x).length by rw [v.rl hx]; exact hz)
    have q6 : cellAt (rowAt t x) y = tg t x y := rfl
    have q6z : cellAt (rowAt t x) z = tg t x z := rfl
    have hxl : x < t.length := by rw [v.len]; exact hx
    have q2' : t[x] = rowAt t x := by unfold rowAt; simp [hxl]
    have hzl : z < n := hz
    have q7 : ixN (((rowAt t x).map di).set y (di (tg t x z))).length (z : Int) = some z := by simpa using q3z
    have g2 : f_is_group_table [.fz (.lst ((((t.map fun r => r.map di).set x ((((rowAt t x).map di).set y (di (tg t x z))).set z (di (tg t x y)))).map D.lst)))] = .ok (.fz (.bl false)) [] := by
      have e : ((t.map fun r => r.map di).set x ((((rowAt t x).map di).set y (di (tg t x z))).set z (di (tg t x y)))).map D.lst = (t.set x (((rowAt t x).set y (tg t x z)).set z (tg t x y))).map fun r => .lst (r.map di) := by
        rw [List.map_set, List.map_set, List.map_set, List.map_set, List.map_map]
        rfl
      rw [e]
      exact g1
    rw [List.map_set, List.map_map] at g2
    refine ⟨.fz (.lst ((((t.map fun r => r.map di).set x ((((rowAt t x).map di).set y (di (tg t x z))).set z (di (tg t x y)))).map D.lst))), ?_⟩
    simp [b_law_tables_hold_9, len_ne, hzy, eIx2, s_o2, q4, q5, q5z, q6, q6z, gTp, gsCons, gsNil, gIx2, q1, q2, q3, q3z, hxl, q2', nis_ff, g2]
theorem hold_10 (hn : n ≤ 100) (st tb s3 : SV) (dx dy s7 : D) : b_law_tables_hold_10 [st, tb, .fz (di n), s3, .no, .fz dx, .fz dy, .fz s7, .no] = .ok .nx [st, tb, .fz (di n), s3, .no, .fz dx, .fz dy, .fz s7, .ow (.lst ((mkT n fun x y => max x y).map dL))] := by
  have hn6 : n ≤ 1000000 := by omega
  have hmx : ∀ x y : Nat, semMax2 [di x, di y] = some (.sc (di (max x y))) := fun x y => by
    show some (PR.sc (D.int (if (y : Int) > (x : Int) then (y : Int) else (x : Int)))) = _
    by_cases h : y > x
    · rw [if_pos (by omega), Nat.max_eq_right (by omega)]
    · rw [if_neg (by omega), Nat.max_eq_left (by omega)]
  have z1 : ∀ x, lcL [6] (gN 6) fYes e_law_tables_hold_4 ((List.range n).map di) [st, tb, .fz (di n), s3, .no, .fz (di x), .no, .fz s7, .no] = .ok ((List.range n).map fun y => di (max x y)) [st, tb, .fz (di n), s3, .no, .fz (di x), .no, .fz s7, .no] := fun x =>
    lcL_map (List.range n) fun y hy => by simp [e_law_tables_hold_4, hmx]
  have z1' : ∀ x, lcL [6] (gN 6) fYes e_law_tables_hold_4 ((List.range n).map di) [st, tb, .fz (di n), s3, .no, .fz (di x), .no, .fz s7, .no] = .ok ((List.range n).map fun y => di (max x y)) [st, tb, .fz (di n), s3, .no, .fz (di x), .no, .fz s7, .no] := z1
  have z2 : lcL [5] (gN 5) fYes e_law_tables_hold_5 ((List.range n).map di) [st, tb, .fz (di n), s3, .no, .no, .fz dy, .fz s7, .no] = .ok ((mkT n fun x y => max x y).map dL) [st, tb, .fz (di n), s3, .no, .no, .fz dy, .fz s7, .no] := by
    have e : (mkT n fun x y => max x y).map dL = (List.range n).map fun x => dL ((List.range n).map fun y => max x y) := by
      unfold mkT; rw [List.map_map]; rfl
    rw [e]
    refine lcL_map (List.range n) fun x hx => ?_
    simp [e_law_tables_hold_5, rangeD_nat, rgOk_nat hn6, plainVars, z1 x, hn6, dL, Function.comp_def]
  have hml : (mkT n fun x y => max x y).length ≤ 1000000 := by simp [mkT]; omega
  simp [b_law_tables_hold_10, rangeD_nat, rgOk_nat hn6, plainVars, z2, hml]
end
end K74

end
section
set_option Elab.async false
set_option linter.all false
namespace K74
open PySem L2 VI
section
variable {n s t0 : Nat} {t : List (List Nat)}
theorem cut_last (v : Valid n t) (h : 2 ≤ n) : cutD (t.map dT) none (some (-1)) = (t.take (n - 1)).map dT := by
  have hl := v.len
  unfold cutD
  have h1 : HT.sIx (t.map dT).length 0 none = 0 := rfl
  have h2 : HT.sIx (t.map dT).length (t.map dT).length (some (-1)) = n - 1 := by
    simp [HT.sIx, hl]
    omega
  rw [h1, h2]
  simp
theorem hold_11 (G : Grp n t 0) (h2 : 2 ≤ n) (hn : n ≤ 100) (st s3 s5 s6 s7 : SV) : ∃ ρ', b_law_tables_hold_11 [st, .fz (dLT t), .fz (di n), s3, .no, s5, s6, s7, .ow (.lst ((mkT n fun x y => max x y).map dL))] = .ok (.rt (.fz (.bl true))) (st :: ρ') := by
  have vm : Valid n (mkT n fun x y => max x y) := mkT_valid fun x y hx hy => by omega
  have gm := ev_group Ctr.lst Ctr.lst vm (by omega) (by omega)
  rw [ev_max h2 vm fun x y hx hy => mkT_tg hx hy] at gm
  have em : tabD .lst .lst (mkT n fun x y => max x y) = .lst ((mkT n fun x y => max x y).map dL) := rfl
  rw [em] at gm
  have gs := ev_group_no Ctr.lst Ctr.tup (t.take (n - 1)) (fun row hrow => by rw [G.v.row _ (List.mem_of_mem_take hrow)]; omega) (no_short G.v h2)
  have es : tabD .lst .tup (t.take (n - 1)) = .lst ((t.map dT).take (n - 1)) := by rw [← List.map_take]; rfl
  rw [es] at gs
  have hs : semSl (dLT t) none (some (-1)) = some (.nl ((t.map dT).take (n - 1))) := by
    show (some (PR.nl (cutD (t.map dT) none (some (-1))))).or _ = _
    rw [cut_last G.v h2, List.map_take]; rfl
  have hneg : semNeg (.int 1) = some (.sc (.int (-1))) := rfl
  simp [b_law_tables_hold_11, gm, is_ff, eSl, pNo, pE, hneg, hs, gs]
theorem ev_hold (G : Grp n t 0) (h3 : 3 ≤ n) (hn : n ≤ 100) : ∃ s' t', f_law_tables_hold [.io (stO s t0), .fz (dLT t)] = .ok (.fz (.bl true)) [stO s' t'] := by
  have v := G.v
  obtain ⟨s1, t1, x, y, hx1, hx, hy1, hy, e4⟩ := hold_4 (s := s) (t0 := t0) (by omega) hn (.fz (dLT t)) (.ow (.l2 (t.map fun r => r.map di))) .no
  obtain ⟨s2, t2, w, hw, hne, e5⟩ := hold_5 (s := s1) (t0 := t1) v (by omega) hn hx hy (.fz (dLT t)) .no
  have vc := valid_set (b := y) v hx hw
  have e6 := hold_6 vc (by omega) hn (no_change G hx hy hw hne) (.io (stO s2 t2)) (.fz (dLT t)) (.fz (di x)) (.fz (di y)) .no
  have e7 := hold_7 v hn (.io (stO s2 t2)) (.ow (.l2 ((t.set x ((rowAt t x).set y w)).map fun r => r.map di))) (.fz (di x)) (.fz (di y)) .no
  obtain ⟨s3, t3, z, hz1, hz, e8⟩ := hold_8 (s := s2) (t0 := t2) h3 hn hy (.fz (dLT t)) (.ow (.l2 (t.map fun r => r.map di))) (.fz (di x)) .no
  obtain ⟨r3, e9⟩ := hold_9 G hn hx hy hz (.io (stO s3 t3)) (.fz (dLT t))
  have e10 := hold_10 (n := n) hn (.io (stO s3 t3)) (.fz (dLT t)) r3 (di x) (di y) (di z)
  obtain ⟨ρ', e11⟩ := hold_11 G (by omega) hn (.io (stO s3 t3)) r3 (.fz (di x)) (.fz (di y)) (.fz (di z))
  have e0 : b_law_tables_hold_0 [.io (stO s t0), .fz (dLT t), .no, .no, .no, .no, .no, .no, .no] = .ok .nx [.io (stO s t0), .fz (dLT t), .fz (di n), .no, .no, .no, .no, .no, .no] := by
    have : semLenA [dLT t] = some (.sc (di n)) := by unfold dLT; simp [v.len]
    simp [b_law_tables_hold_0, this]
  have e1 : b_law_tables_hold_1 [.io (stO s t0), .fz (dLT t), .fz (di n), .no, .no, .no, .no, .no, .no] = _ := hold_1 v hn (.io (stO s t0)) .no .no .no .no
  have e2 := hold_2 (s := s) (t0 := t0) G hn .no .no .no
  have e3 := hold_3 G hn (.io (stO s t0)) (.ow (.l2 (t.map fun r => r.map di))) .no
  refine ⟨s3, t3, ?_⟩
  unfold f_law_tables_hold semDef b_law_tables_hold
  have er : rho0 [.io (stO s t0), .fz (dLT t)] ++ List.replicate (9 - [FA.io (stO s t0), .fz (dLT t)].length) .no = [.io (stO s t0), .fz (dLT t), .no, .no, .no, .no, .no, .no, .no] := rfl
  rw [er]
  simp only [s_sSeq, e0, e1, e2, e3, e4, e5, e6, e7, e8, e9, e10, e11, Rs.bind_ok]
  rfl
end
end K74

end
section
set_option Elab.async false
set_option linter.all false
set_option maxRecDepth 100000
namespace K74
open PySem L2 VI
def decN : D → Option Nat
  | .int (.ofNat k) => some k
  | _ => none
def decNs : List D → Option (List Nat)
  | [] => some []
  | d :: ds => match decN d, decNs ds with
    | some x, some xs => some (x :: xs)
    | _, _ => none
def decRs : List D → Option (List (List Nat))
  | [] => some []
  | .tup r :: ds => match decNs r, decRs ds with
    | some x, some xs => some (x :: xs)
    | _, _ => none
  | _ :: _ => none
def decF : FO → Option (List (List Nat))
  | .ok (.ow (.lst ds)) [] => decRs ds
  | _ => none
theorem decN_ok {d : D} {x : Nat} (h : decN d = some x) : d = di x := by
  unfold decN at h
  split at h
  · cases h; rfl
  · cases h
theorem decNs_ok : ∀ {ds : List D} {xs : List Nat}, decNs ds = some xs → ds = xs.map di
  | [], xs, h => by cases h; rfl
  | d :: ds, xs, h => by
    unfold decNs at h
    split at h
    · rename_i x xs' h1 h2
      cases h
      rw [decN_ok h1, decNs_ok h2]; rfl
    · cases h
theorem decRs_ok : ∀ {ds : List D} {t : List (List Nat)}, decRs ds = some t → ds = t.map dT
  | [], t, h => by cases h; rfl
  | d :: ds, t, h => by
    unfold decRs at h
    split at h
    · rename_i heq; cases heq
    · rename_i r ds' heq
      cases heq
      split at h
      · rename_i x xs' h1 h2
        cases h
        rw [decNs_ok h1, decRs_ok h2]; rfl
      · cases h
    · cases h
theorem decF_ok {f : FO} {t : List (List Nat)} (h : decF f = some t) : f = .ok (.ow (.lst (t.map dT))) [] := by
  unfold decF at h
  split at h
  · rw [decRs_ok h]
  · cases h
def validB (n : Nat) (t : List (List Nat)) : Bool := decide (t.length = n) && t.all fun r => decide (r.length = n) && r.all fun x => decide (x < n)
theorem validB_ok {n : Nat} {t : List (List Nat)} (h : validB n t = true) : Valid n t := by
  unfold validB at h
  simp only [Bool.and_eq_true, decide_eq_true_eq, List.all_eq_true] at h
  exact ⟨h.1, fun r hr => (h.2 r hr).1, fun r hr x hx => (h.2 r hr).2 x hx⟩
def rankB (t : List (List Nat)) (n : Nat) : Bool := (List.range 4).any fun k => (tuplesOf n k).any (fullB t n)
theorem rankB_ok {n : Nat} {t : List (List Nat)} (h : rankB t n = true) : ∃ k, Rank t n k := by
  obtain ⟨k, hk, h⟩ := List.any_eq_true.mp h
  obtain ⟨g, hg, h⟩ := List.any_eq_true.mp h
  have hk : k < 4 := by simpa using hk
  have hne : ordK t n k ≠ [] := by
    intro e
    have : bfs t g ∈ ordK t n k := List.mem_map.mpr ⟨g, List.mem_filter.mpr ⟨hg, h⟩, rfl⟩
    rw [e] at this; cases this
  have key : ∀ k, k < 4 → ordK t n k ≠ [] → ∃ k, Rank t n k := by
    intro k
    induction k using Nat.strongRecOn with
    | ind k ih =>
      intro hk hne
      by_cases hb : ∀ j, j < k → ordK t n j = []
      · exact ⟨k, by omega, hne, hb⟩
      · simp only [Classical.not_forall] at hb
        obtain ⟨j, hj, hjn⟩ := hb
        exact ih j hj (by omega) hjn
  exact key k hk hne
def okF (f : FO) : Bool := match decF f with
  | some t => decide (3 ≤ t.length) && decide (t.length ≤ 24) && validB t.length t && grpB t && rankB t t.length
  | none => false
structure Base (n : Nat) (t : List (List Nat)) : Prop where
  lo : 3 ≤ n
  hi : n ≤ 24
  g : Grp n t 0
  rk : ∃ k, Rank t n k
theorem okF_ok {f : FO} (h : okF f = true) : ∃ n t, Base n t ∧ f = .ok (.ow (.lst (t.map dT))) [] := by
  unfold okF at h
  split at h
  · rename_i t ht
    simp only [Bool.and_eq_true, decide_eq_true_eq] at h
    obtain ⟨⟨⟨⟨h1, h2⟩, h3⟩, h4⟩, h5⟩ := h
    exact ⟨t.length, t, ⟨h1, h2, grp_of (validB_ok h3) (by omega) h4, rankB_ok h5⟩, decF_ok ht⟩
  · cases h
theorem base_cyc : ∀ r, r < 10 → okF (f_law_cyclic [.fz (di (7 + r))]) = true := by
  have h : ((List.range 10).all fun r => okF (f_law_cyclic [.fz (di (7 + r))])) = true := by decide +kernel
  intro r hr
  exact List.all_eq_true.mp h r (by simpa using hr)
theorem base_turns : ∀ r, r < 5 → okF (f_law_turns [.fz (di (4 + r))]) = true := by
  have h : ((List.range 5).all fun r => okF (f_law_turns [.fz (di (4 + r))])) = true := by decide +kernel
  intro r hr
  exact List.all_eq_true.mp h r (by simpa using hr)
theorem base_quat : okF (f_law_quaternions []) = true := by decide +kernel
end K74

end
section
set_option Elab.async false
set_option linter.all false
set_option maxRecDepth 100000
namespace K74
open PySem L2 VI
def dsOf : FO → D
  | .ok (.ow (.lst ds)) [] => .lst ds
  | _ => .non
theorem base_prod : ∀ p ∈ [(2, 4), (3, 3), (2, 6), (2, 8), (4, 4), (3, 4), (2, 5)], okF (f_law_times_table [.fz (dsOf (f_law_cyclic [.fz (di p.1)])), .fz (dsOf (f_law_cyclic [.fz (di p.2)]))]) = true := by
  have h : ([(2, 4), (3, 3), (2, 6), (2, 8), (4, 4), (3, 4), (2, 5)].all fun p : Nat × Nat => okF (f_law_times_table [.fz (dsOf (f_law_cyclic [.fz (di p.1)])), .fz (dsOf (f_law_cyclic [.fz (di p.2)]))])) = true := by decide +kernel
  exact fun p hp => List.all_eq_true.mp h p hp
end K74

end
section
set_option Elab.async false
set_option linter.all false
set_option maxRecDepth 100000
namespace K74
open PySem L2 VI
theorem base_s4 : okF (f_law_group_of [.fz (match f_law_orders [.fz (di 4)] with | .ok (.ow (.lst ds)) [] => .lst ds | _ => .non)]) = true := by decide +kernel
end K74

end
section
set_option Elab.async false
set_option linter.all false
set_option maxRecDepth 100000
namespace K74
open PySem L2 VI
def ordsOf : List D := match f_law_orders [.fz (di 4)] with
  | .ok (.ow (.lst ds)) [] => ds
  | _ => []
def evenD (d : D) : Bool := match f_law_even [.fz d] with
  | .ok (.fz (.bl b)) [] => b
  | _ => false
theorem base_a4 : okF (f_law_group_of [.fz (.lst (ordsOf.filter evenD))]) = true := by decide +kernel
end K74

end
section
set_option Elab.async false
set_option linter.all false
namespace K74
open PySem L2 VI
section
variable {n : Nat} {s t : List (List Nat)} {p : List Nat}
theorem mem_map_inj (P : PermN n p) {f : List Nat} (hf : ∀ x ∈ f, x < n) {y : Nat} (hy : y < n) : cellAt p y ∈ f.map (cellAt p) ↔ y ∈ f := by
  constructor
  · intro h
    obtain ⟨x, hx, e⟩ := List.mem_map.mp h
    rw [← cell_inj P (hf x hx) hy e]; exact hx
  · exact fun h => List.mem_map.mpr ⟨y, h, rfl⟩
theorem step_iso (vs : Valid n s) (I : Iso n s t p) {x g : Nat} (hx : x < n) (hg : g < n) {f : List Nat} (hf : Fnd n f) : stepG t (cellAt p x) (f.map (cellAt p)) (cellAt p g) = (stepG s x f g).map (cellAt p) := by
  unfold stepG
  rw [← I.hom x g hx hg]
  have h := mem_map_inj I.perm hf.lt (vs.tlt hx hg)
  by_cases hm : tg s x g ∈ f
  · rw [if_pos hm, if_pos (h.mpr hm)]
  · rw [if_neg hm, if_neg fun z => hm (h.mp z), List.map_append]; rfl
theorem grow_iso (vs : Valid n s) (I : Iso n s t p) {x : Nat} (hx : x < n) : ∀ {gens f : List Nat}, (∀ g ∈ gens, g < n) → Fnd n f → growG t (gens.map (cellAt p)) (cellAt p x) (f.map (cellAt p)) = (growG s gens x f).map (cellAt p)
  | [], f, _, _ => rfl
  | g :: gens, f, hg, hf => by
    have hg0 := hg g (List.mem_cons_self ..)
    unfold growG
    rw [List.map_cons, List.foldl_cons, List.foldl_cons, step_iso vs I hx hg0 hf]
    exact grow_iso vs I hx (fun g' h => hg g' (List.mem_cons_of_mem _ h)) (step_fnd vs hx hg0 hf)
theorem cell_mapp {f : List Nat} {i : Nat} (h : i < f.length) : cellAt (f.map (cellAt p)) i = cellAt p (cellAt f i) := cell_map h
theorem wit_iso (vs : Valid n s) (I : Iso n s t p) {gens : List Nat} (hg : ∀ g ∈ gens, g < n) : ∀ (m : Nat) (b : Nat × List Nat), bfsI n b → wit bfsC (bfsS t (gens.map (cellAt p))) m (b.1, b.2.map (cellAt p)) = ((wit bfsC (bfsS s gens) m b).1, (wit bfsC (bfsS s gens) m b).2.map (cellAt p))
  | 0, b, _ => rfl
  | m + 1, b, hb => by
    have hc : bfsC (b.1, b.2.map (cellAt p)) = bfsC b := by simp [bfsC]
    unfold wit
    rw [hc]
    cases h : bfsC b with
    | false => rfl
    | true =>
      have hc2 : b.1 < b.2.length := by simpa [bfsC] using h
      have hx := hb.1.lt _ (cellAt_mem hc2)
      have e : bfsS t (gens.map (cellAt p)) (b.1, b.2.map (cellAt p)) = ((bfsS s gens b).1, (bfsS s gens b).2.map (cellAt p)) := by
        unfold bfsS
        simp only
        rw [cell_mapp hc2, grow_iso vs I hx hg hb.1]
      simp only [if_true]
      rw [e]
      exact wit_iso vs I hg m _ (bfsI_step vs hg hb h)
theorem bfs_iso (vs : Valid n s) (I : Iso n s t p) (h0 : 0 < n) (hp : cellAt p 0 = 0) {gens : List Nat} (hg : ∀ g ∈ gens, g < n) : bfs t (gens.map (cellAt p)) = (bfs s gens).map (cellAt p) := by
  unfold bfs
  have := wit_iso vs I hg 1000 (0, [0]) ⟨⟨by simp, by simpa using h0⟩, by simp⟩
  have e : ([0] : List Nat).map (cellAt p) = [0] := by simp [hp]
  rw [e] at this
  rw [this]
/-- the inverse of an isomorphism -/
theorem Iso.symm (vs : Valid n s) (vt : Valid n t) (I : Iso n s t p) : Iso n t s (inv n p) := by
  refine ⟨inv_perm I.perm, fun x y hx hy => ?_⟩
  rw [inv_cell (vt.tlt hx hy), inv_cell hx, inv_cell hy]
  have ha := idx_lt I.perm hx
  have hb := idx_lt I.perm hy
  have h := I.hom _ _ ha hb
  rw [cell_idx I.perm hx, cell_idx I.perm hy] at h
  refine cell_inj I.perm (idx_lt I.perm (vt.tlt hx hy)) (vs.tlt ha hb) ?_
  rw [cell_idx I.perm (vt.tlt hx hy), h]
theorem inv_inv_cell (P : PermN n p) {x : Nat} (hx : x < n) : cellAt (inv n p) (cellAt p x) = x := by
  have hy := P.lt hx
  rw [inv_cell hy]
  exact cell_inj P (idx_lt P hy) hx (cell_idx P hy)
theorem inv_zero (P : PermN n p) (h0 : 0 < n) (hp : cellAt p 0 = 0) : cellAt (inv n p) 0 = 0 := by
  have := inv_inv_cell P h0
  rw [hp] at this
  exact this
theorem tuple_map (P : PermN n p) (h0 : 0 < n) (hp : cellAt p 0 = 0) {k : Nat} {g : List Nat} (hg : g ∈ tuplesOf n k) : g.map (cellAt p) ∈ tuplesOf n k := by
  obtain ⟨h1, h2⟩ := tuples_mem.mp hg
  refine tuples_mem.mpr ⟨by simpa using h1, fun x hx => ?_⟩
  obtain ⟨y, hy, rfl⟩ := List.mem_map.mp hx
  have hy2 := h2 y hy
  refine ⟨?_, P.lt hy2.2⟩
  have : cellAt p y ≠ 0 := fun e => by
    have := cell_inj P hy2.2 h0 (by rw [e, hp])
    omega
  omega
theorem ordK_map (vs : Valid n s) (I : Iso n s t p) (h0 : 0 < n) (hp : cellAt p 0 = 0) {k : Nat} {o : List Nat} (ho : o ∈ ordK s n k) : o.map (cellAt p) ∈ ordK t n k := by
  unfold ordK at ho ⊢
  obtain ⟨g, hg, rfl⟩ := List.mem_map.mp ho
  obtain ⟨hg, hf⟩ := List.mem_filter.mp hg
  have e := bfs_iso vs I h0 hp (gens_lt hg)
  refine List.mem_map.mpr ⟨g.map (cellAt p), List.mem_filter.mpr ⟨tuple_map I.perm h0 hp hg, ?_⟩, e⟩
  unfold fullB at hf ⊢
  rw [e, List.length_map]
  exact hf
theorem rank_iso (vs : Valid n s) (vt : Valid n t) (I : Iso n s t p) (h0 : 0 < n) (hp : cellAt p 0 = 0) {k : Nat} (hk : Rank s n k) : Rank t n k := by
  have hi0 := inv_zero I.perm h0 hp
  refine ⟨hk.le, fun e => ?_, fun j hj => ?_⟩
  · obtain ⟨o, ho⟩ := List.exists_mem_of_ne_nil _ hk.at_
    have := ordK_map vs I h0 hp ho
    rw [e] at this; cases this
  · refine Classical.byContradiction fun hne => ?_
    obtain ⟨o, ho⟩ := List.exists_mem_of_ne_nil _ hne
    have := ordK_map vt (I.symm vs vt) h0 hi0 ho
    rw [hk.below j hj] at this; cases this
end
end K74

end
section
set_option Elab.async false
set_option linter.all false
namespace K74
open PySem L2 VI
section
variable {n : Nat} {s t : List (List Nat)} {p : List Nat}
theorem ren_cell {o : List Nat} {i j : Nat} (P : PermN n o) (hi : i < n) (hj : j < n) : tg (ren t o) i j = o.idxOf (tg t (cellAt o i) (cellAt o j)) := by
  show cellAt (rowAt (ren t o) i) j = _
  have h1 : rowAt (ren t o) i = o.map fun y => o.idxOf (tg t (cellAt o i) y) := by
    unfold ren rowAt cellAt
    have : i < o.length := by rw [P.len]; exact hi
    simp [this]
  rw [h1, cell_map (by rw [P.len]; exact hj)]
theorem ren_valid {o : List Nat} (v : Valid n t) (P : PermN n o) : Valid n (ren t o) := by
  refine ⟨by simp [ren, P.len], fun r hr => ?_, fun r hr x hx => ?_⟩
  · obtain ⟨a, ha, rfl⟩ := List.mem_map.mp hr
    simp [P.len]
  · obtain ⟨a, ha, rfl⟩ := List.mem_map.mp hr
    obtain ⟨b, hb, rfl⟩ := List.mem_map.mp hx
    exact idx_lt P (v.tlt (P.fnd.lt a ha) (P.fnd.lt b hb))
theorem tab_ext {a b : List (List Nat)} (va : Valid n a) (vb : Valid n b) (h : ∀ x y, x < n → y < n → tg a x y = tg b x y) : a = b := by
  apply List.ext_getElem (by rw [va.len, vb.len])
  intro x h1 h2
  have hx : x < n := by rw [va.len] at h1; exact h1
  have e1 : a[x] = rowAt a x := by unfold rowAt; simp [h1]
  have e2 : b[x] = rowAt b x := by unfold rowAt; simp [h2]
  rw [e1, e2]
  exact list_ext (va.rl hx) (vb.rl hx) fun y hy => h x y hx hy
/-- the order's places: an isomorphism to the renamed table -/
theorem inv_iso {o : List Nat} (v : Valid n t) (P : PermN n o) : Iso n t (ren t o) (inv n o) := by
  refine ⟨inv_perm P, fun x y hx hy => ?_⟩
  have hix := idx_lt P hx
  have hiy := idx_lt P hy
  rw [inv_cell (v.tlt hx hy), inv_cell hx, inv_cell hy, ren_cell P hix hiy, cell_idx P hx, cell_idx P hy]
theorem idx_map {o : List Nat} (P : PermN n p) (Po : PermN n o) {y : Nat} (hy : y < n) : (o.map (cellAt p)).idxOf (cellAt p y) = o.idxOf y := by
  have Pm : PermN n (o.map (cellAt p)) := by
    refine ⟨⟨?_, fun x hx => ?_⟩, by simp [Po.len]⟩
    · rw [List.Nodup, List.pairwise_map]
      refine List.Pairwise.imp_of_mem ?_ Po.fnd.nd
      intro a b ha hb hab e
      exact hab (cell_inj P (Po.fnd.lt a ha) (Po.fnd.lt b hb) e)
    · obtain ⟨z, hz, rfl⟩ := List.mem_map.mp hx
      exact P.lt (Po.fnd.lt z hz)
  have hpy := P.lt hy
  have h1 := idx_lt Pm hpy
  have h2 := idx_lt Po hy
  refine cell_inj Pm h1 h2 ?_
  rw [cell_idx Pm hpy, cell_map (by rw [Po.len]; exact h2), cell_idx Po hy]
/-- renaming goes along an isomorphism -/
theorem ren_iso {o : List Nat} (vs : Valid n s) (I : Iso n s t p) (Po : PermN n o) : ren t (o.map (cellAt p)) = ren s o := by
  unfold ren
  rw [List.map_map]
  apply List.map_congr_left
  intro x hx
  simp only [Function.comp]
  rw [List.map_map]
  apply List.map_congr_left
  intro y hy
  simp only [Function.comp]
  rw [← I.hom x y (Po.fnd.lt x hx) (Po.fnd.lt y hy)]
  exact idx_map I.perm Po (vs.tlt (Po.fnd.lt x hx) (Po.fnd.lt y hy))
end
end K74

end
section
set_option Elab.async false
set_option linter.all false
namespace K74
open PySem L2 VI
section
variable {n : Nat} {t : List (List Nat)}
theorem wit_pre (gens : List Nat) : ∀ (m : Nat) (b : Nat × List Nat), b.2 <+: (wit bfsC (bfsS t gens) m b).2
  | 0, b => List.prefix_refl _
  | m + 1, b => by
    unfold wit
    split
    · exact (grow_pre t gens _ b.2).trans (wit_pre gens m (bfsS t gens b))
    · exact List.prefix_refl _
theorem grow_new (G : Grp n t 0) : ∀ (gens f : List Nat), (∀ g ∈ gens, g < n) → (f ++ gens).Nodup → growG t gens 0 f = f ++ gens
  | [], f, _, _ => by simp [growG]
  | g :: gens, f, hg, hn => by
    have hgn := hg g (List.mem_cons_self ..)
    have hm : g ∉ f := fun h => by
      rw [List.nodup_append] at hn
      exact hn.2.2 g h g (List.mem_cons_self ..) rfl
    have e : stepG t 0 f g = f ++ [g] := by unfold stepG; rw [G.ul g hgn, if_neg hm]
    unfold growG
    rw [List.foldl_cons, e]
    have := grow_new G gens (f ++ [g]) (fun x hx => hg x (List.mem_cons_of_mem _ hx)) (by simpa using hn)
    unfold growG at this
    rw [this]; simp
theorem bfs_start (G : Grp n t 0) {g : List Nat} (hg : ∀ x ∈ g, 1 ≤ x ∧ x < n) (hn : g.Nodup) : (0 :: g) <+: bfs t g := by
  have h1 : growG t g 0 [0] = [0] ++ g := grow_new G g [0] (fun x hx => (hg x hx).2) (by
    rw [List.singleton_append, List.nodup_cons]
    exact ⟨fun h => by have := (hg 0 h).1; omega, hn⟩)
  have e : bfs t g = (wit bfsC (bfsS t g) 999 (bfsS t g (0, [0]))).2 := rfl
  have e2 : (bfsS t g (0, [0])).2 = 0 :: g := h1
  rw [e, ← e2]
  exact wit_pre g 999 _
theorem fold_mem_keep (x : Nat) : ∀ (gens f : List Nat) {z : Nat}, z ∈ f → z ∈ gens.foldl (stepG t x) f
  | [], f, z, h => h
  | g :: gens, f, z, h => fold_mem_keep x gens _ ((step_pre t x f g).subset h)
theorem fold_mem_gen (x : Nat) : ∀ (gens f : List Nat) {g : Nat}, g ∈ gens → tg t x g ∈ gens.foldl (stepG t x) f
  | [], f, g, h => by cases h
  | a :: gens, f, g, h => by
    rcases List.mem_cons.mp h with rfl | h
    · refine fold_mem_keep x gens _ ?_
      unfold stepG
      split
      · assumption
      · simp
    · exact fold_mem_gen x gens _ h
theorem grow_dup (a b : List Nat) (g x : Nat) (h : g ∈ a) (f : List Nat) : growG t (a ++ g :: b) x f = growG t (a ++ b) x f := by
  unfold growG
  rw [List.foldl_append, List.foldl_append, List.foldl_cons]
  have : stepG t x (a.foldl (stepG t x) f) g = a.foldl (stepG t x) f := by
    have := fold_mem_gen (t := t) x a f h
    exact if_pos this
  rw [this]
theorem bfs_dup (a b : List Nat) (g : Nat) (h : g ∈ a) : bfs t (a ++ g :: b) = bfs t (a ++ b) := by
  have : bfsS t (a ++ g :: b) = bfsS t (a ++ b) := by
    funext c
    unfold bfsS
    rw [grow_dup a b g _ h]
  unfold bfs
  rw [this]
theorem not_nodup : ∀ {g : List Nat}, ¬ g.Nodup → ∃ a x b, g = a ++ x :: b ∧ x ∈ a
  | [], h => absurd List.nodup_nil h
  | y :: g, h => by
    rw [List.nodup_cons, Classical.not_and_iff_not_or_not] at h
    by_cases hm : y ∈ g
    · obtain ⟨a, b, rfl⟩ := List.append_of_mem hm
      exact ⟨y :: a, y, b, rfl, List.mem_cons_self ..⟩
    · have hn : ¬ g.Nodup := fun z => by rcases h with h | h; exact h hm; exact h z
      obtain ⟨a, x, b, rfl, hx⟩ := not_nodup hn
      exact ⟨y :: a, x, b, rfl, List.mem_cons_of_mem _ hx⟩
theorem gens_nodup {k : Nat} (hk : Rank t n k) {g : List Nat} (hg : g ∈ tuplesOf n k) (hf : fullB t n g = true) : g.Nodup := by
  refine Classical.byContradiction fun h => ?_
  obtain ⟨a, x, b, rfl, hx⟩ := not_nodup h
  obtain ⟨h1, h2⟩ := tuples_mem.mp hg
  have hl : (a ++ b).length = k - 1 := by simp at h1 ⊢; omega
  have hk0 : 0 < k := by simp at h1; omega
  have hg' : a ++ b ∈ tuplesOf n (k - 1) := tuples_mem.mpr ⟨hl, fun y hy => h2 y (by
    rcases List.mem_append.mp hy with hy | hy
    · exact List.mem_append_left _ hy
    · exact List.mem_append_right _ (List.mem_cons_of_mem _ hy))⟩
  have hf' : fullB t n (a ++ b) = true := by
    unfold fullB at hf ⊢
    rw [← bfs_dup a b x hx]; exact hf
  have : bfs t (a ++ b) ∈ ordK t n (k - 1) := List.mem_map.mpr ⟨_, List.mem_filter.mpr ⟨hg', hf'⟩, rfl⟩
  rw [hk.below (k - 1) (by omega)] at this
  cases this
theorem ordK_nodup (G : Grp n t 0) {k : Nat} (hk : Rank t n k) : (ordK t n k).Nodup := by
  unfold ordK
  rw [List.Nodup, List.pairwise_map]
  refine List.Pairwise.imp_of_mem ?_ ((tuples_nd (n := n) k).filter _)
  intro g g' hg hg' hne e
  obtain ⟨h1, h2⟩ := List.mem_filter.mp hg
  obtain ⟨h3, h4⟩ := List.mem_filter.mp hg'
  have t1 := tuples_mem.mp h1
  have t3 := tuples_mem.mp h3
  have p1 := bfs_start G t1.2 (gens_nodup hk h1 h2)
  have p3 := bfs_start G t3.2 (gens_nodup hk h3 h4)
  rw [e] at p1
  have := List.prefix_of_prefix_length_le p1 p3 (by simp [t1.1, t3.1])
  have := this.eq_of_length (by simp [t1.1, t3.1])
  exact hne (List.cons.inj this).2
end
end K74

end
section
set_option Elab.async false
set_option linter.all false
namespace K74
open PySem L2 VI
theorem leT_eq (a b : List Nat) : leT a b = !ltF dT b a := rfl
theorem leT_total (a b : List Nat) : (leT a b || leT b a) = true := by
  rw [leT_eq, leT_eq]
  cases h1 : ltF dT b a with
  | false => rfl
  | true =>
    cases h2 : ltF dT a b with
    | false => rfl
    | true =>
      have := ltb_trans h1 h2
      rw [ltb_irr] at this
      cases this
theorem leT_trans (a b c : List Nat) (h1 : leT a b = true) (h2 : leT b c = true) : leT a c = true := by
  rw [leT_eq] at *
  cases h3 : ltF dT c a with
  | false => rfl
  | true =>
    rcases PyProof.Rows.lex_negTrans (O := PyProof.Rows.itemOrd) (W.keyToks (dT c).pd) (W.keyToks (dT b).pd) (W.keyToks (dT a).pd) h3 with h4 | h4
    · rw [show ltF dT c b = true from h4] at h2; cases h2
    · rw [show ltF dT b a = true from h4] at h1; cases h1
theorem leT_anti {a b : List Nat} (h1 : leT a b = true) (h2 : leT b a = true) : a = b := by
  rw [leT_eq] at h1 h2
  have e1 : ltF dT b a = false := by simpa using h1
  have e2 : ltF dT a b = false := by simpa using h2
  have := ltb_total (alf_dT a b) e2 e1
  rw [eqf_dT] at this
  exact of_decide_eq_true this
theorem sortT_perm {l1 l2 : List (List Nat)} (h : l1.Perm l2) : sortT l1 = sortT l2 := by
  have p : (sortT l1).Perm (sortT l2) := (List.mergeSort_perm l1 leT).trans (h.trans (List.mergeSort_perm l2 leT).symm)
  have s1 : (sortT l1).Pairwise fun a b => leT a b = true := List.pairwise_mergeSort (le := leT) leT_trans leT_total l1
  have s2 : (sortT l2).Pairwise fun a b => leT a b = true := List.pairwise_mergeSort (le := leT) leT_trans leT_total l2
  exact List.Perm.eq_of_pairwise (le := fun a b => leT a b = true) (fun a b _ _ h1 h2 => leT_anti h1 h2) s1 s2 p
end K74

end
section
set_option Elab.async false
set_option linter.all false
namespace K74
open PySem L2 VI
section
variable {n : Nat} {one two : List (List Nat)} {k k2 : Nat}
theorem comp_perm {f o : List Nat} (Pf : PermN n f) (Po : PermN n o) : PermN n (compO n f o) := by
  refine ⟨⟨?_, fun x hx => ?_⟩, by simp [compO]⟩
  · unfold compO
    rw [List.Nodup, List.pairwise_map]
    refine List.Pairwise.imp_of_mem ?_ (List.nodup_range (n := n))
    intro a b ha hb hab e
    have ha : a < n := by simpa using ha
    have hb : b < n := by simpa using hb
    have := cell_inj Po (idx_lt Pf ha) (idx_lt Pf hb) e
    exact hab (by rw [← cell_idx Pf ha, ← cell_idx Pf hb, this])
  · obtain ⟨y, hy, rfl⟩ := List.mem_map.mp hx
    exact Po.lt (idx_lt Pf (by simpa using hy))
/-- two orders with the same renamed table: an isomorphism -/
theorem comp_iso {f o : List Nat} (v1 : Valid n one) (v2 : Valid n two) (Pf : PermN n f) (Po : PermN n o) (e : ren two o = ren one f) : Iso n one two (compO n f o) := by
  refine ⟨comp_perm Pf Po, fun x y hx hy => ?_⟩
  have hi := idx_lt Pf hx
  have hj := idx_lt Pf hy
  rw [comp_cell (v1.tlt hx hy), comp_cell hx, comp_cell hy]
  have h1 := ren_cell (t := one) Pf hi hj
  have h2 := ren_cell (t := two) Po hi hj
  rw [cell_idx Pf hx, cell_idx Pf hy] at h1
  rw [e, h1] at h2
  rw [h2, cell_idx Po (v2.tlt (Po.lt hi) (Po.lt hj))]
theorem Iso.zero {p : List Nat} (G1 : Grp n one 0) (G2 : Grp n two 0) (I : Iso n one two p) : cellAt p 0 = 0 := by
  have h := I.hom 0 0 G1.un G1.un
  rw [G1.ul 0 G1.un] at h
  exact G2.idem (I.perm.lt G1.un) h.symm
theorem comp_back {f z : List Nat} (Pf : PermN n f) (Pz : PermN n z) : compO n f (f.map (cellAt z)) = z := by
  refine list_ext (n := n) (by simp [compO]) Pz.len fun y hy => ?_
  rw [comp_cell hy, cell_map (by rw [Pf.len]; exact idx_lt Pf hy), cell_idx Pf hy]
theorem mem_isoL (G1 : Grp n one 0) (G2 : Grp n two 0) (hn : n ≤ 100) (hk : Rank one n k) (hk2 : Rank two n k2) (z : List Nat) (hkk : k = k2) : z ∈ isoL one two n k k2 ↔ Iso n one two z := by
  subst hkk
  have h0 := G1.un
  have hf := first_mem hk
  have Pf := ordK_perm G1.v h0 hn hf
  constructor
  · intro hz
    obtain ⟨o, ho, rfl⟩ := List.mem_map.mp hz
    obtain ⟨ho, e⟩ := List.mem_filter.mp ho
    exact comp_iso G1.v G2.v Pf (ordK_perm G2.v h0 hn ho) (of_decide_eq_true e)
  · intro I
    have hz0 := Iso.zero G1 G2 I
    refine List.mem_map.mpr ⟨(firstG one n k).map (cellAt z), List.mem_filter.mpr ⟨ordK_map G1.v I h0 hz0 hf, decide_eq_true (ren_iso G1.v I Pf)⟩, comp_back Pf I.perm⟩
theorem comp_inj {f o o' : List Nat} (Pf : PermN n f) (Po : PermN n o) (Po' : PermN n o') (e : compO n f o = compO n f o') : o = o' := by
  refine list_ext Po.len Po'.len fun i hi => ?_
  have h := congrArg (fun l => cellAt l (cellAt f i)) e
  have h : cellAt (compO n f o) (cellAt f i) = cellAt (compO n f o') (cellAt f i) := h
  rw [comp_cell (Pf.lt hi), comp_cell (Pf.lt hi)] at h
  have e2 : f.idxOf (cellAt f i) = i := cell_inj Pf (idx_lt Pf (Pf.lt hi)) hi (cell_idx Pf (Pf.lt hi))
  rw [e2] at h
  exact h
theorem isoL_nodup (G1 : Grp n one 0) (G2 : Grp n two 0) (hn : n ≤ 100) (hk : Rank one n k) (hk2 : Rank two n k2) : (isoL one two n k k2).Nodup := by
  have h0 := G1.un
  have Pf := ordK_perm G1.v h0 hn (first_mem hk)
  unfold isoL
  rw [List.Nodup, List.pairwise_map]
  refine List.Pairwise.imp_of_mem ?_ ((ordK_nodup G2 hk2).filter _)
  intro a b ha hb hab e
  exact hab (comp_inj Pf (ordK_perm G2.v h0 hn (List.mem_filter.mp ha).1) (ordK_perm G2.v h0 hn (List.mem_filter.mp hb).1) e)
end
end K74

end
section
set_option Elab.async false
set_option linter.all false
namespace K74
open PySem L2 VI
section
variable {n : Nat} {one two : List (List Nat)} {k : Nat}
theorem idx_inv {o : List Nat} (P : PermN n o) {i : Nat} (hi : i < n) : (inv n o).idxOf i = cellAt o i := by
  have Pi := inv_perm P
  refine cell_inj Pi (idx_lt Pi hi) (P.lt hi) ?_
  rw [cell_idx Pi hi, inv_inv_cell P hi]
theorem map_comp {o o2 : List Nat} (P : PermN n o) (P2 : PermN n o2) : (inv n o).map (fun i => (inv n o2).idxOf i) = compO n o o2 := by
  refine list_ext (n := n) (by simp [inv]) (by simp [compO]) fun y hy => ?_
  rw [cell_map (by simp [inv]; exact hy), inv_cell hy, comp_cell hy, idx_inv P2 (idx_lt P hy)]
theorem back_of (hk : Rank two n k) : ∃ o2, o2 ∈ ordK two n k ∧ ren two o2 = formG two n k ∧ backG two n k = inv n o2 := by
  obtain ⟨o2, h, e⟩ := List.mem_map.mp (back_mem hk)
  obtain ⟨h1, h2⟩ := List.mem_filter.mp h
  exact ⟨o2, h1, of_decide_eq_true h2, e.symm⟩
theorem mem_isoP (G1 : Grp n one 0) (G2 : Grp n two 0) (hn : n ≤ 100) (hk : Rank one n k) (hk2 : Rank two n k) (hf : formG one n k = formG two n k) (z : List Nat) : z ∈ isoP one two n k k ↔ Iso n one two z := by
  have h0 := G1.un
  obtain ⟨o2, ho2, e2, eb⟩ := back_of hk2
  have P2 := ordK_perm G2.v h0 hn ho2
  unfold isoP
  rw [eb]
  constructor
  · intro hz
    obtain ⟨im, him, rfl⟩ := List.mem_map.mp hz
    obtain ⟨o, ho, rfl⟩ := List.mem_map.mp (mem_sortT.mp him)
    obtain ⟨ho, e⟩ := List.mem_filter.mp ho
    have P := ordK_perm G1.v h0 hn ho
    rw [map_comp P P2]
    exact comp_iso G1.v G2.v P P2 (by rw [e2, ← hf, of_decide_eq_true e])
  · intro I
    have J := I.symm G1.v G2.v
    have hz0 := inv_zero I.perm h0 (Iso.zero G1 G2 I)
    have ho := ordK_map G2.v J h0 hz0 ho2
    have P := ordK_perm G1.v h0 hn ho
    have er := ren_iso G2.v J P2
    refine List.mem_map.mpr ⟨inv n (o2.map (cellAt (inv n z))), mem_sortT.mpr (List.mem_map.mpr ⟨_, List.mem_filter.mpr ⟨ho, decide_eq_true (by rw [er, e2, hf])⟩, rfl⟩), ?_⟩
    rw [map_comp P P2]
    refine list_ext (n := n) (by simp [compO]) I.perm.len fun y hy => ?_
    rw [comp_cell hy]
    have h1 := cell_idx P hy
    have hi := idx_lt P hy
    rw [cell_map (by rw [P2.len]; exact hi)] at h1
    have h2 := P2.lt hi
    rw [inv_cell h2] at h1
    have h3 := cell_idx I.perm h2
    rw [h1] at h3
    exact h3.symm
end
end K74

end
section
set_option Elab.async false
set_option linter.all false
namespace K74
open PySem L2 VI
section
variable {n : Nat} {one two : List (List Nat)} {k : Nat}
theorem mapsG_nodup (G1 : Grp n one 0) (hn : n ≤ 100) (hk : Rank one n k) : (mapsG one n k).Nodup := by
  have h0 := G1.un
  unfold mapsG
  rw [List.Nodup, List.pairwise_map]
  refine List.Pairwise.imp_of_mem ?_ ((ordK_nodup G1 hk).filter _)
  intro a b ha hb hab e
  have Pa := ordK_perm G1.v h0 hn (List.mem_filter.mp ha).1
  have Pb := ordK_perm G1.v h0 hn (List.mem_filter.mp hb).1
  refine hab (list_ext Pa.len Pb.len fun i hi => ?_)
  rw [← idx_inv Pa hi, ← idx_inv Pb hi, e]
theorem isoP_nodup (G1 : Grp n one 0) (G2 : Grp n two 0) (hn : n ≤ 100) (hk : Rank one n k) (hk2 : Rank two n k) : (isoP one two n k k).Nodup := by
  have h0 := G1.un
  obtain ⟨o2, ho2, e2, eb⟩ := back_of hk2
  have P2 := ordK_perm G2.v h0 hn ho2
  unfold isoP
  rw [eb, List.Nodup, List.pairwise_map]
  have hnd : (sortT (mapsG one n k)).Nodup := (List.mergeSort_perm (mapsG one n k) leT).nodup_iff.mpr (mapsG_nodup G1 hn hk)
  refine List.Pairwise.imp_of_mem ?_ hnd
  intro a b ha hb hab e
  have Pa := mapsG_perm G1.v h0 hn (mem_sortT.mp ha)
  have Pb := mapsG_perm G1.v h0 hn (mem_sortT.mp hb)
  refine hab (list_ext Pa.len Pb.len fun i hi => ?_)
  have h := congrArg (fun l => cellAt l i) e
  have h : cellAt (a.map fun i => (inv n o2).idxOf i) i = cellAt (b.map fun i => (inv n o2).idxOf i) i := h
  rw [cell_map (by rw [Pa.len]; exact hi), cell_map (by rw [Pb.len]; exact hi)] at h
  exact cell_inj (inv_perm (inv_perm P2)) (Pa.lt hi) (Pb.lt hi) (by rw [inv_cell (Pa.lt hi), inv_cell (Pb.lt hi), h])
theorem iso_same (G1 : Grp n one 0) (G2 : Grp n two 0) (hn : n ≤ 100) (hk : Rank one n k) (hk2 : Rank two n k) (hf : formG one n k = formG two n k) : sortT (isoP one two n k k) = sortT (isoL one two n k k) := by
  refine sortT_perm ((List.perm_ext_iff_of_nodup (isoP_nodup G1 G2 hn hk hk2) (isoL_nodup G1 G2 hn hk hk2)).mpr fun z => ?_)
  rw [mem_isoP G1 G2 hn hk hk2 hf, mem_isoL G1 G2 hn hk hk2 z rfl]
theorem form_same {p : List Nat} (G1 : Grp n one 0) (G2 : Grp n two 0) (hn : n ≤ 100) (hk : Rank one n k) (hk2 : Rank two n k) (I : Iso n one two p) : formG one n k = formG two n k := by
  have h0 := G1.un
  have hp := Iso.zero G1 G2 I
  have hm : ∀ z, z ∈ (ordK one n k).map (ren one) ↔ z ∈ (ordK two n k).map (ren two) := fun z => by
    constructor
    · intro h
      obtain ⟨o, ho, rfl⟩ := List.mem_map.mp h
      exact List.mem_map.mpr ⟨_, ordK_map G1.v I h0 hp ho, ren_iso G1.v I (ordK_perm G1.v h0 hn ho)⟩
    · intro h
      obtain ⟨o, ho, rfl⟩ := List.mem_map.mp h
      have J := I.symm G1.v G2.v
      exact List.mem_map.mpr ⟨_, ordK_map G2.v J h0 (inv_zero I.perm h0 hp) ho, ren_iso G2.v J (ordK_perm G2.v h0 hn ho)⟩
  unfold formG
  have n1 : (ordK one n k).map (ren one) ≠ [] := by simpa using hk.at_
  have n2 : (ordK two n k).map (ren two) ≠ [] := by simpa using hk2.at_
  revert hm n1 n2
  generalize (ordK one n k).map (ren one) = a
  generalize (ordK two n k).map (ren two) = b
  intro hm n1 n2
  cases a with
  | nil => exact absurd rfl n1
  | cons x xs =>
    cases b with
    | nil => exact absurd rfl n2
    | cons y ys => exact minF_same eqf_dTT alf_dTT hm
end
end K74

end
section
set_option Elab.async false
set_option linter.all false
namespace K74
open PySem L2 VI
section
variable {n n2 : Nat} {one two t : List (List Nat)} {k k2 : Nat}
theorem rank_uniq (h : Rank t n k) (h2 : Rank t n k2) : k = k2 := by
  rcases Nat.lt_trichotomy k k2 with e | e | e
  · exact absurd (h2.below k e) h.at_
  · exact e
  · exact absurd (h.below k2 e) h2.at_
theorem form_at (hk : Rank t n k) : ∃ o, o ∈ ordK t n k ∧ ren t o = formG t n k := by
  have h1 : (ordK t n k).map (ren t) ≠ [] := by simpa using hk.at_
  exact List.mem_map.mp (formOf_mem h1)
theorem form_len (v : Valid n t) (h0 : 0 < n) (hn : n ≤ 100) (hk : Rank t n k) : (formG t n k).length = n := by
  obtain ⟨o, ho, e⟩ := form_at hk
  rw [← e]
  simp [ren, (ordK_perm v h0 hn ho).len]
theorem form_iso (v1 : Valid n one) (v2 : Valid n two) (h0 : 0 < n) (hn : n ≤ 100) (hk : Rank one n k) (hk2 : Rank two n k2) (hf : formG one n k = formG two n k2) : ∃ z, Iso n one two z := by
  obtain ⟨o1, h1, e1⟩ := form_at hk
  obtain ⟨o2, h2, e2⟩ := form_at hk2
  exact ⟨_, comp_iso v1 v2 (ordK_perm v1 h0 hn h1) (ordK_perm v2 h0 hn h2) (by rw [e2, e1, hf])⟩
end
end K74

end
section
set_option Elab.async false
set_option linter.all false
namespace K74
open PySem L2 VI
theorem odd_int (k x : Nat) : f_law_odd (k + 1) [.fz (di x)] = .ok (.fz (.bl false)) [] := by
  have h1 : semEq (di x) (.str "a word that nothing else is") = some (.sc (.bl false)) := by
    have a : D.okd (.str "a word that nothing else is") = true := by decide +kernel
    unfold semEq
    rw [a]
    simp [D.eqb, D.pd, PyData.eqv]
    rfl
  have h2 : semIsiA [di x, .tup [.ty "tuple", .ty "list"]] = some (.sc (.bl false)) := rfl
  simp [f_law_odd, semDef, b_law_odd, b_law_odd_0, b_law_odd_1, rho0, h1, h2]
theorem odd_tup {α : Type} {f : α → D} {k : Nat} (hf : ∀ a, f_law_odd k [.fz (f a)] = .ok (.fz (.bl false)) []) (xs : List α) (hl : D.okd (.tup (xs.map f)) = true) : f_law_odd (k + 1) [.fz (.tup (xs.map f))] = .ok (.fz (.bl false)) [] := by
  have h1 : semEq (.tup (xs.map f)) (.str "a word that nothing else is") = some (.sc (.bl false)) := by
    have a : D.okd (.str "a word that nothing else is") = true := by decide +kernel
    unfold semEq
    rw [a, hl]
    simp [D.eqb, D.pd, PyData.eqv]
  have h2 : semIsiA [.tup (xs.map f), .tup [.ty "tuple", .ty "list"]] = some (.sc (.bl true)) := rfl
  have h3 : lcL [1] (gN 1) (t_law_odd_0 (f_law_odd k)) (e_law_odd_0 (f_law_odd k)) (xs.map f) [.fz (.tup (xs.map f)), .no] = .ok ((xs.filter fun _ => false).map f) [.fz (.tup (xs.map f)), .no] :=
    lcL_filter xs fun x hx => by simp [t_law_odd_0, hf]
  have h4 : (xs.filter fun _ => false) = [] := by simp
  rw [h4] at h3
  simp [f_law_odd, semDef, b_law_odd, b_law_odd_0, b_law_odd_1, rho0, h1, h2, plainVars, h3]
theorem odd_dT (k : Nat) (r : List Nat) : f_law_odd (k + 2) [.fz (dT r)] = .ok (.fz (.bl false)) [] := odd_tup (f := di) (odd_int k) r (lef_dT.okd (by decide) r)
theorem odd_dTT (k : Nat) (t : List (List Nat)) : f_law_odd (k + 3) [.fz (dTT t)] = .ok (.fz (.bl false)) [] := odd_tup (f := dT) (odd_dT k) t (lef_dTT.okd (by decide) t)
theorem ev_honest (t : List (List Nat)) : f_law_honest [.fz (dTT t)] = .ok (.fz (dTT t)) [] := by
  have := odd_dTT 9 t
  simp [f_law_honest, semDef, b_law_honest, b_law_honest_0, rho0, this]
end K74

end
section
set_option Elab.async false
set_option linter.all false
set_option maxRecDepth 10000
namespace K74
open PySem L2 VI
theorem eq_lit (a b : Nat) : semEq (di a) (di b) = some (.sc (.bl (decide (a = b)))) := len_eq a b
theorem some_0 (s t0 : Nat) (g : Bool) (s1 t1 : Nat) (e1 : f_law_take [.io (stO s t0), .fz (di 6)] = .ok (.fz (di 0)) [stO s1 t1]) : ∃ s' t' n T, Base n T ∧ f_law_some [.io (stO s t0), .fz (.bl g)] = .ok (.ow (.lst (T.map dT))) [stO s' t'] := by
  obtain ⟨r2, s2, t2, h2, e2⟩ := ev_take s1 t1 10 (by omega) (by omega)
  obtain ⟨n, T, B, hT⟩ := okF_ok (base_cyc r2 h2)
  refine ⟨s2, t2, n, T, B, ?_⟩
  have d6 : di 6 = D.int 6 := rfl
  have d10 : di 10 = D.int 10 := rfl
  have hd : D.int (7 + (r2 : Int)) = di (7 + r2) := rfl
  have q0 : semEq (di 0) (.int 0) = some (.sc (.bl true)) := eq_lit 0 0
  rw [d6] at e1
  rw [d10] at e2
  simp [f_law_some, semDef, b_law_some, b_law_some_0, b_law_some_1, rho0, e1, q0, e2, hd, hT]
theorem q_ne {a b : Nat} (h : a ≠ b) : semEq (di a) (di b) = some (.sc (.bl false)) := by rw [eq_lit, decide_eq_false h]
theorem q_eq (a : Nat) : semEq (di a) (di a) = some (.sc (.bl true)) := by rw [eq_lit, decide_eq_true rfl]
theorem some_1 (s t0 : Nat) (g : Bool) (s1 t1 : Nat) (e1 : f_law_take [.io (stO s t0), .fz (di 6)] = .ok (.fz (di 1)) [stO s1 t1]) : ∃ s' t' n T, Base n T ∧ f_law_some [.io (stO s t0), .fz (.bl g)] = .ok (.ow (.lst (T.map dT))) [stO s' t'] := by
  obtain ⟨r2, s2, t2, h2, e2⟩ := ev_take s1 t1 5 (by omega) (by omega)
  obtain ⟨n, T, B, hT⟩ := okF_ok (base_turns r2 h2)
  refine ⟨s2, t2, n, T, B, ?_⟩
  have hd : D.int (4 + (r2 : Int)) = di (4 + r2) := rfl
  have q0 : semEq (di 1) (.int 0) = some (.sc (.bl false)) := q_ne (a := 1) (b := 0) (by decide)
  have q1 : semEq (di 1) (.int 1) = some (.sc (.bl true)) := q_eq 1
  rw [show di 6 = D.int 6 from rfl] at e1
  rw [show di 5 = D.int 5 from rfl] at e2
  simp [f_law_some, semDef, b_law_some, b_law_some_0, b_law_some_1, b_law_some_2, rho0, e1, q0, q1, e2, hd, hT]
theorem some_2 (s t0 : Nat) (g : Bool) (s1 t1 : Nat) (e1 : f_law_take [.io (stO s t0), .fz (di 6)] = .ok (.fz (di 2)) [stO s1 t1]) : ∃ s' t' n T, Base n T ∧ f_law_some [.io (stO s t0), .fz (.bl g)] = .ok (.ow (.lst (T.map dT))) [stO s' t'] := by
  obtain ⟨n, T, B, hT⟩ := okF_ok base_quat
  refine ⟨s1, t1, n, T, B, ?_⟩
  have q0 : semEq (di 2) (.int 0) = some (.sc (.bl false)) := q_ne (a := 2) (b := 0) (by decide)
  have q1 : semEq (di 2) (.int 1) = some (.sc (.bl false)) := q_ne (a := 2) (b := 1) (by decide)
  have q2 : semEq (di 2) (.int 2) = some (.sc (.bl true)) := q_eq 2
  rw [show di 6 = D.int 6 from rfl] at e1
  simp [f_law_some, semDef, b_law_some, b_law_some_0, b_law_some_1, b_law_some_2, b_law_some_3, rho0, e1, q0, q1, q2, hT]
end K74

end
section
set_option Elab.async false
set_option linter.all false
set_option maxRecDepth 10000
namespace K74
open PySem L2 VI
def t4 : List (List Nat) := (decF (f_law_orders [.fz (di 4)])).getD []
theorem orders4 : f_law_orders [.fz (di 4)] = .ok (.ow (.lst (t4.map dT))) [] := by
  have h : (decF (f_law_orders [.fz (di 4)])).isSome = true := by decide +kernel
  obtain ⟨t, ht⟩ := Option.isSome_iff_exists.mp h
  have e : t4 = t := by unfold t4; rw [ht]; rfl
  rw [e]; exact decF_ok ht
theorem ords_eq : ordsOf = t4.map dT := by
  unfold ordsOf; rw [orders4]
def evB (d : D) : Bool := match f_law_even [.fz d] with
  | .ok (.fz (.bl _)) [] => true
  | _ => false
theorem evB_ok {d : D} (h : evB d = true) : f_law_even [.fz d] = .ok (.fz (.bl (evenD d))) [] := by
  unfold evB at h
  unfold evenD
  split at h
  · rename_i heq; rw [heq]
  · cases h
theorem even4 : ∀ g ∈ t4, f_law_even [.fz (dT g)] = .ok (.fz (.bl (evenD (dT g)))) [] := by
  have h : ((t4.map dT).all evB) = true := by rw [← ords_eq]; decide +kernel
  intro g hg
  exact evB_ok (List.all_eq_true.mp h _ (List.mem_map.mpr ⟨g, hg, rfl⟩))
end K74

end
section
set_option Elab.async false
set_option linter.all false
set_option maxRecDepth 10000
namespace K74
open PySem L2 VI
theorem some_3 (s t0 : Nat) (g : Bool) (s1 t1 : Nat) (e1 : f_law_take [.io (stO s t0), .fz (di 6)] = .ok (.fz (di 3)) [stO s1 t1]) : ∃ s' t' n T, Base n T ∧ f_law_some [.io (stO s t0), .fz (.bl g)] = .ok (.ow (.lst (T.map dT))) [stO s' t'] := by
  obtain ⟨n, T, B, hT⟩ := okF_ok base_a4
  refine ⟨s1, t1, n, T, B, ?_⟩
  have q0 : semEq (di 3) (.int 0) = some (.sc (.bl false)) := q_ne (a := 3) (b := 0) (by decide)
  have q1 : semEq (di 3) (.int 1) = some (.sc (.bl false)) := q_ne (a := 3) (b := 1) (by decide)
  have q2 : semEq (di 3) (.int 2) = some (.sc (.bl false)) := q_ne (a := 3) (b := 2) (by decide)
  have q3 : semEq (di 3) (.int 3) = some (.sc (.bl true)) := q_eq 3
  have ho := orders4
  rw [show di 4 = D.int 4 from rfl] at ho
  have hlc : lcL [3] (gN 3) t_law_some_0 e_law_some_0 (t4.map dT) [.io (stO s1 t1), .fz (.bl g), .fz (di 3), .no, .no, .no] = .ok ((t4.filter fun x => evenD (dT x)).map dT) [.io (stO s1 t1), .fz (.bl g), .fz (di 3), .no, .no, .no] :=
    lcL_filter t4 fun x hx => by simp [t_law_some_0, e_law_some_0, even4 x hx]
  have hfe : (t4.filter fun x => evenD (dT x)).map dT = ordsOf.filter evenD := by
    rw [ords_eq, List.filter_map]; rfl
  have hlen : (ordsOf.filter evenD).length ≤ 1000000 := by
    have h : decide (ordsOf.length ≤ 100) = true := by decide +kernel
    have := of_decide_eq_true h
    exact Nat.le_trans (List.length_filter_le _ _) (by omega)
  rw [hfe] at hlc
  rw [show di 6 = D.int 6 from rfl] at e1
  simp [f_law_some, semDef, b_law_some, b_law_some_0, b_law_some_1, b_law_some_2, b_law_some_3, b_law_some_4, rho0, e1, q0, q1, q2, q3, ho, plainVars, hlc, hlen, hT]
end K74

end
section
set_option Elab.async false
set_option linter.all false
set_option maxRecDepth 10000
namespace K74
open PySem L2 VI
theorem some_4 (s t0 : Nat) (s1 t1 : Nat) (e1 : f_law_take [.io (stO s t0), .fz (di 6)] = .ok (.fz (di 4)) [stO s1 t1]) : ∃ s' t' n T, Base n T ∧ f_law_some [.io (stO s t0), .fz (.bl true)] = .ok (.ow (.lst (T.map dT))) [stO s' t'] := by
  have hb : okF (f_law_group_of [.fz (.lst (t4.map dT))]) = true := by
    have := base_s4
    rw [orders4] at this
    exact this
  obtain ⟨n, T, B, hT⟩ := okF_ok hb
  refine ⟨s1, t1, n, T, B, ?_⟩
  have q0 : semEq (di 4) (.int 0) = some (.sc (.bl false)) := q_ne (a := 4) (b := 0) (by decide)
  have q1 : semEq (di 4) (.int 1) = some (.sc (.bl false)) := q_ne (a := 4) (b := 1) (by decide)
  have q2 : semEq (di 4) (.int 2) = some (.sc (.bl false)) := q_ne (a := 4) (b := 2) (by decide)
  have q3 : semEq (di 4) (.int 3) = some (.sc (.bl false)) := q_ne (a := 4) (b := 3) (by decide)
  have q4 : semEq (di 4) (.int 4) = some (.sc (.bl true)) := q_eq 4
  have ho := orders4
  rw [show di 4 = D.int 4 from rfl] at ho
  rw [show di 6 = D.int 6 from rfl] at e1
  simp [f_law_some, semDef, b_law_some, b_law_some_0, b_law_some_1, b_law_some_2, b_law_some_3, b_law_some_4, b_law_some_5, rho0, e1, q0, q1, q2, q3, q4, ho, hT]
end K74

end
section
set_option Elab.async false
set_option linter.all false
set_option maxRecDepth 10000
namespace K74
open PySem L2 VI
theorem cycs : ∀ k ∈ [2, 3, 4, 5, 6, 8], ∃ T : List (List Nat), f_law_cyclic [.fz (di k)] = .ok (.ow (.lst (T.map dT))) [] := by
  have h : ([2, 3, 4, 5, 6, 8].all fun k => (decF (f_law_cyclic [.fz (di k)])).isSome) = true := by decide +kernel
  intro k hk
  obtain ⟨t, ht⟩ := Option.isSome_iff_exists.mp (List.all_eq_true.mp h k hk)
  exact ⟨t, decF_ok ht⟩
theorem tail_7 (st s1 s2 : SV) (a b : Nat) (ha : a ∈ [2, 3, 4, 5, 6, 8]) (hb : b ∈ [2, 3, 4, 5, 6, 8])
    (hp : okF (f_law_times_table [.fz (dsOf (f_law_cyclic [.fz (di a)])), .fz (dsOf (f_law_cyclic [.fz (di b)]))]) = true) :
    ∃ n T, Base n T ∧ b_law_some_7 [st, s1, s2, .no, .fz (di a), .fz (di b)] = .ok (.rt (.ow (.lst (T.map dT)))) [st, s1, s2, .no, .fz (di a), .fz (di b)] := by
  obtain ⟨ta, ea⟩ := cycs a ha
  obtain ⟨tb, eb⟩ := cycs b hb
  rw [ea, eb] at hp
  obtain ⟨n, T, B, hT⟩ := okF_ok hp
  refine ⟨n, T, B, ?_⟩
  simp only [dsOf] at hT
  simp [b_law_some_7, ea, eb, hT]
theorem tail_6 (s t0 : Nat) (s1 s2 : SV) : ∃ s' t' a b, (a, b) ∈ [(2, 4), (3, 3), (2, 6), (2, 8), (4, 4), (3, 4), (2, 5)] ∧
    b_law_some_6 [.io (stO s t0), s1, s2, .no, .no, .no] = .ok .nx [.io (stO s' t'), s1, s2, .no, .fz (di a), .fz (di b)] := by
  obtain ⟨r, s', t', hr, e⟩ := ev_take s t0 7 (by omega) (by omega)
  rw [show di 7 = D.int 7 from rfl] at e
  have key : ∀ a b : Nat, atI [D.tup [.int 2, .int 4], .tup [.int 3, .int 3], .tup [.int 2, .int 6], .tup [.int 2, .int 8], .tup [.int 4, .int 4], .tup [.int 3, .int 4], .tup [.int 2, .int 5]] (r : Int) = some (.tup [di a, di b]) →
      b_law_some_6 [.io (stO s t0), s1, s2, .no, .no, .no] = .ok .nx [.io (stO s' t'), s1, s2, .no, .fz (di a), .fz (di b)] := fun a b h => by
    simp [b_law_some_6, e, h, gTp, gsCons, gsNil]
  have : r = 0 ∨ r = 1 ∨ r = 2 ∨ r = 3 ∨ r = 4 ∨ r = 5 ∨ r = 6 := by omega
  rcases this with rfl | rfl | rfl | rfl | rfl | rfl | rfl
  · exact ⟨s', t', 2, 4, by decide, key 2 4 rfl⟩
  · exact ⟨s', t', 3, 3, by decide, key 3 3 rfl⟩
  · exact ⟨s', t', 2, 6, by decide, key 2 6 rfl⟩
  · exact ⟨s', t', 2, 8, by decide, key 2 8 rfl⟩
  · exact ⟨s', t', 4, 4, by decide, key 4 4 rfl⟩
  · exact ⟨s', t', 3, 4, by decide, key 3 4 rfl⟩
  · exact ⟨s', t', 2, 5, by decide, key 2 5 rfl⟩
theorem some_tail (s t0 : Nat) (s1 s2 : SV) : ∃ s' t' a b n T, Base n T ∧
    sSeq b_law_some_6 b_law_some_7 [.io (stO s t0), s1, s2, .no, .no, .no] = .ok (.rt (.ow (.lst (T.map dT)))) [.io (stO s' t'), s1, s2, .no, .fz (di a), .fz (di b)] := by
  obtain ⟨s', t', a, b, hm, e⟩ := tail_6 s t0 s1 s2
  have ha : a ∈ [2, 3, 4, 5, 6, 8] := (show ∀ p ∈ [(2, 4), (3, 3), (2, 6), (2, 8), (4, 4), (3, 4), (2, 5)], p.1 ∈ [2, 3, 4, 5, 6, 8] by decide) (a, b) hm
  have hb : b ∈ [2, 3, 4, 5, 6, 8] := (show ∀ p ∈ [(2, 4), (3, 3), (2, 6), (2, 8), (4, 4), (3, 4), (2, 5)], p.2 ∈ [2, 3, 4, 5, 6, 8] by decide) (a, b) hm
  obtain ⟨n, T, B, h7⟩ := tail_7 (.io (stO s' t')) s1 s2 a b ha hb (base_prod (a, b) hm)
  exact ⟨s', t', a, b, n, T, B, by rw [s_sSeq, e]; exact h7⟩
theorem some_5 (s t0 : Nat) (g : Bool) (P : Nat) (hP : (P = 4 ∧ g = false) ∨ P = 5) (s1 t1 : Nat) (e1 : f_law_take [.io (stO s t0), .fz (di 6)] = .ok (.fz (di P)) [stO s1 t1]) : ∃ s' t' n T, Base n T ∧ f_law_some [.io (stO s t0), .fz (.bl g)] = .ok (.ow (.lst (T.map dT))) [stO s' t'] := by
  obtain ⟨s', t', a, b, n, T, B, h⟩ := some_tail s1 t1 (.fz (.bl g)) (.fz (di P))
  refine ⟨s', t', n, T, B, ?_⟩
  have q0 : semEq (di P) (.int 0) = some (.sc (.bl false)) := q_ne (a := P) (b := 0) (by omega)
  have q1 : semEq (di P) (.int 1) = some (.sc (.bl false)) := q_ne (a := P) (b := 1) (by omega)
  have q2 : semEq (di P) (.int 2) = some (.sc (.bl false)) := q_ne (a := P) (b := 2) (by omega)
  have q3 : semEq (di P) (.int 3) = some (.sc (.bl false)) := q_ne (a := P) (b := 3) (by omega)
  have q4 : semEq (di P) (.int 4) = some (.sc (.bl (decide (P = 4)))) := eq_lit P 4
  have f5 : b_law_some_5 [.io (stO s1 t1), .fz (.bl g), .fz (di P), .no, .no, .no] = .ok .nx [.io (stO s1 t1), .fz (.bl g), .fz (di P), .no, .no, .no] := by
    rcases hP with ⟨rfl, rfl⟩ | rfl
    · simp [b_law_some_5, q4]
    · simp [b_law_some_5, q4]
  rw [show di 6 = D.int 6 from rfl] at e1
  rw [s_sSeq] at h
  simp [f_law_some, semDef, b_law_some, b_law_some_0, b_law_some_1, b_law_some_2, b_law_some_3, b_law_some_4, rho0, e1, q0, q1, q2, q3, f5, h]
theorem ev_some (s t0 : Nat) (g : Bool) : ∃ s' t' n T, Base n T ∧ f_law_some [.io (stO s t0), .fz (.bl g)] = .ok (.ow (.lst (T.map dT))) [stO s' t'] := by
  obtain ⟨r, s1, t1, hr, e⟩ := ev_take s t0 6 (by omega) (by omega)
  have : r = 0 ∨ r = 1 ∨ r = 2 ∨ r = 3 ∨ r = 4 ∨ r = 5 := by omega
  rcases this with rfl | rfl | rfl | rfl | rfl | rfl
  · exact some_0 s t0 g s1 t1 e
  · exact some_1 s t0 g s1 t1 e
  · exact some_2 s t0 g s1 t1 e
  · exact some_3 s t0 g s1 t1 e
  · cases g with
    | true => exact some_4 s t0 s1 t1 e
    | false => exact some_5 s t0 false 4 (.inl ⟨rfl, rfl⟩) s1 t1 e
  · exact some_5 s t0 g 5 (.inr rfl) s1 t1 e
end K74

end
section
set_option Elab.async false
set_option linter.all false
set_option maxRecDepth 10000
namespace K74
open PySem L2 VI
theorem Base.v {n : Nat} {T : List (List Nat)} (B : Base n T) : Valid n T := B.g.v
theorem sh_base {n s t : Nat} {T : List (List Nat)} (B : Base n T) : ∃ s' t' T', Base n T' ∧ f_law_shuffled [.io (stO s t), .fz (dLT T)] = .ok (.ow (.lst (T'.map dT))) [stO s' t'] := by
  have lo := B.lo
  have hi := B.hi
  obtain ⟨s', t', T', p, v', I, hp, e⟩ := ev_shuffled (s := s) (t := t) B.g (by omega)
  obtain ⟨k, hk⟩ := B.rk
  have g' := B.g.iso v' I
  rw [hp] at g'
  exact ⟨s', t', T', ⟨lo, hi, g', k, rank_iso B.v v' I (by omega) hp hk⟩, e⟩
/-- the isomorphisms, both ways -/
theorem due_ex {n1 n2 k1 k2 : Nat} {T1 T2 : List (List Nat)} (B1 : Base n1 T1) (B2 : Base n2 T2) (hk1 : Rank T1 n1 k1) (hk2 : Rank T2 n2 k2) :
    ∃ D, f_law_isomorphisms [.fz (dLT T1), .fz (dLT T2)] = .ok (.fz (dTT D)) [] ∧ f_group_isomorphisms [.fz (dLT T1), .fz (dLT T2)] = .ok (.fz (dTT D)) [] ∧
      decide (formG T2 n2 k2 = formG T1 n1 k1) = decide (0 < D.length) := by
  have l1 := B1.lo
  have h1 := B1.hi
  have l2 := B2.lo
  have h2 := B2.hi
  have noF : formG T1 n1 k1 ≠ formG T2 n2 k2 → f_group_isomorphisms [.fz (dLT T1), .fz (dLT T2)] = .ok (.fz (dTT [])) [] := fun h =>
    ev_iso_no Ctr.lst Ctr.tup Ctr.lst Ctr.tup B1.v B2.v l1 (by omega) l2 (by omega) hk1 hk2 h
  by_cases hn : n2 = n1
  · subst hn
    have eL := ev_isoL B1.v B2.v l1 (by omega) hk1 hk2
    by_cases hF : formG T1 n2 k1 = formG T2 n2 k2
    · obtain ⟨z, I⟩ := form_iso B1.v B2.v (by omega) (by omega) hk1 hk2 hF
      have hz := I.zero B1.g B2.g
      have hkk : k1 = k2 := rank_uniq (rank_iso B1.v B2.v I (by omega) hz hk1) hk2
      subst hkk
      have eP := ev_iso Ctr.lst Ctr.tup Ctr.lst Ctr.tup B1.v B2.v l1 (by omega) hk1 hk2 hF
      rw [iso_same B1.g B2.g (by omega) hk1 hk2 hF] at eP
      refine ⟨_, eL, eP, ?_⟩
      have hm := (mem_isoL B1.g B2.g (by omega) hk1 hk2 z rfl).mpr I
      have : 0 < (sortT (isoL T1 T2 n2 k1 k1)).length := by
        rw [len_sortT]; exact List.length_pos_of_mem hm
      rw [decide_eq_true hF.symm, decide_eq_true this]
    · have no : isoL T1 T2 n2 k1 k2 = [] := by
        unfold isoL
        rw [List.map_eq_nil_iff, List.filter_eq_nil_iff]
        intro o ho e
        have e := of_decide_eq_true e
        have I := comp_iso B1.v B2.v (ordK_perm B1.v (by omega) (by omega) (first_mem hk1)) (ordK_perm B2.v (by omega) (by omega) ho) e
        have hz := I.zero B1.g B2.g
        have hkk : k1 = k2 := rank_uniq (rank_iso B1.v B2.v I (by omega) hz hk1) hk2
        subst hkk
        exact hF (form_same B1.g B2.g (by omega) hk1 hk2 I)
      rw [no, show sortT [] = [] from by have := len_sortT []; exact List.eq_nil_of_length_eq_zero this] at eL
      refine ⟨[], eL, noF hF, ?_⟩
      have hF' : ¬ formG T2 n2 k2 = formG T1 n2 k1 := fun e => hF e.symm
      rw [decide_eq_false hF']; rfl
  · have f1 := form_len B1.v (by omega) (by omega) hk1
    have f2 := form_len B2.v (by omega) (by omega) hk2
    have hF : formG T1 n1 k1 ≠ formG T2 n2 k2 := fun e => hn (by rw [← f1, ← f2, e])
    have hF' : ¬ formG T2 n2 k2 = formG T1 n1 k1 := fun e => hF e.symm
    refine ⟨[], ev_isoL_no B1.v B2.v hn, noF hF, ?_⟩
    rw [decide_eq_false hF']; rfl
end K74

end
section
set_option Elab.async false
set_option linter.all false
set_option maxRecDepth 10000
namespace K74
open PySem L2 VI
theorem law_fin {n1 n2 : Nat} {T1 T2 : List (List Nat)} (B1 : Base n1 T1) (B2 : Base n2 T2) (sc st s2 : SV) : ∃ ρ',
    sSeq b_law_5 (sSeq b_law_6 (sSeq b_law_7 (sSeq b_law_8 (sSeq b_law_9 b_law_10)))) [sc, st, s2, .fz (dLT T1), .ow (.lst (T2.map dT)), .no, .no, .no, .no] = .ok (.rt (.fz (.bl true))) ρ' := by
  have l1 := B1.lo
  have h1 := B1.hi
  have l2 := B2.lo
  have h2 := B2.hi
  obtain ⟨k1, hk1⟩ := B1.rk
  obtain ⟨k2, hk2⟩ := B2.rk
  have e5 := ev_law_form B1.v l1 (by omega) hk1
  have e52 := ev_law_form B2.v l2 (by omega) hk2
  have e6 : f_group_form [.fz (dLT T1)] = _ := ev_form Ctr.lst Ctr.tup B1.v l1 (by omega) hk1
  have e62 : f_group_form [.fz (.lst (T2.map dL))] = _ := ev_form Ctr.lst Ctr.lst B2.v l2 (by omega) hk2
  have em : f_form_maps [.fz (dLT T1)] = _ := ev_maps Ctr.lst Ctr.tup B1.v l1 (by omega) hk1
  obtain ⟨D, eL, eP, hD⟩ := due_ex B1 B2 hk1 hk2
  generalize formG T1 n1 k1 = F1 at *
  generalize formG T2 n2 k2 = F2 at *
  generalize sortT (mapsG T1 n1 k1) = M1 at *
  generalize sortT (mapsG T2 n2 k2) = M2 at *
  have hF1 := ev_honest F1
  have hF2 := ev_honest F2
  have hM1 := ev_honest M1
  have hDD := ev_honest D
  have a5 : b_law_5 [sc, st, s2, .fz (dLT T1), .ow (.lst (T2.map dT)), .no, .no, .no, .no] = .ok .nx [sc, st, s2, .fz (dLT T1), .ow (.lst (T2.map dT)), .fz (dTT F1), .fz (dTT M1), .no, .no] := by
    simp [b_law_5, e5, gTp, gsCons, gsNil]
  have a6 : b_law_6 [sc, st, s2, .fz (dLT T1), .ow (.lst (T2.map dT)), .fz (dTT F1), .fz (dTT M1), .no, .no] = .ok .nx [sc, st, s2, .fz (dLT T1), .ow (.lst (T2.map dT)), .fz (dTT F1), .fz (dTT M1), .no, .no] := by
    simp [b_law_6, e6, hF1, ne_dTT]
  by_cases hg : 16 < n1
  · have a7 : b_law_7 [sc, st, s2, .fz (dLT T1), .ow (.lst (T2.map dT)), .fz (dTT F1), .fz (dTT M1), .no, .no] = .ok (.rt (.fz (.bl true))) [sc, st, s2, .fz (dLT T1), .ow (.lst (T2.map dT)), .fz (dTT F1), .fz (dTT M1), .no, .no] := by
      have : semLenA [dLT T1] = some (.sc (di n1)) := by unfold dLT; simp [B1.v.len]
      have hc : decide ((16 : Int) < (n1 : Int)) = true := decide_eq_true (by omega)
      simp [b_law_7, this, semI, hg, hc]
    refine ⟨[sc, st, s2, .fz (dLT T1), .ow (.lst (T2.map dT)), .fz (dTT F1), .fz (dTT M1), .no, .no], ?_⟩
    simp only [s_sSeq, a5, a6, a7, Rs.bind_ok]
  · have a7 : b_law_7 [sc, st, s2, .fz (dLT T1), .ow (.lst (T2.map dT)), .fz (dTT F1), .fz (dTT M1), .no, .no] = .ok .nx [sc, st, s2, .fz (dLT T1), .ow (.lst (T2.map dT)), .fz (dTT F1), .fz (dTT M1), .no, .no] := by
      have : semLenA [dLT T1] = some (.sc (di n1)) := by unfold dLT; simp [B1.v.len]
      have hc : decide ((16 : Int) < (n1 : Int)) = false := decide_eq_false (by omega)
      simp [b_law_7, this, semI, hg, hc]
    have hlc : lcL [7] (gN 7) fYes e_law_0 (T2.map dT) [sc, st, s2, .fz (dLT T1), .fz (dLT T2), .fz (dTT F1), .fz (dTT M1), .no, .no] = .ok (T2.map dL) [sc, st, s2, .fz (dLT T1), .fz (dLT T2), .fz (dTT F1), .fz (dTT M1), .no, .no] :=
      lcL_map T2 fun x hx => by simp [e_law_0, dT, dL, semList]
    have hle : T2.length ≤ 1000000 := by rw [B2.v.len]; omega
    have a8 : b_law_8 [sc, st, s2, .fz (dLT T1), .ow (.lst (T2.map dT)), .fz (dTT F1), .fz (dTT M1), .no, .no] = .ok .nx [sc, st, s2, .fz (dLT T1), .fz (dLT T2), .fz (dTT F1), .fz (dTT M1), .no, .no] := by
      have e52' : f_law_form [.fz (.lst (T2.map dT))] = _ := e52
      have hlc' := hlc
      simp only [dLT] at hlc' ⊢
      simp only [dLT] at em
      simp [b_law_8, at2_0, em, hM1, ne_dTT, plainVars, hlc', hle, e62, hF2, e52']
    have a9 : b_law_9 [sc, st, s2, .fz (dLT T1), .fz (dLT T2), .fz (dTT F1), .fz (dTT M1), .no, .no] = .ok .nx [sc, st, s2, .fz (dLT T1), .fz (dLT T2), .fz (dTT F1), .fz (dTT M1), .no, .fz (dTT D)] := by
      simp [b_law_9, eL]
    have a10 : b_law_10 [sc, st, s2, .fz (dLT T1), .fz (dLT T2), .fz (dTT F1), .fz (dTT M1), .no, .fz (dTT D)] = .ok (.rt (.fz (.bl true))) [sc, st, s2, .fz (dLT T1), .fz (dLT T2), .fz (dTT F1), .fz (dTT M1), .no, .fz (dTT D)] := by
      have : semLenA [dTT D] = some (.sc (di D.length)) := by unfold dTT; simp
      have hc : decide ((0 : Int) < ((D.length : Nat) : Int)) = decide (0 < D.length) := by
        apply decide_eq_decide.mpr; omega
      have q : semEq (.bl (decide (F2 = F1))) (.bl (decide (0 < D.length))) = some (.sc (.bl true)) := by
        rw [hD]; cases decide (0 < D.length) <;> rfl
      simp [b_law_10, at2_0, eP, hDD, eq_dTT, e52, this, semI, hc, q]
    refine ⟨[sc, st, s2, .fz (dLT T1), .fz (dLT T2), .fz (dTT F1), .fz (dTT M1), .no, .fz (dTT D)], ?_⟩
    simp only [s_sSeq, a5, a6, a7, a8, a9, a10, Rs.bind_ok]
theorem law_true (ns : List Int) (hl : ns.length ≤ 63) : f_law [.fz (.scr ns)] = .ok (.fz (.bl true)) [] := by
  obtain ⟨s0, t0, e0⟩ := ev_state ns
  obtain ⟨r1, s1, t1, hr1, e1⟩ := ev_take s0 t0 8 (by omega) (by omega)
  obtain ⟨s2, t2, n1, T, B, e2⟩ := ev_some s1 t1 (decide (r1 = 0))
  obtain ⟨s3, t3, T1, B1, e3⟩ := sh_base (s := s2) (t := t2) B
  obtain ⟨r4, s4, t4, hr4, e4⟩ := ev_take s3 t3 2 (by omega) (by omega)
  rw [show di 8 = D.int 8 from rfl] at e1
  rw [show di 2 = D.int 2 from rfl] at e4
  have q1 : semEq (di r1) (.int 0) = some (.sc (.bl (decide (r1 = 0)))) := eq_lit r1 0
  have q4 : semEq (di r4) (.int 0) = some (.sc (.bl (decide (r4 = 0)))) := eq_lit r4 0
  have a0 : b_law_0 [.fz (.scr ns), .no, .no, .no, .no, .no, .no, .no, .no] = .ok .nx [.fz (.scr ns), .ow (stO s0 t0), .no, .no, .no, .no, .no, .no, .no] := by
    simp [b_law_0, e0]
  have a1 : b_law_1 [.fz (.scr ns), .ow (stO s0 t0), .no, .no, .no, .no, .no, .no, .no] = .ok .nx [.fz (.scr ns), .ow (stO s1 t1), .fz (.bl (decide (r1 = 0))), .no, .no, .no, .no, .no, .no] := by
    simp [b_law_1, e1, q1]
  have a2 : b_law_2 [.fz (.scr ns), .ow (stO s1 t1), .fz (.bl (decide (r1 = 0))), .no, .no, .no, .no, .no, .no] = .ok .nx [.fz (.scr ns), .ow (stO s3 t3), .fz (.bl (decide (r1 = 0))), .ow (.lst (T1.map dT)), .no, .no, .no, .no, .no] := by
    simp only [dLT] at e3
    simp [b_law_2, e2, e3]
  have a3 : ∃ s5 t5 n2 T2 x3, Base n2 T2 ∧ (x3 = .ow (.lst (T1.map dT)) ∨ x3 = .fz (dLT T1)) ∧ b_law_3 [.fz (.scr ns), .ow (stO s3 t3), .fz (.bl (decide (r1 = 0))), .ow (.lst (T1.map dT)), .no, .no, .no, .no, .no] =
      .ok .nx [.fz (.scr ns), .ow (stO s5 t5), .fz (.bl (decide (r1 = 0))), x3, .ow (.lst (T2.map dT)), .no, .no, .no, .no] := by
    by_cases h : r4 = 0
    · obtain ⟨s5, t5, n2, T', B', e5⟩ := ev_some s4 t4 false
      obtain ⟨s6, t6, T2, B2, e6⟩ := sh_base (s := s5) (t := t5) B'
      simp only [dLT] at e6
      refine ⟨s6, t6, n2, T2, _, B2, .inl rfl, ?_⟩
      rw [decide_eq_true h] at q4
      simp [b_law_3, e4, q4, e5, e6]
    · obtain ⟨s6, t6, T2, B2, e6⟩ := sh_base (s := s4) (t := t4) B1
      simp only [dLT] at e6
      refine ⟨s6, t6, n1, T2, _, B2, .inr rfl, ?_⟩
      rw [decide_eq_false h] at q4
      simp [b_law_3, e4, q4, e6, dLT]
  obtain ⟨s5, t5, n2, T2, x3, B2, hx, a3⟩ := a3
  have l1 := B1.lo
  have h1 := B1.hi
  obtain ⟨s6, t6, e6⟩ := ev_hold (s := s5) (t0 := t5) B1.g l1 (by omega)
  have a4 : b_law_4 [.fz (.scr ns), .ow (stO s5 t5), .fz (.bl (decide (r1 = 0))), x3, .ow (.lst (T2.map dT)), .no, .no, .no, .no] = .ok .nx [.fz (.scr ns), .ow (stO s6 t6), .fz (.bl (decide (r1 = 0))), .fz (dLT T1), .ow (.lst (T2.map dT)), .no, .no, .no, .no] := by
    simp only [dLT] at e6
    rcases hx with rfl | rfl
    · simp [b_law_4, e6, dLT]
    · simp [b_law_4, e6, dLT]
  obtain ⟨ρ', hf⟩ := law_fin B1 B2 (.fz (.scr ns)) (.ow (stO s6 t6)) (.fz (.bl (decide (r1 = 0))))
  unfold f_law semDef b_law
  have er : rho0 [.fz (.scr ns)] ++ List.replicate (9 - [FA.fz (.scr ns)].length) .no = [.fz (.scr ns), .no, .no, .no, .no, .no, .no, .no, .no] := rfl
  rw [er]
  simp only [s_sSeq (p := b_law_0), s_sSeq (p := b_law_1), s_sSeq (p := b_law_2), s_sSeq (p := b_law_3), s_sSeq (p := b_law_4), a0, a1, a2, a3, a4, Rs.bind_ok]
  rw [hf]
  rfl
end K74

end
section
set_option Elab.async false
set_option linter.all false
set_option maxRecDepth 100000
namespace K74
open PySem L2 VI PySem.Spec PyProof.Rows
abbrev prog : Program := PySem.Challenge.pw_reesroads_k74_whole_great_groups
abbrev gx (K : PySem.W.Frag) : Gx := ⟨K, fun _ => none, fun _ => [], fun _ => none⟩
structure Txt (mg : Str → Option Value) : Prop where
  n_abs : mg "abs" = none
  n_all : mg "all" = none
  n_bool : mg "bool" = none
  n_int : mg "int" = none
  n_isinstance : mg "isinstance" = none
  n_len : mg "len" = none
  n_list : mg "list" = none
  n_max : mg "max" = none
  n_min : mg "min" = none
  n_range : mg "range" = none
  n_sorted : mg "sorted" = none
  n_sum : mg "sum" = none
  n_tuple : mg "tuple" = none
section
variable {P : Program} {w : World} {K : PySem.W.Frag} {mg : Str → Option Value} {base : Heap}
abbrev s_is_integer : Stmt := topOf prog 1
theorem sc_is_integer : FnScope ["value"] ["value"] (defScope s_is_integer) := ⟨rfl, rfl, rfl, by decide +kernel, rfl, by decide +kernel, by decide +kernel⟩
theorem ok_is_integer  {f : Addr} {fd : FuncData} (T : Txt mg) (Fn : Fun K "is_integer" "is_integer" s_is_integer f fd) (hm : mg "is_integer" = some (.ref f)) (hb : Binds K fd ["value"] []) : Has P w K mg base (gx K) "is_integer" ["value"] 1 f_is_integer :=
  has_mk (k := 0) (N := ["value"]) (body := b_is_integer) Fn hm hb sc_is_integer fun cdv A outer s H E hr => by
    have nd := sc_is_integer.nd; have hu := hr.units; have hu5 : _ + 65 < cLine := (by have := hr.un; omega : (A.deeper (envOfC "is_integer" (defScope s_is_integer) s.heap.objs.size f cdv)).units + 65 < cLine)
    have hu1 : (A.deeper (envOfC "is_integer" (defScope s_is_integer) s.heap.objs.size f cdv)).units + 1 < cLine := by omega
    have tk := takes_of (X := cxOf (L2.CX P w) P w K mg base ["value"] "is_integer" (defScope s_is_integer) f cdv A outer s H E) rfl rfl rfl rfl
    have own := passes_of (X := cxOf (L2.CX P w) P w K mg base ["value"] "is_integer" (defScope s_is_integer) f cdv A outer s H E) rfl
    exact dss_one (f := b_is_integer_0) (ds_ret (de_and (de_callB call_isiA pr_isiA rfl T.n_isinstance bb_isinstance (da_cons (do_n (pv 0)) (da_cons (do_e (de_ty rfl T.n_int bb_int)) (da_nil)))) (de_one (de_not (de_callB call_isiA pr_isiA rfl T.n_isinstance bb_isinstance (da_cons (do_n (pv 0)) (da_cons (do_e (de_ty rfl T.n_bool bb_bool)) (da_nil))))))))
abbrev s_is_item : Stmt := topOf prog 3
theorem sc_is_item : FnScope ["value", "n"] ["value", "n"] (defScope s_is_item) := ⟨rfl, rfl, rfl, by decide +kernel, rfl, by decide +kernel, by decide +kernel⟩
theorem ok_is_item (h_is_integer : Has P w K mg base (gx K) "is_integer" ["value"] 1 (f_is_integer)) {f : Addr} {fd : FuncData} (T : Txt mg) (Fn : Fun K "is_item" "is_item" s_is_item f fd) (hm : mg "is_item" = some (.ref f)) (hb : Binds K fd ["value", "n"] []) : Has P w K mg base (gx K) "is_item" ["value", "n"] 2 f_is_item :=
  has_mk (k := 1) (N := ["value", "n"]) (body := b_is_item) Fn hm hb sc_is_item fun cdv A outer s H E hr => by
    have nd := sc_is_item.nd; have hu := hr.units; have hu5 : _ + 65 < cLine := (by have := hr.un; omega : (A.deeper (envOfC "is_item" (defScope s_is_item) s.heap.objs.size f cdv)).units + 65 < cLine)
    have hu1 : (A.deeper (envOfC "is_item" (defScope s_is_item) s.heap.objs.size f cdv)).units + 1 < cLine := by omega
    have tk := takes_of (X := cxOf (L2.CX P w) P w K mg base ["value", "n"] "is_item" (defScope s_is_item) f cdv A outer s H E) rfl rfl rfl rfl
    have own := passes_of (X := cxOf (L2.CX P w) P w K mg base ["value", "n"] "is_item" (defScope s_is_item) f cdv A outer s H E) rfl
    exact dss_one (f := b_is_item_0) (ds_ret (de_and (de_callH [.v] h_is_integer tk hr (da_cons (do_e (de_n (pv 0))) (da_nil)) (len_cons len_nil)) (de_one (de_chain op_le pr_I (op_ltA hu) pr_lt (do_e (de_int)) (do_n (pv 0)) (do_n (pv 1))))))
abbrev s_is_associative : Stmt := topOf prog 4
theorem sc_is_associative : FnScope ["table", "row", "y", "z", "item"] ["table"] (defScope s_is_associative) := ⟨rfl, rfl, rfl, by decide +kernel, rfl, by decide +kernel, by decide +kernel⟩
theorem ok_is_associative  {f : Addr} {fd : FuncData} (T : Txt mg) (Fn : Fun K "is_associative" "is_associative" s_is_associative f fd) (hm : mg "is_associative" = some (.ref f)) (hb : Binds K fd ["table"] []) : Has P w K mg base (gx K) "is_associative" ["table"] 1 f_is_associative :=
  has_mk (k := 0) (N := ["table", "row", "y", "z", "item"]) (body := b_is_associative) Fn hm hb sc_is_associative fun cdv A outer s H E hr => by
    have nd := sc_is_associative.nd; have hu := hr.units; have hu5 : _ + 65 < cLine := (by have := hr.un; omega : (A.deeper (envOfC "is_associative" (defScope s_is_associative) s.heap.objs.size f cdv)).units + 65 < cLine)
    have hu1 : (A.deeper (envOfC "is_associative" (defScope s_is_associative) s.heap.objs.size f cdv)).units + 1 < cLine := by omega
    have tk := takes_of (X := cxOf (L2.CX P w) P w K mg base ["table", "row", "y", "z", "item"] "is_associative" (defScope s_is_associative) f cdv A outer s H E) rfl rfl rfl rfl
    have own := passes_of (X := cxOf (L2.CX P w) P w K mg base ["table", "row", "y", "z", "item"] "is_associative" (defScope s_is_associative) f cdv A outer s H E) rfl
    refine dss_cons (f := b_is_associative_0) (ds_for own rfl (di_A rfl (de_n (pv 0))) (pg_name nd rfl (Or.inr rfl)) (tg_name) (dss_one (ds_for own rfl (di_range1 rfl T.n_range (do_e (de_callB call_lenA pr_lenA rfl T.n_len bb_len (da_cons (do_n (pv 0)) (da_nil))))) (pg_name nd rfl (Or.inr rfl)) (tg_name) (dss_one (ds_if (dt_cmp (op_neD hu) pr_ne (do_e (de_lc [("z", 3)] rfl nd (di_range1 rfl T.n_range (do_e (de_callB call_lenA pr_lenA rfl T.n_len bb_len (da_cons (do_n (pv 0)) (da_nil))))) (blkOk_by (by rfl)) (fun _ _ _ _ _ => pg_name nd rfl (Or.inl rfl)) (tg_name) (by decide) (fun _ _ _ _ _ => dts_nil) (fun _ _ _ _ _ => de_ix ix_seq pr_ix (do_e (de_ix ix_seq pr_ix (do_n (pv 0)) (do_e (de_ix ix_seq pr_ix (do_n (pv 1)) (do_n (pv 2)) (fun _ _ => rfl))) (fun _ _ => rfl))) (do_n (pv 3)) (fun _ _ => rfl)))) (do_e (de_lc [("item", 4)] rfl nd (di_A rfl (de_ix ix_seq pr_ix (do_n (pv 0)) (do_n (pv 2)) (fun _ _ => rfl))) (blkOk_by (by rfl)) (fun _ _ _ _ _ => pg_name nd rfl (Or.inl rfl)) (tg_name) (by decide) (fun _ _ _ _ _ => dts_nil) (fun _ _ _ _ _ => de_ix ix_seq pr_ix (do_n (pv 1)) (do_n (pv 4)) (fun _ _ => rfl)))) (nomark _)) (dss_one (ds_ret (de_bl))) (dss_nil)))))) ?_
    exact dss_one (f := b_is_associative_1) (ds_ret (de_bl))
abbrev s_is_square : Stmt := topOf prog 6
theorem sc_is_square : FnScope ["value", "row", "item"] ["value"] (defScope s_is_square) := ⟨rfl, rfl, rfl, by decide +kernel, rfl, by decide +kernel, by decide +kernel⟩
theorem ok_is_square (h_is_item : Has P w K mg base (gx K) "is_item" ["value", "n"] 2 (f_is_item)) {f : Addr} {fd : FuncData} (T : Txt mg) (Fn : Fun K "is_square" "is_square" s_is_square f fd) (hm : mg "is_square" = some (.ref f)) (hb : Binds K fd ["value"] []) : Has P w K mg base (gx K) "is_square" ["value"] 3 f_is_square :=
  has_mk (k := 2) (N := ["value", "row", "item"]) (body := b_is_square) Fn hm hb sc_is_square fun cdv A outer s H E hr => by
    have nd := sc_is_square.nd; have hu := hr.units; have hu5 : _ + 65 < cLine := (by have := hr.un; omega : (A.deeper (envOfC "is_square" (defScope s_is_square) s.heap.objs.size f cdv)).units + 65 < cLine)
    have hu1 : (A.deeper (envOfC "is_square" (defScope s_is_square) s.heap.objs.size f cdv)).units + 1 < cLine := by omega
    have tk := takes_of (X := cxOf (L2.CX P w) P w K mg base ["value", "row", "item"] "is_square" (defScope s_is_square) f cdv A outer s H E) rfl rfl rfl rfl
    have own := passes_of (X := cxOf (L2.CX P w) P w K mg base ["value", "row", "item"] "is_square" (defScope s_is_square) f cdv A outer s H E) rfl
    refine dss_cons (f := b_is_square_0) (ds_if (dt_w (dw_or (dt_not (dt_val (de_callB call_isiA pr_isiA rfl T.n_isinstance bb_isinstance (da_cons (do_n (pv 0)) (da_cons (do_e (de_tup (da_cons (do_e (de_ty rfl T.n_list bb_list)) (da_cons (do_e (de_ty rfl T.n_tuple bb_tuple)) (da_nil))))) (da_nil)))))) (dw_or1 (dt_cmp (op_eqD hu) pr_eq (do_e (de_callB call_lenA pr_lenA rfl T.n_len bb_len (da_cons (do_n (pv 0)) (da_nil)))) (do_e (de_int)) (nomark _))))) (dss_one (ds_ret (de_bl))) (dss_nil)) ?_
    refine dss_cons (f := b_is_square_1) (ds_for own rfl (di_A rfl (de_n (pv 0))) (pg_name nd rfl (Or.inl rfl)) (tg_name) (dss_cons (ds_if (dt_w (dw_or (dt_not (dt_val (de_callB call_isiA pr_isiA rfl T.n_isinstance bb_isinstance (da_cons (do_n (pv 1)) (da_cons (do_e (de_tup (da_cons (do_e (de_ty rfl T.n_list bb_list)) (da_cons (do_e (de_ty rfl T.n_tuple bb_tuple)) (da_nil))))) (da_nil)))))) (dw_or1 (dt_cmp (op_neD hu) pr_ne (do_e (de_callB call_lenA pr_lenA rfl T.n_len bb_len (da_cons (do_n (pv 1)) (da_nil)))) (do_e (de_callB call_lenA pr_lenA rfl T.n_len bb_len (da_cons (do_n (pv 0)) (da_nil)))) (nomark _))))) (dss_one (ds_ret (de_bl))) (dss_nil)) (dss_one (ds_if (dt_not (dt_val (de_callB (cr_all rfl) pr_all rfl T.n_all bb_all (da_cons (do_e (de_lc [("item", 2)] rfl nd (di_A rfl (de_n (pv 1))) (blkOk_by (by rfl)) (fun _ _ _ _ _ => pg_name nd rfl (Or.inl rfl)) (tg_name) (by decide) (fun _ _ _ _ _ => dts_nil) (fun _ _ _ _ _ => de_callH [.v, .v] h_is_item takes_F hr (da_cons (do_e (de_n (pv 2))) (da_cons (do_e (de_callB call_lenA pr_lenA rfl T.n_len bb_len (da_cons (do_n (pv 0)) (da_nil)))) (da_nil))) (len_cons (len_cons len_nil))))) (da_nil))))) (dss_one (ds_ret (de_bl))) (dss_nil))))) ?_
    exact dss_one (f := b_is_square_2) (ds_ret (de_bl))
abbrev s_is_group_table : Stmt := topOf prog 7
theorem sc_is_group_table : FnScope ["value", "n", "x", "row"] ["value"] (defScope s_is_group_table) := ⟨rfl, rfl, rfl, by decide +kernel, rfl, by decide +kernel, by decide +kernel⟩
theorem ok_is_group_table (h_is_associative : Has P w K mg base (gx K) "is_associative" ["table"] 1 (f_is_associative)) (h_is_square : Has P w K mg base (gx K) "is_square" ["value"] 3 (f_is_square)) {f : Addr} {fd : FuncData} (T : Txt mg) (Fn : Fun K "is_group_table" "is_group_table" s_is_group_table f fd) (hm : mg "is_group_table" = some (.ref f)) (hb : Binds K fd ["value"] []) : Has P w K mg base (gx K) "is_group_table" ["value"] 4 f_is_group_table :=
  has_mk (k := 3) (N := ["value", "n", "x", "row"]) (body := b_is_group_table) Fn hm hb sc_is_group_table fun cdv A outer s H E hr => by
    have nd := sc_is_group_table.nd; have hu := hr.units; have hu5 : _ + 65 < cLine := (by have := hr.un; omega : (A.deeper (envOfC "is_group_table" (defScope s_is_group_table) s.heap.objs.size f cdv)).units + 65 < cLine)
    have hu1 : (A.deeper (envOfC "is_group_table" (defScope s_is_group_table) s.heap.objs.size f cdv)).units + 1 < cLine := by omega
    have tk := takes_of (X := cxOf (L2.CX P w) P w K mg base ["value", "n", "x", "row"] "is_group_table" (defScope s_is_group_table) f cdv A outer s H E) rfl rfl rfl rfl
    have own := passes_of (X := cxOf (L2.CX P w) P w K mg base ["value", "n", "x", "row"] "is_group_table" (defScope s_is_group_table) f cdv A outer s H E) rfl
    refine dss_cons (f := b_is_group_table_0) (ds_if (dt_not (dt_val (de_callH [.v] h_is_square tk hr (da_cons (do_e (de_n (pv 0))) (da_nil)) (len_cons len_nil)))) (dss_one (ds_ret (de_bl))) (dss_nil)) ?_
    refine dss_cons (f := b_is_group_table_1) (ds_set nd rfl (Or.inl rfl) (de_callB call_lenA pr_lenA rfl T.n_len bb_len (da_cons (do_n (pv 0)) (da_nil)))) ?_
    refine dss_cons (f := b_is_group_table_2) (ds_for own rfl (di_range1 rfl T.n_range (do_n (pv 1))) (pg_name nd rfl (Or.inl rfl)) (tg_name) (dss_one (ds_if (dt_w (dw_or (dt_cmp (op_neD hu) pr_ne (do_e (de_ix ix_seq pr_ix (do_e (de_ix ix_seq pr_ix (do_n (pv 0)) (do_e (de_int)) (fun _ _ => rfl))) (do_n (pv 2)) (fun _ _ => rfl))) (do_n (pv 2)) (nomark _)) (dw_or (dt_cmp (op_neD hu) pr_ne (do_e (de_ix ix_seq pr_ix (do_e (de_ix ix_seq pr_ix (do_n (pv 0)) (do_n (pv 2)) (fun _ _ => rfl))) (do_e (de_int)) (fun _ _ => rfl))) (do_n (pv 2)) (nomark _)) (dw_or1 (dt_cmp (op_ninA hu5) pr_nin (do_e (de_int)) (do_e (de_ix ix_seq pr_ix (do_n (pv 0)) (do_n (pv 2)) (fun _ _ => rfl))) (by with_unfolding_all rfl)))))) (dss_one (ds_ret (de_bl))) (dss_nil)))) ?_
    exact dss_one (f := b_is_group_table_3) (ds_ret (de_callH [.v] h_is_associative tk hr (da_cons (do_e (de_lc [("row", 3)] rfl nd (di_A rfl (de_n (pv 0))) (blkOk_by (by rfl)) (fun _ _ _ _ _ => pg_name nd rfl (Or.inl rfl)) (tg_name) (by decide) (fun _ _ _ _ _ => dts_nil) (fun _ _ _ _ _ => de_callTy call_tupleF pr_tuple rfl T.n_tuple bb_tuple (da_cons (do_n (pv 3)) (da_nil))))) (da_nil)) (len_cons len_nil)))
abbrev s_enumerated : Stmt := topOf prog 8
theorem sc_enumerated : FnScope ["table", "generators", "found", "at", "g", "y"] ["table", "generators"] (defScope s_enumerated) := ⟨rfl, rfl, rfl, by decide +kernel, rfl, by decide +kernel, by decide +kernel⟩
theorem ok_enumerated  {f : Addr} {fd : FuncData} (T : Txt mg) (Fn : Fun K "enumerated" "enumerated" s_enumerated f fd) (hm : mg "enumerated" = some (.ref f)) (hb : Binds K fd ["table", "generators"] []) : Has P w K mg base (gx K) "enumerated" ["table", "generators"] 1 f_enumerated :=
  has_mk (k := 0) (N := ["table", "generators", "found", "at", "g", "y"]) (body := b_enumerated) Fn hm hb sc_enumerated fun cdv A outer s H E hr => by
    have nd := sc_enumerated.nd; have hu := hr.units; have hu5 : _ + 65 < cLine := (by have := hr.un; omega : (A.deeper (envOfC "enumerated" (defScope s_enumerated) s.heap.objs.size f cdv)).units + 65 < cLine)
    have hu1 : (A.deeper (envOfC "enumerated" (defScope s_enumerated) s.heap.objs.size f cdv)).units + 1 < cLine := by omega
    have tk := takes_of (X := cxOf (L2.CX P w) P w K mg base ["table", "generators", "found", "at", "g", "y"] "enumerated" (defScope s_enumerated) f cdv A outer s H E) rfl rfl rfl rfl
    have own := passes_of (X := cxOf (L2.CX P w) P w K mg base ["table", "generators", "found", "at", "g", "y"] "enumerated" (defScope s_enumerated) f cdv A outer s H E) rfl
    refine dss_cons (f := b_enumerated_0) (ds_set nd rfl (Or.inl rfl) (de_lst (da_cons (do_e (de_int)) (da_nil)))) ?_
    refine dss_cons (f := b_enumerated_1) (ds_set nd rfl (Or.inl rfl) (de_int)) ?_
    refine dss_cons (f := b_enumerated_2) (ds_wh 1000 own (dt_cmp (op_ltA hu) pr_lt (do_n (pv 3)) (do_e (de_callB call_lenA pr_lenA rfl T.n_len bb_len (da_cons (do_n (pv 2)) (da_nil)))) (nomark _)) (dss_cons (ds_for own rfl (di_A rfl (de_n (pv 1))) (pg_name nd rfl (Or.inl rfl)) (tg_name) (dss_cons (ds_set nd rfl (Or.inl rfl) (de_ix ix_seq pr_ix (do_e (de_ix ix_seq pr_ix (do_n (pv 0)) (do_e (de_ix ix_seq pr_ix (do_n (pv 2)) (do_n (pv 3)) (fun _ _ => rfl))) (fun _ _ => rfl))) (do_n (pv 4)) (fun _ _ => rfl))) (dss_one (ds_if (dt_cmp (op_ninA hu5) pr_nin (do_n (pv 5)) (do_n (pv 2)) (by with_unfolding_all rfl)) (dss_one (ds_expr (de_app (pv 2) (de_n (pv 5))))) (dss_nil))))) (dss_one (ds_set nd rfl (Or.inl rfl) (de_bin op_addA pr_add (do_n (pv 3)) (do_e (de_int))))))) ?_
    refine dss_cons (f := b_enumerated_3) (ds_if (dt_cmp (op_ltA hu) pr_lt (do_e (de_callB call_lenA pr_lenA rfl T.n_len bb_len (da_cons (do_n (pv 2)) (da_nil)))) (do_e (de_callB call_lenA pr_lenA rfl T.n_len bb_len (da_cons (do_n (pv 0)) (da_nil)))) (nomark _)) (dss_one (ds_ret (de_non))) (dss_nil)) ?_
    exact dss_one (f := b_enumerated_4) (ds_ret (de_callTy call_tupleF pr_tuple rfl T.n_tuple bb_tuple (da_cons (do_n (pv 2)) (da_nil))))
abbrev s_tuples_of : Stmt := topOf prog 9
theorem sc_tuples_of : FnScope ["n", "size", "found", "_", "row", "x"] ["n", "size"] (defScope s_tuples_of) := ⟨rfl, rfl, rfl, by decide +kernel, rfl, by decide +kernel, by decide +kernel⟩
theorem ok_tuples_of  {f : Addr} {fd : FuncData} (T : Txt mg) (Fn : Fun K "tuples_of" "tuples_of" s_tuples_of f fd) (hm : mg "tuples_of" = some (.ref f)) (hb : Binds K fd ["n", "size"] []) : Has P w K mg base (gx K) "tuples_of" ["n", "size"] 1 f_tuples_of :=
  has_mk (k := 0) (N := ["n", "size", "found", "_", "row", "x"]) (body := b_tuples_of) Fn hm hb sc_tuples_of fun cdv A outer s H E hr => by
    have nd := sc_tuples_of.nd; have hu := hr.units; have hu5 : _ + 65 < cLine := (by have := hr.un; omega : (A.deeper (envOfC "tuples_of" (defScope s_tuples_of) s.heap.objs.size f cdv)).units + 65 < cLine)
    have hu1 : (A.deeper (envOfC "tuples_of" (defScope s_tuples_of) s.heap.objs.size f cdv)).units + 1 < cLine := by omega
    have tk := takes_of (X := cxOf (L2.CX P w) P w K mg base ["n", "size", "found", "_", "row", "x"] "tuples_of" (defScope s_tuples_of) f cdv A outer s H E) rfl rfl rfl rfl
    have own := passes_of (X := cxOf (L2.CX P w) P w K mg base ["n", "size", "found", "_", "row", "x"] "tuples_of" (defScope s_tuples_of) f cdv A outer s H E) rfl
    refine dss_cons (f := b_tuples_of_0) (ds_set nd rfl (Or.inl rfl) (de_lst (da_cons (do_e (de_tup (da_nil))) (da_nil)))) ?_
    refine dss_cons (f := b_tuples_of_1) (ds_for own rfl (di_range1 rfl T.n_range (do_n (pv 1))) (pg_name nd rfl (Or.inl rfl)) (tg_name) (dss_one (ds_setLc2 [("row", 4), ("x", 5)] [5] rfl nd rfl rfl rfl (di_A rfl (de_n (pv 2))) (blkOk_by (by rfl)) (by decide) (fun _ _ _ _ _ => pg_name nd rfl (Or.inl rfl)) (tg_name) (by decide) (fun _ _ _ _ _ => dts_nil) (fun _ _ _ _ _ => di_range2 rfl T.n_range (do_e (de_int)) (do_n (pv 0))) (fun _ _ _ _ _ => pg_name nd rfl (Or.inl rfl)) (tg_name) (by decide) (fun _ _ _ _ _ => dts_nil) (fun _ _ _ _ _ => de_bin op_addA pr_add (do_n (pv 4)) (do_e (de_tup (da_cons (do_e (de_n (pv 5))) (da_nil)))))))) ?_
    exact dss_one (f := b_tuples_of_2) (ds_ret (de_r (pv 2)))
abbrev s_orders_of : Stmt := topOf prog 10
theorem sc_orders_of : FnScope ["table", "size", "rows", "found", "generators", "row"] ["table"] (defScope s_orders_of) := ⟨rfl, rfl, rfl, by decide +kernel, rfl, by decide +kernel, by decide +kernel⟩
theorem ok_orders_of (h_enumerated : Has P w K mg base (gx K) "enumerated" ["table", "generators"] 1 (f_enumerated)) (h_tuples_of : Has P w K mg base (gx K) "tuples_of" ["n", "size"] 1 (f_tuples_of)) {f : Addr} {fd : FuncData} (T : Txt mg) (Fn : Fun K "orders_of" "orders_of" s_orders_of f fd) (hm : mg "orders_of" = some (.ref f)) (hb : Binds K fd ["table"] []) : Has P w K mg base (gx K) "orders_of" ["table"] 2 f_orders_of :=
  has_mk (k := 1) (N := ["table", "size", "rows", "found", "generators", "row"]) (body := b_orders_of) Fn hm hb sc_orders_of fun cdv A outer s H E hr => by
    have nd := sc_orders_of.nd; have hu := hr.units; have hu5 : _ + 65 < cLine := (by have := hr.un; omega : (A.deeper (envOfC "orders_of" (defScope s_orders_of) s.heap.objs.size f cdv)).units + 65 < cLine)
    have hu1 : (A.deeper (envOfC "orders_of" (defScope s_orders_of) s.heap.objs.size f cdv)).units + 1 < cLine := by omega
    have tk := takes_of (X := cxOf (L2.CX P w) P w K mg base ["table", "size", "rows", "found", "generators", "row"] "orders_of" (defScope s_orders_of) f cdv A outer s H E) rfl rfl rfl rfl
    have own := passes_of (X := cxOf (L2.CX P w) P w K mg base ["table", "size", "rows", "found", "generators", "row"] "orders_of" (defScope s_orders_of) f cdv A outer s H E) rfl
    refine dss_cons (f := b_orders_of_0) (ds_set nd rfl (Or.inl rfl) (de_int)) ?_
    refine dss_cons (f := b_orders_of_1) (ds_wh 1000 own (dt_cmp op_le pr_I (do_n (pv 1)) (do_e (de_callB call_lenA pr_lenA rfl T.n_len bb_len (da_cons (do_n (pv 0)) (da_nil)))) (nomark _)) (dss_cons (ds_setLc [("generators", 4)] rfl nd rfl rfl rfl (di_A rfl (de_callH [.v, .v] h_tuples_of tk hr (da_cons (do_e (de_callB call_lenA pr_lenA rfl T.n_len bb_len (da_cons (do_n (pv 0)) (da_nil)))) (da_cons (do_e (de_n (pv 1))) (da_nil))) (len_cons (len_cons len_nil)))) (blkOk_by (by rfl)) (fun _ _ _ _ _ => pg_name nd rfl (Or.inl rfl)) (tg_name) (by decide) (fun _ _ _ _ _ => dts_nil) (fun _ _ _ _ _ => de_callH [.v, .v] h_enumerated takes_F hr (da_cons (do_e (de_n (pv 0))) (da_cons (do_e (de_n (pv 4))) (da_nil))) (len_cons (len_cons len_nil)))) (dss_cons (ds_setLc [("row", 5)] rfl nd rfl rfl rfl (di_A rfl (de_n (pv 2))) (blkOk_by (by rfl)) (fun _ _ _ _ _ => pg_name nd rfl (Or.inl rfl)) (tg_name) (by decide) (fun _ _ _ _ _ => dts_one (dt_cmp op_nisA pr_nis (do_n (pv 5)) (do_e (de_non)) (nomark _))) (fun _ _ _ _ _ => de_n (pv 5))) (dss_cons (ds_if (dt_cmp op_gt pr_I (do_e (de_callB call_lenA pr_lenA rfl T.n_len bb_len (da_cons (do_n (pv 3)) (da_nil)))) (do_e (de_int)) (nomark _)) (dss_one (ds_ret (de_r (pv 3)))) (dss_nil)) (dss_one (ds_set nd rfl (Or.inl rfl) (de_bin op_addA pr_add (do_n (pv 1)) (do_e (de_int))))))))) ?_
    exact dss_one (f := b_orders_of_2) (ds_ret (de_lst (da_nil)))
abbrev s_renamed : Stmt := topOf prog 11
theorem sc_renamed : FnScope ["table", "order", "places", "x", "y"] ["table", "order"] (defScope s_renamed) := ⟨rfl, rfl, rfl, by decide +kernel, rfl, by decide +kernel, by decide +kernel⟩
theorem ok_renamed  {f : Addr} {fd : FuncData} (T : Txt mg) (Fn : Fun K "renamed" "renamed" s_renamed f fd) (hm : mg "renamed" = some (.ref f)) (hb : Binds K fd ["table", "order"] []) : Has P w K mg base (gx K) "renamed" ["table", "order"] 1 f_renamed :=
  has_mk (k := 0) (N := ["table", "order", "places", "x", "y"]) (body := b_renamed) Fn hm hb sc_renamed fun cdv A outer s H E hr => by
    have nd := sc_renamed.nd; have hu := hr.units; have hu5 : _ + 65 < cLine := (by have := hr.un; omega : (A.deeper (envOfC "renamed" (defScope s_renamed) s.heap.objs.size f cdv)).units + 65 < cLine)
    have hu1 : (A.deeper (envOfC "renamed" (defScope s_renamed) s.heap.objs.size f cdv)).units + 1 < cLine := by omega
    have tk := takes_of (X := cxOf (L2.CX P w) P w K mg base ["table", "order", "places", "x", "y"] "renamed" (defScope s_renamed) f cdv A outer s H E) rfl rfl rfl rfl
    have own := passes_of (X := cxOf (L2.CX P w) P w K mg base ["table", "order", "places", "x", "y"] "renamed" (defScope s_renamed) f cdv A outer s H E) rfl
    refine dss_cons (f := b_renamed_0) (ds_set nd rfl (Or.inr rfl) (de_callTy call_list_of pr_list rfl T.n_list bb_list (da_cons (do_n (pv 1)) (da_nil)))) ?_
    exact dss_one (f := b_renamed_1) (ds_ret (de_callTy call_tupleF pr_tuple rfl T.n_tuple bb_tuple (da_cons (do_e (de_lc [("x", 3)] rfl nd (di_A rfl (de_n (pv 1))) (blkOk_by (by rfl)) (fun _ _ _ _ _ => pg_name nd rfl (Or.inr rfl)) (tg_name) (by decide) (fun _ _ _ _ _ => dts_nil) (fun _ _ _ _ _ => de_callTy call_tupleF pr_tuple rfl T.n_tuple bb_tuple (da_cons (do_e (de_lc [("y", 4)] rfl nd (di_A rfl (de_n (pv 1))) (blkOk_by (by rfl)) (fun _ _ _ _ _ => pg_name nd rfl (Or.inl rfl)) (tg_name) (by decide) (fun _ _ _ _ _ => dts_nil) (fun _ _ _ _ _ => de_ob (de_meth PySem.F.plainAttrs_list PySem.F.slot_list_index PySem.F.type_list_index tym_lst (mt_indexD hu5) pr_indexL (do_n (pv 2)) (da_cons (do_e (de_ix ix_seq pr_ix (do_e (de_ix ix_seq pr_ix (do_n (pv 0)) (do_n (pv 3)) (fun _ _ => rfl))) (do_n (pv 4)) (fun _ _ => rfl))) (da_nil))) (de_meth PySem.F.plainAttrs_tuple PySem.F.slot_tuple_index PySem.F.type_tuple_index tym_tup (mt_indexT hu5) pr_indexT (do_n (pv 2)) (da_cons (do_e (de_ix ix_seq pr_ix (do_e (de_ix ix_seq pr_ix (do_n (pv 0)) (do_n (pv 3)) (fun _ _ => rfl))) (do_n (pv 4)) (fun _ _ => rfl))) (da_nil)))))) (da_nil))))) (da_nil))))
abbrev s_group_form : Stmt := topOf prog 12
theorem sc_group_form : FnScope ["table", "order"] ["table"] (defScope s_group_form) := ⟨rfl, rfl, rfl, by decide +kernel, rfl, by decide +kernel, by decide +kernel⟩
theorem ok_group_form (h_orders_of : Has P w K mg base (gx K) "orders_of" ["table"] 2 (f_orders_of)) (h_renamed : Has P w K mg base (gx K) "renamed" ["table", "order"] 1 (f_renamed)) {f : Addr} {fd : FuncData} (T : Txt mg) (Fn : Fun K "group_form" "group_form" s_group_form f fd) (hm : mg "group_form" = some (.ref f)) (hb : Binds K fd ["table"] []) : Has P w K mg base (gx K) "group_form" ["table"] 3 f_group_form :=
  has_mk (k := 2) (N := ["table", "order"]) (body := b_group_form) Fn hm hb sc_group_form fun cdv A outer s H E hr => by
    have nd := sc_group_form.nd; have hu := hr.units; have hu5 : _ + 65 < cLine := (by have := hr.un; omega : (A.deeper (envOfC "group_form" (defScope s_group_form) s.heap.objs.size f cdv)).units + 65 < cLine)
    have hu1 : (A.deeper (envOfC "group_form" (defScope s_group_form) s.heap.objs.size f cdv)).units + 1 < cLine := by omega
    have tk := takes_of (X := cxOf (L2.CX P w) P w K mg base ["table", "order"] "group_form" (defScope s_group_form) f cdv A outer s H E) rfl rfl rfl rfl
    have own := passes_of (X := cxOf (L2.CX P w) P w K mg base ["table", "order"] "group_form" (defScope s_group_form) f cdv A outer s H E) rfl
    exact dss_one (f := b_group_form_0) (ds_ret (de_callB (call_minD rfl hu) pr_minD rfl T.n_min bb_min (da_cons (do_e (de_lc [("order", 1)] rfl nd (di_A rfl (de_callH [.v] h_orders_of tk hr (da_cons (do_e (de_n (pv 0))) (da_nil)) (len_cons len_nil))) (blkOk_by (by rfl)) (fun _ _ _ _ _ => pg_name nd rfl (Or.inl rfl)) (tg_name) (by decide) (fun _ _ _ _ _ => dts_nil) (fun _ _ _ _ _ => de_callH [.v, .v] h_renamed takes_F hr (da_cons (do_e (de_n (pv 0))) (da_cons (do_e (de_n (pv 1))) (da_nil))) (len_cons (len_cons len_nil))))) (da_nil))))
abbrev s_form_maps : Stmt := topOf prog 13
theorem sc_form_maps : FnScope ["table", "best", "found", "order", "x"] ["table"] (defScope s_form_maps) := ⟨rfl, rfl, rfl, by decide +kernel, rfl, by decide +kernel, by decide +kernel⟩
theorem ok_form_maps (h_orders_of : Has P w K mg base (gx K) "orders_of" ["table"] 2 (f_orders_of)) (h_renamed : Has P w K mg base (gx K) "renamed" ["table", "order"] 1 (f_renamed)) (h_group_form : Has P w K mg base (gx K) "group_form" ["table"] 3 (f_group_form)) {f : Addr} {fd : FuncData} (T : Txt mg) (Fn : Fun K "form_maps" "form_maps" s_form_maps f fd) (hm : mg "form_maps" = some (.ref f)) (hb : Binds K fd ["table"] []) : Has P w K mg base (gx K) "form_maps" ["table"] 4 f_form_maps :=
  has_mk (k := 3) (N := ["table", "best", "found", "order", "x"]) (body := b_form_maps) Fn hm hb sc_form_maps fun cdv A outer s H E hr => by
    have nd := sc_form_maps.nd; have hu := hr.units; have hu5 : _ + 65 < cLine := (by have := hr.un; omega : (A.deeper (envOfC "form_maps" (defScope s_form_maps) s.heap.objs.size f cdv)).units + 65 < cLine)
    have hu1 : (A.deeper (envOfC "form_maps" (defScope s_form_maps) s.heap.objs.size f cdv)).units + 1 < cLine := by omega
    have tk := takes_of (X := cxOf (L2.CX P w) P w K mg base ["table", "best", "found", "order", "x"] "form_maps" (defScope s_form_maps) f cdv A outer s H E) rfl rfl rfl rfl
    have own := passes_of (X := cxOf (L2.CX P w) P w K mg base ["table", "best", "found", "order", "x"] "form_maps" (defScope s_form_maps) f cdv A outer s H E) rfl
    refine dss_cons (f := b_form_maps_0) (ds_set nd rfl (Or.inl rfl) (de_callH [.v] h_group_form tk hr (da_cons (do_e (de_n (pv 0))) (da_nil)) (len_cons len_nil))) ?_
    refine dss_cons (f := b_form_maps_1) (ds_set nd rfl (Or.inl rfl) (de_lst (da_nil))) ?_
    refine dss_cons (f := b_form_maps_2) (ds_for own rfl (di_A rfl (de_callH [.v] h_orders_of tk hr (da_cons (do_e (de_n (pv 0))) (da_nil)) (len_cons len_nil))) (pg_name nd rfl (Or.inr rfl)) (tg_name) (dss_one (ds_if (dt_cmp (op_eqD hu) pr_eq (do_e (de_callH [.v, .v] h_renamed tk hr (da_cons (do_e (de_n (pv 0))) (da_cons (do_e (de_n (pv 3))) (da_nil))) (len_cons (len_cons len_nil)))) (do_n (pv 1)) (nomark _)) (dss_one (ds_expr (de_app (pv 2) (de_callTy call_tupleF pr_tuple rfl T.n_tuple bb_tuple (da_cons (do_e (de_lc [("x", 4)] rfl nd (di_range1 rfl T.n_range (do_e (de_callB call_lenA pr_lenA rfl T.n_len bb_len (da_cons (do_n (pv 0)) (da_nil))))) (blkOk_by (by rfl)) (fun _ _ _ _ _ => pg_name nd rfl (Or.inl rfl)) (tg_name) (by decide) (fun _ _ _ _ _ => dts_nil) (fun _ _ _ _ _ => de_ob (de_meth PySem.F.plainAttrs_list PySem.F.slot_list_index PySem.F.type_list_index tym_lst (mt_indexD hu5) pr_indexL (do_n (pv 3)) (da_cons (do_n (pv 4)) (da_nil))) (de_meth PySem.F.plainAttrs_tuple PySem.F.slot_tuple_index PySem.F.type_tuple_index tym_tup (mt_indexT hu5) pr_indexT (do_n (pv 3)) (da_cons (do_n (pv 4)) (da_nil)))))) (da_nil)))))) (dss_nil)))) ?_
    exact dss_one (f := b_form_maps_3) (ds_ret (de_callTy call_tupleF pr_tuple rfl T.n_tuple bb_tuple (da_cons (do_e (de_callB (call_sortD hu) pr_sort rfl T.n_sorted bb_sorted (da_cons (do_n (pv 2)) (da_nil)))) (da_nil))))
abbrev s_group_isomorphisms : Stmt := topOf prog 14
theorem sc_group_isomorphisms : FnScope ["one", "two", "back", "found", "images", "item"] ["one", "two"] (defScope s_group_isomorphisms) := ⟨rfl, rfl, rfl, by decide +kernel, rfl, by decide +kernel, by decide +kernel⟩
theorem ok_group_isomorphisms (h_group_form : Has P w K mg base (gx K) "group_form" ["table"] 3 (f_group_form)) (h_form_maps : Has P w K mg base (gx K) "form_maps" ["table"] 4 (f_form_maps)) {f : Addr} {fd : FuncData} (T : Txt mg) (Fn : Fun K "group_isomorphisms" "group_isomorphisms" s_group_isomorphisms f fd) (hm : mg "group_isomorphisms" = some (.ref f)) (hb : Binds K fd ["one", "two"] []) : Has P w K mg base (gx K) "group_isomorphisms" ["one", "two"] 5 f_group_isomorphisms :=
  has_mk (k := 4) (N := ["one", "two", "back", "found", "images", "item"]) (body := b_group_isomorphisms) Fn hm hb sc_group_isomorphisms fun cdv A outer s H E hr => by
    have nd := sc_group_isomorphisms.nd; have hu := hr.units; have hu5 : _ + 65 < cLine := (by have := hr.un; omega : (A.deeper (envOfC "group_isomorphisms" (defScope s_group_isomorphisms) s.heap.objs.size f cdv)).units + 65 < cLine)
    have hu1 : (A.deeper (envOfC "group_isomorphisms" (defScope s_group_isomorphisms) s.heap.objs.size f cdv)).units + 1 < cLine := by omega
    have tk := takes_of (X := cxOf (L2.CX P w) P w K mg base ["one", "two", "back", "found", "images", "item"] "group_isomorphisms" (defScope s_group_isomorphisms) f cdv A outer s H E) rfl rfl rfl rfl
    have own := passes_of (X := cxOf (L2.CX P w) P w K mg base ["one", "two", "back", "found", "images", "item"] "group_isomorphisms" (defScope s_group_isomorphisms) f cdv A outer s H E) rfl
    refine dss_cons (f := b_group_isomorphisms_0) (ds_if (dt_cmp (op_neD hu) pr_ne (do_e (de_callH [.v] h_group_form tk hr (da_cons (do_e (de_n (pv 0))) (da_nil)) (len_cons len_nil))) (do_e (de_callH [.v] h_group_form tk hr (da_cons (do_e (de_n (pv 1))) (da_nil)) (len_cons len_nil))) (nomark _)) (dss_one (ds_ret (de_tup (da_nil)))) (dss_nil)) ?_
    refine dss_cons (f := b_group_isomorphisms_1) (ds_set nd rfl (Or.inr rfl) (de_ix ix_seq pr_ix (do_e (de_callH [.v] h_form_maps tk hr (da_cons (do_e (de_n (pv 1))) (da_nil)) (len_cons len_nil))) (do_e (de_int)) (fun _ _ => rfl))) ?_
    refine dss_cons (f := b_group_isomorphisms_2) (ds_set nd rfl (Or.inl rfl) (de_lst (da_nil))) ?_
    refine dss_cons (f := b_group_isomorphisms_3) (ds_for own rfl (di_A rfl (de_callH [.v] h_form_maps tk hr (da_cons (do_e (de_n (pv 0))) (da_nil)) (len_cons len_nil))) (pg_name nd rfl (Or.inl rfl)) (tg_name) (dss_one (ds_expr (de_app (pv 3) (de_callTy call_tupleF pr_tuple rfl T.n_tuple bb_tuple (da_cons (do_e (de_lc [("item", 5)] rfl nd (di_A rfl (de_n (pv 4))) (blkOk_by (by rfl)) (fun _ _ _ _ _ => pg_name nd rfl (Or.inl rfl)) (tg_name) (by decide) (fun _ _ _ _ _ => dts_nil) (fun _ _ _ _ _ => de_ob (de_meth PySem.F.plainAttrs_list PySem.F.slot_list_index PySem.F.type_list_index tym_lst (mt_indexD hu5) pr_indexL (do_n (pv 2)) (da_cons (do_n (pv 5)) (da_nil))) (de_meth PySem.F.plainAttrs_tuple PySem.F.slot_tuple_index PySem.F.type_tuple_index tym_tup (mt_indexT hu5) pr_indexT (do_n (pv 2)) (da_cons (do_n (pv 5)) (da_nil)))))) (da_nil))))))) ?_
    exact dss_one (f := b_group_isomorphisms_4) (ds_ret (de_callTy call_tupleF pr_tuple rfl T.n_tuple bb_tuple (da_cons (do_e (de_callB (call_sortD hu) pr_sort rfl T.n_sorted bb_sorted (da_cons (do_n (pv 3)) (da_nil)))) (da_nil))))
abbrev s_law_state : Stmt := topOf prog 16
theorem sc_law_state : FnScope ["script", "seed", "total", "cell"] ["script"] (defScope s_law_state) := ⟨rfl, rfl, rfl, by decide +kernel, rfl, by decide +kernel, by decide +kernel⟩
theorem ok_law_state  {f : Addr} {fd : FuncData} (T : Txt mg) (Fn : Fun K "_law_state" "_law_state" s_law_state f fd) (hm : mg "_law_state" = some (.ref f)) (hb : Binds K fd ["script"] []) : Has P w K mg base (gx K) "_law_state" ["script"] 1 f_law_state :=
  has_mk (k := 0) (N := ["script", "seed", "total", "cell"]) (body := b_law_state) Fn hm hb sc_law_state fun cdv A outer s H E hr => by
    have nd := sc_law_state.nd; have hu := hr.units; have hu5 : _ + 65 < cLine := (by have := hr.un; omega : (A.deeper (envOfC "_law_state" (defScope s_law_state) s.heap.objs.size f cdv)).units + 65 < cLine)
    have hu1 : (A.deeper (envOfC "_law_state" (defScope s_law_state) s.heap.objs.size f cdv)).units + 1 < cLine := by omega
    have tk := takes_of (X := cxOf (L2.CX P w) P w K mg base ["script", "seed", "total", "cell"] "_law_state" (defScope s_law_state) f cdv A outer s H E) rfl rfl rfl rfl
    have own := passes_of (X := cxOf (L2.CX P w) P w K mg base ["script", "seed", "total", "cell"] "_law_state" (defScope s_law_state) f cdv A outer s H E) rfl
    refine dss_cons (f := b_law_state_0) (ds_set nd rfl (Or.inl rfl) (de_int)) ?_
    refine dss_cons (f := b_law_state_1) (ds_set nd rfl (Or.inl rfl) (de_int)) ?_
    refine dss_cons (f := b_law_state_2) (ds_for own rfl (di_A rfl (de_sl sl_A pr_sl (do_n (pv 0)) (dp_no) (dp_e (de_int)))) (pg_name nd rfl (Or.inl rfl)) (tg_name) (dss_cons (ds_set nd rfl (Or.inl rfl) (de_bin op_addA pr_add (do_e (de_bin op_mulA pr_mul (do_n (pv 1)) (do_e (de_int)))) (do_e (de_callB call_abs pr_abs rfl T.n_abs bb_abs (da_cons (do_n (pv 3)) (da_nil)))))) (dss_one (ds_set nd rfl (Or.inl rfl) (de_bin op_mod pr_mod (do_e (de_callTy call_int1 pr_int rfl T.n_int bb_int (da_cons (do_e (de_bin op_addA pr_add (do_e (de_bin op_mulA pr_mul (do_n (pv 2)) (do_e (de_int)))) (do_n (pv 3)))) (da_nil)))) (do_e (de_int))))))) ?_
    exact dss_one (f := b_law_state_3) (ds_ret (de_lst (da_cons (do_e (de_n (pv 1))) (da_cons (do_e (de_if (dt_cmp (op_neD hu) pr_ne (do_n (pv 2)) (do_e (de_int)) (nomark _)) (de_n (pv 2)) (de_int))) (da_nil)))))
abbrev s_law_odd : Stmt := topOf prog 17
theorem sc_law_odd : FnScope ["value", "item"] ["value"] (defScope s_law_odd) := ⟨rfl, rfl, rfl, by decide +kernel, rfl, by decide +kernel, by decide +kernel⟩
theorem ok_law_odd  {f : Addr} {fd : FuncData} (T : Txt mg) (Fn : Fun K "_law_odd" "_law_odd" s_law_odd f fd) (hm : mg "_law_odd" = some (.ref f)) (hb : Binds K fd ["value"] []) : ∀ n : Nat, Has P w K mg base (gx K) "_law_odd" ["value"] (n + 1) (f_law_odd n)
  | 0 => has_mk (N := ["value", "item"]) (body := fun _ => .bad) Fn hm hb sc_law_odd fun cdv A outer s H E hr => ⟨fun _ _ _ _ _ _ ⟨_, _, _, _, _, h⟩ => h.elim⟩
  | n + 1 => has_mk (N := ["value", "item"]) Fn hm hb sc_law_odd fun cdv A outer s H E hr => by
    have h_law_odd := ok_law_odd  T Fn hm hb n
    have nd := sc_law_odd.nd; have hu := hr.units; have hu5 : _ + 65 < cLine := (by have := hr.un; omega : (A.deeper (envOfC "_law_odd" (defScope s_law_odd) s.heap.objs.size f cdv)).units + 65 < cLine)
    have hu1 : (A.deeper (envOfC "_law_odd" (defScope s_law_odd) s.heap.objs.size f cdv)).units + 1 < cLine := by omega
    have tk := takes_of (X := cxOf (L2.CX P w) P w K mg base ["value", "item"] "_law_odd" (defScope s_law_odd) f cdv A outer s H E) rfl rfl rfl rfl
    have own := passes_of (X := cxOf (L2.CX P w) P w K mg base ["value", "item"] "_law_odd" (defScope s_law_odd) f cdv A outer s H E) rfl
    refine dss_cons (f := b_law_odd_0 (f_law_odd n)) (ds_if (dt_cmp (op_eqD hu) pr_eq (do_n (pv 0)) (do_e (de_str)) (nomark _)) (dss_one (ds_ret (de_bl))) (dss_nil)) ?_
    exact dss_one (f := b_law_odd_1 (f_law_odd n)) (ds_ret (de_and (de_callB call_isiA pr_isiA rfl T.n_isinstance bb_isinstance (da_cons (do_n (pv 0)) (da_cons (do_e (de_tup (da_cons (do_e (de_ty rfl T.n_tuple bb_tuple)) (da_cons (do_e (de_ty rfl T.n_list bb_list)) (da_nil))))) (da_nil)))) (de_one (de_cmp op_gt pr_I (do_e (de_callB call_lenA pr_lenA rfl T.n_len bb_len (da_cons (do_e (de_lc [("item", 1)] rfl nd (di_A rfl (de_n (pv 0))) (blkOk_by (by rfl)) (fun _ _ _ _ _ => pg_name nd rfl (Or.inl rfl)) (tg_name) (by decide) (fun _ _ _ _ _ => dts_one (dt_val (de_callH [.v] h_law_odd takes_F hr (da_cons (do_e (de_n (pv 1))) (da_nil)) (len_cons len_nil) (Nat.le_refl _)))) (fun _ _ _ _ _ => de_n (pv 1)))) (da_nil)))) (do_e (de_int)) (nomark _)))))
abbrev s_law_honest : Stmt := topOf prog 18
theorem sc_law_honest : FnScope ["value"] ["value"] (defScope s_law_honest) := ⟨rfl, rfl, rfl, by decide +kernel, rfl, by decide +kernel, by decide +kernel⟩
theorem ok_law_honest (h_law_odd : Has P w K mg base (gx K) "_law_odd" ["value"] 13 (f_law_odd 12)) {f : Addr} {fd : FuncData} (T : Txt mg) (Fn : Fun K "_law_honest" "_law_honest" s_law_honest f fd) (hm : mg "_law_honest" = some (.ref f)) (hb : Binds K fd ["value"] []) : Has P w K mg base (gx K) "_law_honest" ["value"] 14 f_law_honest :=
  has_mk (k := 13) (N := ["value"]) (body := b_law_honest) Fn hm hb sc_law_honest fun cdv A outer s H E hr => by
    have nd := sc_law_honest.nd; have hu := hr.units; have hu5 : _ + 65 < cLine := (by have := hr.un; omega : (A.deeper (envOfC "_law_honest" (defScope s_law_honest) s.heap.objs.size f cdv)).units + 65 < cLine)
    have hu1 : (A.deeper (envOfC "_law_honest" (defScope s_law_honest) s.heap.objs.size f cdv)).units + 1 < cLine := by omega
    have tk := takes_of (X := cxOf (L2.CX P w) P w K mg base ["value"] "_law_honest" (defScope s_law_honest) f cdv A outer s H E) rfl rfl rfl rfl
    have own := passes_of (X := cxOf (L2.CX P w) P w K mg base ["value"] "_law_honest" (defScope s_law_honest) f cdv A outer s H E) rfl
    exact dss_one (f := b_law_honest_0) (ds_ret (de_if (dt_val (de_callH [.v] h_law_odd tk hr (da_cons (do_e (de_n (pv 0))) (da_nil)) (len_cons len_nil))) (de_str) (de_r (pv 0))))
abbrev s_law_take : Stmt := topOf prog 19
theorem sc_law_take : FnScope ["state", "m", "value"] ["state", "m"] (defScope s_law_take) := ⟨rfl, rfl, rfl, by decide +kernel, rfl, by decide +kernel, by decide +kernel⟩
theorem ok_law_take  {f : Addr} {fd : FuncData} (T : Txt mg) (Fn : Fun K "_law_take" "_law_take" s_law_take f fd) (hm : mg "_law_take" = some (.ref f)) (hb : Binds K fd ["state", "m"] []) : Has P w K mg base (gx K) "_law_take" ["state", "m"] 1 f_law_take :=
  has_mk (k := 0) (N := ["state", "m", "value"]) (body := b_law_take) Fn hm hb sc_law_take fun cdv A outer s H E hr => by
    have nd := sc_law_take.nd; have hu := hr.units; have hu5 : _ + 65 < cLine := (by have := hr.un; omega : (A.deeper (envOfC "_law_take" (defScope s_law_take) s.heap.objs.size f cdv)).units + 65 < cLine)
    have hu1 : (A.deeper (envOfC "_law_take" (defScope s_law_take) s.heap.objs.size f cdv)).units + 1 < cLine := by omega
    have tk := takes_of (X := cxOf (L2.CX P w) P w K mg base ["state", "m", "value"] "_law_take" (defScope s_law_take) f cdv A outer s H E) rfl rfl rfl rfl
    have own := passes_of (X := cxOf (L2.CX P w) P w K mg base ["state", "m", "value"] "_law_take" (defScope s_law_take) f cdv A outer s H E) rfl
    refine dss_cons (f := b_law_take_0) (ds_if (dt_cmp op_gt pr_I (do_e (de_ix ix_seq pr_ix (do_n (pv 0)) (do_e (de_int)) (fun _ _ => rfl))) (do_e (de_int)) (nomark _)) (dss_cons (ds_set nd rfl (Or.inl rfl) (de_bin op_mod pr_mod (do_e (de_callTy call_int1 pr_int rfl T.n_int bb_int (da_cons (do_e (de_ix ix_seq pr_ix (do_n (pv 0)) (do_e (de_int)) (fun _ _ => rfl))) (da_nil)))) (do_n (pv 1)))) (dss_cons (ds_setIx (pv 0) (de_bin op_fdiv pr_div (do_e (de_ix ix_seq pr_ix (do_n (pv 0)) (do_e (de_int)) (fun _ _ => rfl))) (do_n (pv 1))) (de_int)) (dss_one (ds_ret (de_r (pv 2)))))) (dss_nil)) ?_
    refine dss_cons (f := b_law_take_1) (ds_setIx (pv 0) (de_bin op_mod pr_mod (do_e (de_callTy call_int1 pr_int rfl T.n_int bb_int (da_cons (do_e (de_bin op_addA pr_add (do_e (de_bin op_mulA pr_mul (do_e (de_ix ix_seq pr_ix (do_n (pv 0)) (do_e (de_int)) (fun _ _ => rfl))) (do_e (de_int)))) (do_e (de_int)))) (da_nil)))) (do_e (de_int))) (de_int)) ?_
    exact dss_one (f := b_law_take_2) (ds_ret (de_bin op_mod pr_mod (do_e (de_callTy call_int1 pr_int rfl T.n_int bb_int (da_cons (do_e (de_bin op_fdiv pr_div (do_e (de_ix ix_seq pr_ix (do_n (pv 0)) (do_e (de_int)) (fun _ _ => rfl))) (do_e (de_int)))) (da_nil)))) (do_n (pv 1))))
abbrev s_law_order_of : Stmt := topOf prog 20
theorem sc_law_order_of : FnScope ["state", "n", "left", "found", "k"] ["state", "n"] (defScope s_law_order_of) := ⟨rfl, rfl, rfl, by decide +kernel, rfl, by decide +kernel, by decide +kernel⟩
theorem ok_law_order_of (h_law_take : Has P w K mg base (gx K) "_law_take" ["state", "m"] 1 (f_law_take)) {f : Addr} {fd : FuncData} (T : Txt mg) (Fn : Fun K "_law_order_of" "_law_order_of" s_law_order_of f fd) (hm : mg "_law_order_of" = some (.ref f)) (hb : Binds K fd ["state", "n"] []) : Has P w K mg base (gx K) "_law_order_of" ["state", "n"] 2 f_law_order_of :=
  has_mk (k := 1) (N := ["state", "n", "left", "found", "k"]) (body := b_law_order_of) Fn hm hb sc_law_order_of fun cdv A outer s H E hr => by
    have nd := sc_law_order_of.nd; have hu := hr.units; have hu5 : _ + 65 < cLine := (by have := hr.un; omega : (A.deeper (envOfC "_law_order_of" (defScope s_law_order_of) s.heap.objs.size f cdv)).units + 65 < cLine)
    have hu1 : (A.deeper (envOfC "_law_order_of" (defScope s_law_order_of) s.heap.objs.size f cdv)).units + 1 < cLine := by omega
    have tk := takes_of (X := cxOf (L2.CX P w) P w K mg base ["state", "n", "left", "found", "k"] "_law_order_of" (defScope s_law_order_of) f cdv A outer s H E) rfl rfl rfl rfl
    have own := passes_of (X := cxOf (L2.CX P w) P w K mg base ["state", "n", "left", "found", "k"] "_law_order_of" (defScope s_law_order_of) f cdv A outer s H E) rfl
    refine dss_cons (f := b_law_order_of_0) (ds_set nd rfl (Or.inl rfl) (de_lrg1 rfl rfl T.n_list rfl T.n_range (do_n (pv 1)))) ?_
    refine dss_cons (f := b_law_order_of_1) (ds_set nd rfl (Or.inl rfl) (de_lst (da_nil))) ?_
    refine dss_cons (f := b_law_order_of_2) (ds_for own rfl (di_range1 rfl T.n_range (do_n (pv 1))) (pg_name nd rfl (Or.inl rfl)) (tg_name) (dss_one (ds_expr (de_app (pv 3) (de_popAt (pv 2) (de_callH [.io, .v] h_law_take tk hr (da_cons (do_n (pv 0)) (da_cons (do_e (de_callB call_lenA pr_lenA rfl T.n_len bb_len (da_cons (do_n (pv 2)) (da_nil)))) (da_nil))) (len_cons (len_cons len_nil)))))))) ?_
    exact dss_one (f := b_law_order_of_3) (ds_ret (de_r (pv 3)))
abbrev s_law_renamed : Stmt := topOf prog 21
theorem sc_law_renamed : FnScope ["table", "order", "n", "found", "x", "y", "row"] ["table", "order"] (defScope s_law_renamed) := ⟨rfl, rfl, rfl, by decide +kernel, rfl, by decide +kernel, by decide +kernel⟩
theorem ok_law_renamed  {f : Addr} {fd : FuncData} (T : Txt mg) (Fn : Fun K "_law_renamed" "_law_renamed" s_law_renamed f fd) (hm : mg "_law_renamed" = some (.ref f)) (hb : Binds K fd ["table", "order"] []) : Has P w K mg base (gx K) "_law_renamed" ["table", "order"] 1 f_law_renamed :=
  has_mk (k := 0) (N := ["table", "order", "n", "found", "x", "y", "row"]) (body := b_law_renamed) Fn hm hb sc_law_renamed fun cdv A outer s H E hr => by
    have nd := sc_law_renamed.nd; have hu := hr.units; have hu5 : _ + 65 < cLine := (by have := hr.un; omega : (A.deeper (envOfC "_law_renamed" (defScope s_law_renamed) s.heap.objs.size f cdv)).units + 65 < cLine)
    have hu1 : (A.deeper (envOfC "_law_renamed" (defScope s_law_renamed) s.heap.objs.size f cdv)).units + 1 < cLine := by omega
    have tk := takes_of (X := cxOf (L2.CX P w) P w K mg base ["table", "order", "n", "found", "x", "y", "row"] "_law_renamed" (defScope s_law_renamed) f cdv A outer s H E) rfl rfl rfl rfl
    have own := passes_of (X := cxOf (L2.CX P w) P w K mg base ["table", "order", "n", "found", "x", "y", "row"] "_law_renamed" (defScope s_law_renamed) f cdv A outer s H E) rfl
    refine dss_cons (f := b_law_renamed_0) (ds_set nd rfl (Or.inr rfl) (de_callB call_lenA pr_lenA rfl T.n_len bb_len (da_cons (do_n (pv 0)) (da_nil)))) ?_
    refine dss_cons (f := b_law_renamed_1) (ds_setLcR [("x", 4)] rfl nd rfl rfl rfl (di_range1 rfl T.n_range (do_n (pv 2))) (blkOk_by (by rfl)) (fun _ _ _ _ _ => pg_name nd rfl (Or.inl rfl)) (tg_name) (by decide) (fun _ _ _ _ _ => dts_nil) (fun _ _ _ _ _ => de_lc [("y", 5)] rfl nd (di_range1 rfl T.n_range (do_n (pv 2))) (blkOk_by (by rfl)) (fun _ _ _ _ _ => pg_name nd rfl (Or.inl rfl)) (tg_name) (by decide) (fun _ _ _ _ _ => dts_nil) (fun _ _ _ _ _ => de_int))) ?_
    refine dss_cons (f := b_law_renamed_2) (ds_for own rfl (di_range1 rfl T.n_range (do_n (pv 2))) (pg_name nd rfl (Or.inl rfl)) (tg_name) (dss_one (ds_for own rfl (di_range1 rfl T.n_range (do_n (pv 2))) (pg_name nd rfl (Or.inl rfl)) (tg_name) (dss_one (ds_setIx2 rfl (pv 3) (de_ix ix_seq pr_ix (do_n (pv 1)) (do_e (de_ix ix_seq pr_ix (do_e (de_ix ix_seq pr_ix (do_n (pv 0)) (do_n (pv 4)) (fun _ _ => rfl))) (do_n (pv 5)) (fun _ _ => rfl))) (fun _ _ => rfl)) (de_ix ix_seq pr_ix (do_n (pv 1)) (do_n (pv 4)) (fun _ _ => rfl)) (de_ix ix_seq pr_ix (do_n (pv 1)) (do_n (pv 5)) (fun _ _ => rfl)) (fun _ _ => rfl)))))) ?_
    exact dss_one (f := b_law_renamed_3) (ds_ret (de_lc [("row", 6)] rfl nd (di_A rfl (de_n (pv 3))) (blkOk_by (by rfl)) (fun _ _ _ _ _ => pg_name nd rfl (Or.inl rfl)) (tg_name) (by decide) (fun _ _ _ _ _ => dts_nil) (fun _ _ _ _ _ => de_callTy call_tupleF pr_tuple rfl T.n_tuple bb_tuple (da_cons (do_n (pv 6)) (da_nil)))))
abbrev s_law_times_table : Stmt := topOf prog 22
theorem sc_law_times_table : FnScope ["one", "two", "n", "m", "rows", "x", "y"] ["one", "two"] (defScope s_law_times_table) := ⟨rfl, rfl, rfl, by decide +kernel, rfl, by decide +kernel, by decide +kernel⟩
theorem ok_law_times_table  {f : Addr} {fd : FuncData} (T : Txt mg) (Fn : Fun K "_law_times_table" "_law_times_table" s_law_times_table f fd) (hm : mg "_law_times_table" = some (.ref f)) (hb : Binds K fd ["one", "two"] []) : Has P w K mg base (gx K) "_law_times_table" ["one", "two"] 1 f_law_times_table :=
  has_mk (k := 0) (N := ["one", "two", "n", "m", "rows", "x", "y"]) (body := b_law_times_table) Fn hm hb sc_law_times_table fun cdv A outer s H E hr => by
    have nd := sc_law_times_table.nd; have hu := hr.units; have hu5 : _ + 65 < cLine := (by have := hr.un; omega : (A.deeper (envOfC "_law_times_table" (defScope s_law_times_table) s.heap.objs.size f cdv)).units + 65 < cLine)
    have hu1 : (A.deeper (envOfC "_law_times_table" (defScope s_law_times_table) s.heap.objs.size f cdv)).units + 1 < cLine := by omega
    have tk := takes_of (X := cxOf (L2.CX P w) P w K mg base ["one", "two", "n", "m", "rows", "x", "y"] "_law_times_table" (defScope s_law_times_table) f cdv A outer s H E) rfl rfl rfl rfl
    have own := passes_of (X := cxOf (L2.CX P w) P w K mg base ["one", "two", "n", "m", "rows", "x", "y"] "_law_times_table" (defScope s_law_times_table) f cdv A outer s H E) rfl
    refine dss_cons (f := b_law_times_table_0) (ds_asg (de_tup (da_cons (do_e (de_callB call_lenA pr_lenA rfl T.n_len bb_len (da_cons (do_n (pv 0)) (da_nil)))) (da_cons (do_e (de_callB call_lenA pr_lenA rfl T.n_len bb_len (da_cons (do_n (pv 1)) (da_nil)))) (da_nil)))) (pg_tup rfl (pgs_cons (pg_name nd rfl (Or.inl rfl)) (pgs_cons (pg_name nd rfl (Or.inr rfl)) (pgs_nil)))) (tg_tup (tgs_cons (tg_name) (tgs_cons (tg_name) (tgs_nil))))) ?_
    refine dss_cons (f := b_law_times_table_1) (ds_set nd rfl (Or.inl rfl) (de_lst (da_nil))) ?_
    refine dss_cons (f := b_law_times_table_2) (ds_for own rfl (di_range1 rfl T.n_range (do_e (de_bin op_mulA pr_mul (do_n (pv 2)) (do_n (pv 3))))) (pg_name nd rfl (Or.inr rfl)) (tg_name) (dss_one (ds_expr (de_app (pv 4) (de_callTy call_tupleF pr_tuple rfl T.n_tuple bb_tuple (da_cons (do_e (de_lc [("y", 6)] rfl nd (di_range1 rfl T.n_range (do_e (de_bin op_mulA pr_mul (do_n (pv 2)) (do_n (pv 3))))) (blkOk_by (by rfl)) (fun _ _ _ _ _ => pg_name nd rfl (Or.inl rfl)) (tg_name) (by decide) (fun _ _ _ _ _ => dts_nil) (fun _ _ _ _ _ => de_bin op_addA pr_add (do_e (de_bin op_mulA pr_mul (do_e (de_ix ix_seq pr_ix (do_e (de_ix ix_seq pr_ix (do_n (pv 0)) (do_e (de_bin op_fdiv pr_div (do_n (pv 5)) (do_n (pv 3)))) (fun _ _ => rfl))) (do_e (de_bin op_fdiv pr_div (do_n (pv 6)) (do_n (pv 3)))) (fun _ _ => rfl))) (do_n (pv 3)))) (do_e (de_ix ix_seq pr_ix (do_e (de_ix ix_seq pr_ix (do_n (pv 1)) (do_e (de_bin op_mod pr_mod (do_e (de_callTy call_int1 pr_int rfl T.n_int bb_int (da_cons (do_n (pv 5)) (da_nil)))) (do_n (pv 3)))) (fun _ _ => rfl))) (do_e (de_bin op_mod pr_mod (do_e (de_callTy call_int1 pr_int rfl T.n_int bb_int (da_cons (do_n (pv 6)) (da_nil)))) (do_n (pv 3)))) (fun _ _ => rfl)))))) (da_nil))))))) ?_
    exact dss_one (f := b_law_times_table_3) (ds_ret (de_r (pv 4)))
abbrev s_law_group_of : Stmt := topOf prog 23
theorem sc_law_group_of : FnScope ["members", "f", "g", "x"] ["members"] (defScope s_law_group_of) := ⟨rfl, rfl, rfl, by decide +kernel, rfl, by decide +kernel, by decide +kernel⟩
theorem ok_law_group_of  {f : Addr} {fd : FuncData} (T : Txt mg) (Fn : Fun K "_law_group_of" "_law_group_of" s_law_group_of f fd) (hm : mg "_law_group_of" = some (.ref f)) (hb : Binds K fd ["members"] []) : Has P w K mg base (gx K) "_law_group_of" ["members"] 1 f_law_group_of :=
  has_mk (k := 0) (N := ["members", "f", "g", "x"]) (body := b_law_group_of) Fn hm hb sc_law_group_of fun cdv A outer s H E hr => by
    have nd := sc_law_group_of.nd; have hu := hr.units; have hu5 : _ + 65 < cLine := (by have := hr.un; omega : (A.deeper (envOfC "_law_group_of" (defScope s_law_group_of) s.heap.objs.size f cdv)).units + 65 < cLine)
    have hu1 : (A.deeper (envOfC "_law_group_of" (defScope s_law_group_of) s.heap.objs.size f cdv)).units + 1 < cLine := by omega
    have tk := takes_of (X := cxOf (L2.CX P w) P w K mg base ["members", "f", "g", "x"] "_law_group_of" (defScope s_law_group_of) f cdv A outer s H E) rfl rfl rfl rfl
    have own := passes_of (X := cxOf (L2.CX P w) P w K mg base ["members", "f", "g", "x"] "_law_group_of" (defScope s_law_group_of) f cdv A outer s H E) rfl
    exact dss_one (f := b_law_group_of_0) (ds_ret (de_lc [("f", 1)] rfl nd (di_A rfl (de_n (pv 0))) (blkOk_by (by rfl)) (fun _ _ _ _ _ => pg_name nd rfl (Or.inr rfl)) (tg_name) (by decide) (fun _ _ _ _ _ => dts_nil) (fun _ _ _ _ _ => de_callTy call_tupleF pr_tuple rfl T.n_tuple bb_tuple (da_cons (do_e (de_lc [("g", 2)] rfl nd (di_A rfl (de_n (pv 0))) (blkOk_by (by rfl)) (fun _ _ _ _ _ => pg_name nd rfl (Or.inr rfl)) (tg_name) (by decide) (fun _ _ _ _ _ => dts_nil) (fun _ _ _ _ _ => de_ob (de_meth PySem.F.plainAttrs_list PySem.F.slot_list_index PySem.F.type_list_index tym_lst (mt_indexD hu5) pr_indexL (do_n (pv 0)) (da_cons (do_e (de_callTy call_tupleF pr_tuple rfl T.n_tuple bb_tuple (da_cons (do_e (de_lc [("x", 3)] rfl nd (di_A rfl (de_n (pv 1))) (blkOk_by (by rfl)) (fun _ _ _ _ _ => pg_name nd rfl (Or.inl rfl)) (tg_name) (by decide) (fun _ _ _ _ _ => dts_nil) (fun _ _ _ _ _ => de_ix ix_seq pr_ix (do_n (pv 2)) (do_n (pv 3)) (fun _ _ => rfl)))) (da_nil)))) (da_nil))) (de_meth PySem.F.plainAttrs_tuple PySem.F.slot_tuple_index PySem.F.type_tuple_index tym_tup (mt_indexT hu5) pr_indexT (do_n (pv 0)) (da_cons (do_e (de_callTy call_tupleF pr_tuple rfl T.n_tuple bb_tuple (da_cons (do_e (de_lc [("x", 3)] rfl nd (di_A rfl (de_n (pv 1))) (blkOk_by (by rfl)) (fun _ _ _ _ _ => pg_name nd rfl (Or.inl rfl)) (tg_name) (by decide) (fun _ _ _ _ _ => dts_nil) (fun _ _ _ _ _ => de_ix ix_seq pr_ix (do_n (pv 2)) (do_n (pv 3)) (fun _ _ => rfl)))) (da_nil)))) (da_nil)))))) (da_nil)))))
abbrev s_law_turns : Stmt := topOf prog 24
theorem sc_law_turns : FnScope ["n", "found", "k", "x"] ["n"] (defScope s_law_turns) := ⟨rfl, rfl, rfl, by decide +kernel, rfl, by decide +kernel, by decide +kernel⟩
theorem ok_law_turns (h_law_group_of : Has P w K mg base (gx K) "_law_group_of" ["members"] 1 (f_law_group_of)) {f : Addr} {fd : FuncData} (T : Txt mg) (Fn : Fun K "_law_turns" "_law_turns" s_law_turns f fd) (hm : mg "_law_turns" = some (.ref f)) (hb : Binds K fd ["n"] []) : Has P w K mg base (gx K) "_law_turns" ["n"] 2 f_law_turns :=
  has_mk (k := 1) (N := ["n", "found", "k", "x"]) (body := b_law_turns) Fn hm hb sc_law_turns fun cdv A outer s H E hr => by
    have nd := sc_law_turns.nd; have hu := hr.units; have hu5 : _ + 65 < cLine := (by have := hr.un; omega : (A.deeper (envOfC "_law_turns" (defScope s_law_turns) s.heap.objs.size f cdv)).units + 65 < cLine)
    have hu1 : (A.deeper (envOfC "_law_turns" (defScope s_law_turns) s.heap.objs.size f cdv)).units + 1 < cLine := by omega
    have tk := takes_of (X := cxOf (L2.CX P w) P w K mg base ["n", "found", "k", "x"] "_law_turns" (defScope s_law_turns) f cdv A outer s H E) rfl rfl rfl rfl
    have own := passes_of (X := cxOf (L2.CX P w) P w K mg base ["n", "found", "k", "x"] "_law_turns" (defScope s_law_turns) f cdv A outer s H E) rfl
    refine dss_cons (f := b_law_turns_0) (ds_set nd rfl (Or.inl rfl) (de_lst (da_nil))) ?_
    refine dss_cons (f := b_law_turns_1) (ds_for own rfl (di_range1 rfl T.n_range (do_n (pv 0))) (pg_name nd rfl (Or.inr rfl)) (tg_name) (dss_cons (ds_expr (de_app (pv 1) (de_callTy call_tupleF pr_tuple rfl T.n_tuple bb_tuple (da_cons (do_e (de_lc [("x", 3)] rfl nd (di_range1 rfl T.n_range (do_n (pv 0))) (blkOk_by (by rfl)) (fun _ _ _ _ _ => pg_name nd rfl (Or.inl rfl)) (tg_name) (by decide) (fun _ _ _ _ _ => dts_nil) (fun _ _ _ _ _ => de_bin op_mod pr_mod (do_e (de_callTy call_int1 pr_int rfl T.n_int bb_int (da_cons (do_e (de_bin op_addA pr_add (do_n (pv 3)) (do_n (pv 2)))) (da_nil)))) (do_n (pv 0))))) (da_nil))))) (dss_one (ds_expr (de_app (pv 1) (de_callTy call_tupleF pr_tuple rfl T.n_tuple bb_tuple (da_cons (do_e (de_lc [("x", 3)] rfl nd (di_range1 rfl T.n_range (do_n (pv 0))) (blkOk_by (by rfl)) (fun _ _ _ _ _ => pg_name nd rfl (Or.inl rfl)) (tg_name) (by decide) (fun _ _ _ _ _ => dts_nil) (fun _ _ _ _ _ => de_bin op_mod pr_mod (do_e (de_callTy call_int1 pr_int rfl T.n_int bb_int (da_cons (do_e (de_bin op_sub pr_sub (do_n (pv 2)) (do_n (pv 3)))) (da_nil)))) (do_n (pv 0))))) (da_nil)))))))) ?_
    exact dss_one (f := b_law_turns_2) (ds_ret (de_callH [.v] h_law_group_of tk hr (da_cons (do_e (de_n (pv 1))) (da_nil)) (len_cons len_nil)))
abbrev s_law_even : Stmt := topOf prog 25
theorem sc_law_even : FnScope ["f", "x", "y"] ["f"] (defScope s_law_even) := ⟨rfl, rfl, rfl, by decide +kernel, rfl, by decide +kernel, by decide +kernel⟩
theorem ok_law_even  {f : Addr} {fd : FuncData} (T : Txt mg) (Fn : Fun K "_law_even" "_law_even" s_law_even f fd) (hm : mg "_law_even" = some (.ref f)) (hb : Binds K fd ["f"] []) : Has P w K mg base (gx K) "_law_even" ["f"] 1 f_law_even :=
  has_mk (k := 0) (N := ["f", "x", "y"]) (body := b_law_even) Fn hm hb sc_law_even fun cdv A outer s H E hr => by
    have nd := sc_law_even.nd; have hu := hr.units; have hu5 : _ + 65 < cLine := (by have := hr.un; omega : (A.deeper (envOfC "_law_even" (defScope s_law_even) s.heap.objs.size f cdv)).units + 65 < cLine)
    have hu1 : (A.deeper (envOfC "_law_even" (defScope s_law_even) s.heap.objs.size f cdv)).units + 1 < cLine := by omega
    have tk := takes_of (X := cxOf (L2.CX P w) P w K mg base ["f", "x", "y"] "_law_even" (defScope s_law_even) f cdv A outer s H E) rfl rfl rfl rfl
    have own := passes_of (X := cxOf (L2.CX P w) P w K mg base ["f", "x", "y"] "_law_even" (defScope s_law_even) f cdv A outer s H E) rfl
    exact dss_one (f := b_law_even_0) (ds_ret (de_cmp (op_eqD hu) pr_eq (do_e (de_bin op_mod pr_mod (do_e (de_callB (cr_sum rfl) pr_sum rfl T.n_sum bb_sum (da_cons (do_e (de_lc [("x", 1)] rfl nd (di_range1 rfl T.n_range (do_e (de_callB call_lenA pr_lenA rfl T.n_len bb_len (da_cons (do_n (pv 0)) (da_nil))))) (blkOk_by (by rfl)) (fun _ _ _ _ _ => pg_name nd rfl (Or.inr rfl)) (tg_name) (by decide) (fun _ _ _ _ _ => dts_nil) (fun _ _ _ _ _ => de_callB call_lenA pr_lenA rfl T.n_len bb_len (da_cons (do_e (de_lc [("y", 2)] rfl nd (di_range1 rfl T.n_range (do_n (pv 1))) (blkOk_by (by rfl)) (fun _ _ _ _ _ => pg_name nd rfl (Or.inl rfl)) (tg_name) (by decide) (fun _ _ _ _ _ => dts_one (dt_cmp op_gt pr_I (do_e (de_ix ix_seq pr_ix (do_n (pv 0)) (do_n (pv 2)) (fun _ _ => rfl))) (do_e (de_ix ix_seq pr_ix (do_n (pv 0)) (do_n (pv 1)) (fun _ _ => rfl))) (nomark _))) (fun _ _ _ _ _ => de_n (pv 2)))) (da_nil))))) (da_nil)))) (do_e (de_int)))) (do_e (de_int)) (nomark _)))
abbrev s_law_orders : Stmt := topOf prog 26
theorem sc_law_orders : FnScope ["n", "found", "k", "longer", "row", "x"] ["n"] (defScope s_law_orders) := ⟨rfl, rfl, rfl, by decide +kernel, rfl, by decide +kernel, by decide +kernel⟩
theorem ok_law_orders  {f : Addr} {fd : FuncData} (T : Txt mg) (Fn : Fun K "_law_orders" "_law_orders" s_law_orders f fd) (hm : mg "_law_orders" = some (.ref f)) (hb : Binds K fd ["n"] []) : Has P w K mg base (gx K) "_law_orders" ["n"] 1 f_law_orders :=
  has_mk (k := 0) (N := ["n", "found", "k", "longer", "row", "x"]) (body := b_law_orders) Fn hm hb sc_law_orders fun cdv A outer s H E hr => by
    have nd := sc_law_orders.nd; have hu := hr.units; have hu5 : _ + 65 < cLine := (by have := hr.un; omega : (A.deeper (envOfC "_law_orders" (defScope s_law_orders) s.heap.objs.size f cdv)).units + 65 < cLine)
    have hu1 : (A.deeper (envOfC "_law_orders" (defScope s_law_orders) s.heap.objs.size f cdv)).units + 1 < cLine := by omega
    have tk := takes_of (X := cxOf (L2.CX P w) P w K mg base ["n", "found", "k", "longer", "row", "x"] "_law_orders" (defScope s_law_orders) f cdv A outer s H E) rfl rfl rfl rfl
    have own := passes_of (X := cxOf (L2.CX P w) P w K mg base ["n", "found", "k", "longer", "row", "x"] "_law_orders" (defScope s_law_orders) f cdv A outer s H E) rfl
    refine dss_cons (f := b_law_orders_0) (ds_set nd rfl (Or.inl rfl) (de_lst (da_cons (do_e (de_tup (da_nil))) (da_nil)))) ?_
    refine dss_cons (f := b_law_orders_1) (ds_for own rfl (di_range1 rfl T.n_range (do_n (pv 0))) (pg_name nd rfl (Or.inl rfl)) (tg_name) (dss_cons (ds_set nd rfl (Or.inl rfl) (de_lst (da_nil))) (dss_cons (ds_for own rfl (di_A rfl (de_n (pv 1))) (pg_name nd rfl (Or.inr rfl)) (tg_name) (dss_one (ds_set nd rfl (Or.inl rfl) (de_bin op_addA pr_add (do_n (pv 3)) (do_e (de_lc [("x", 5)] rfl nd (di_range1 rfl T.n_range (do_n (pv 0))) (blkOk_by (by rfl)) (fun _ _ _ _ _ => pg_name nd rfl (Or.inl rfl)) (tg_name) (by decide) (fun _ _ _ _ _ => dts_one (dt_cmp (op_ninA hu5) pr_nin (do_n (pv 5)) (do_n (pv 4)) (by with_unfolding_all rfl))) (fun _ _ _ _ _ => de_bin op_addA pr_add (do_n (pv 4)) (do_e (de_tup (da_cons (do_e (de_n (pv 5))) (da_nil))))))))))) (dss_one (ds_set nd rfl (Or.inl rfl) (de_callTy call_list_of pr_list rfl T.n_list bb_list (da_cons (do_n (pv 3)) (da_nil)))))))) ?_
    exact dss_one (f := b_law_orders_2) (ds_ret (de_r (pv 1)))
abbrev s_law_cyclic : Stmt := topOf prog 27
theorem sc_law_cyclic : FnScope ["n", "x", "y"] ["n"] (defScope s_law_cyclic) := ⟨rfl, rfl, rfl, by decide +kernel, rfl, by decide +kernel, by decide +kernel⟩
theorem ok_law_cyclic  {f : Addr} {fd : FuncData} (T : Txt mg) (Fn : Fun K "_law_cyclic" "_law_cyclic" s_law_cyclic f fd) (hm : mg "_law_cyclic" = some (.ref f)) (hb : Binds K fd ["n"] []) : Has P w K mg base (gx K) "_law_cyclic" ["n"] 1 f_law_cyclic :=
  has_mk (k := 0) (N := ["n", "x", "y"]) (body := b_law_cyclic) Fn hm hb sc_law_cyclic fun cdv A outer s H E hr => by
    have nd := sc_law_cyclic.nd; have hu := hr.units; have hu5 : _ + 65 < cLine := (by have := hr.un; omega : (A.deeper (envOfC "_law_cyclic" (defScope s_law_cyclic) s.heap.objs.size f cdv)).units + 65 < cLine)
    have hu1 : (A.deeper (envOfC "_law_cyclic" (defScope s_law_cyclic) s.heap.objs.size f cdv)).units + 1 < cLine := by omega
    have tk := takes_of (X := cxOf (L2.CX P w) P w K mg base ["n", "x", "y"] "_law_cyclic" (defScope s_law_cyclic) f cdv A outer s H E) rfl rfl rfl rfl
    have own := passes_of (X := cxOf (L2.CX P w) P w K mg base ["n", "x", "y"] "_law_cyclic" (defScope s_law_cyclic) f cdv A outer s H E) rfl
    exact dss_one (f := b_law_cyclic_0) (ds_ret (de_lc [("x", 1)] rfl nd (di_range1 rfl T.n_range (do_n (pv 0))) (blkOk_by (by rfl)) (fun _ _ _ _ _ => pg_name nd rfl (Or.inr rfl)) (tg_name) (by decide) (fun _ _ _ _ _ => dts_nil) (fun _ _ _ _ _ => de_callTy call_tupleF pr_tuple rfl T.n_tuple bb_tuple (da_cons (do_e (de_lc [("y", 2)] rfl nd (di_range1 rfl T.n_range (do_n (pv 0))) (blkOk_by (by rfl)) (fun _ _ _ _ _ => pg_name nd rfl (Or.inl rfl)) (tg_name) (by decide) (fun _ _ _ _ _ => dts_nil) (fun _ _ _ _ _ => de_bin op_mod pr_mod (do_e (de_callTy call_int1 pr_int rfl T.n_int bb_int (da_cons (do_e (de_bin op_addA pr_add (do_n (pv 1)) (do_n (pv 2)))) (da_nil)))) (do_n (pv 0))))) (da_nil)))))
abbrev s_law_quaternions : Stmt := topOf prog 28
theorem sc_law_quaternions : FnScope ["rows", "x", "row", "y", "i", "a", "turn", "k", "j", "b"] [] (defScope s_law_quaternions) := ⟨rfl, rfl, rfl, by decide +kernel, rfl, by decide +kernel, by decide +kernel⟩
theorem ok_law_quaternions  {f : Addr} {fd : FuncData} (T : Txt mg) (Fn : Fun K "_law_quaternions" "_law_quaternions" s_law_quaternions f fd) (hm : mg "_law_quaternions" = some (.ref f)) (hb : Binds K fd [] []) : Has P w K mg base (gx K) "_law_quaternions" [] 1 f_law_quaternions :=
  has_mk (k := 0) (N := ["rows", "x", "row", "y", "i", "a", "turn", "k", "j", "b"]) (body := b_law_quaternions) Fn hm hb sc_law_quaternions fun cdv A outer s H E hr => by
    have nd := sc_law_quaternions.nd; have hu := hr.units; have hu5 : _ + 65 < cLine := (by have := hr.un; omega : (A.deeper (envOfC "_law_quaternions" (defScope s_law_quaternions) s.heap.objs.size f cdv)).units + 65 < cLine)
    have hu1 : (A.deeper (envOfC "_law_quaternions" (defScope s_law_quaternions) s.heap.objs.size f cdv)).units + 1 < cLine := by omega
    have tk := takes_of (X := cxOf (L2.CX P w) P w K mg base ["rows", "x", "row", "y", "i", "a", "turn", "k", "j", "b"] "_law_quaternions" (defScope s_law_quaternions) f cdv A outer s H E) rfl rfl rfl rfl
    have own := passes_of (X := cxOf (L2.CX P w) P w K mg base ["rows", "x", "row", "y", "i", "a", "turn", "k", "j", "b"] "_law_quaternions" (defScope s_law_quaternions) f cdv A outer s H E) rfl
    refine dss_cons (f := b_law_quaternions_0) (ds_set nd rfl (Or.inl rfl) (de_lst (da_nil))) ?_
    refine dss_cons (f := b_law_quaternions_1) (ds_for own rfl (di_range1 rfl T.n_range (do_e (de_int))) (pg_name nd rfl (Or.inl rfl)) (tg_name) (dss_cons (ds_par rfl nd rfl rfl (by decide) rfl rfl (de_bin op_fdiv pr_div (do_n (pv 1)) (do_e (de_int))) (de_bin op_mod pr_mod (do_e (de_callTy call_int1 pr_int rfl T.n_int bb_int (da_cons (do_n (pv 1)) (da_nil)))) (do_e (de_int))) rfl) (dss_cons (ds_set nd rfl (Or.inl rfl) (de_lst (da_nil))) (dss_cons (ds_for own rfl (di_range1 rfl T.n_range (do_e (de_int))) (pg_name nd rfl (Or.inl rfl)) (tg_name) (dss_cons (ds_par rfl nd rfl rfl (by decide) rfl rfl (de_bin op_fdiv pr_div (do_n (pv 3)) (do_e (de_int))) (de_bin op_mod pr_mod (do_e (de_callTy call_int1 pr_int rfl T.n_int bb_int (da_cons (do_n (pv 3)) (da_nil)))) (do_e (de_int))) rfl) (dss_cons (ds_set nd rfl (Or.inl rfl) (de_callTy call_int1 pr_int rfl T.n_int bb_int (da_cons (do_e (de_or (de_and (de_cmp (op_eqD hu) pr_eq (do_n (pv 4)) (do_n (pv 8)) (nomark _)) (de_one (de_cmp op_gt pr_I (do_n (pv 4)) (do_e (de_int)) (nomark _)))) (de_one (de_cmp (op_inA hu5) pr_in (do_e (de_tup (da_cons (do_e (de_n (pv 4))) (da_cons (do_e (de_n (pv 8))) (da_nil))))) (do_e (de_lst (da_cons (do_e (de_tup (da_cons (do_e (de_int)) (da_cons (do_e (de_int)) (da_nil))))) (da_cons (do_e (de_tup (da_cons (do_e (de_int)) (da_cons (do_e (de_int)) (da_nil))))) (da_cons (do_e (de_tup (da_cons (do_e (de_int)) (da_cons (do_e (de_int)) (da_nil))))) (da_nil)))))) (by with_unfolding_all rfl))))) (da_nil)))) (dss_cons (ds_set nd rfl (Or.inl rfl) (de_if (dt_w (dw_or (dt_cmp (op_eqD hu) pr_eq (do_n (pv 4)) (do_e (de_int)) (nomark _)) (dw_or1 (dt_cmp (op_eqD hu) pr_eq (do_n (pv 8)) (do_e (de_int)) (nomark _))))) (de_bin op_addA pr_add (do_n (pv 4)) (do_n (pv 8))) (de_if (dt_cmp (op_eqD hu) pr_eq (do_n (pv 4)) (do_n (pv 8)) (nomark _)) (de_int) (de_bin op_sub pr_sub (do_e (de_bin op_sub pr_sub (do_e (de_int)) (do_n (pv 4)))) (do_n (pv 8)))))) (dss_one (ds_expr (de_app (pv 2) (de_bin op_addA pr_add (do_e (de_bin op_mulA pr_mul (do_e (de_int)) (do_n (pv 7)))) (do_e (de_bin op_mod pr_mod (do_e (de_callTy call_int1 pr_int rfl T.n_int bb_int (da_cons (do_e (de_bin op_addA pr_add (do_e (de_bin op_addA pr_add (do_n (pv 5)) (do_n (pv 9)))) (do_n (pv 6)))) (da_nil)))) (do_e (de_int)))))))))))) (dss_one (ds_expr (de_app (pv 0) (de_callTy call_tupleF pr_tuple rfl T.n_tuple bb_tuple (da_cons (do_n (pv 2)) (da_nil)))))))))) ?_
    exact dss_one (f := b_law_quaternions_2) (ds_ret (de_r (pv 0)))
abbrev s_law_inner_order : Stmt := topOf prog 29
theorem sc_law_inner_order : FnScope ["state", "n", "x"] ["state", "n"] (defScope s_law_inner_order) := ⟨rfl, rfl, rfl, by decide +kernel, rfl, by decide +kernel, by decide +kernel⟩
theorem ok_law_inner_order (h_law_order_of : Has P w K mg base (gx K) "_law_order_of" ["state", "n"] 2 (f_law_order_of)) {f : Addr} {fd : FuncData} (T : Txt mg) (Fn : Fun K "_law_inner_order" "_law_inner_order" s_law_inner_order f fd) (hm : mg "_law_inner_order" = some (.ref f)) (hb : Binds K fd ["state", "n"] []) : Has P w K mg base (gx K) "_law_inner_order" ["state", "n"] 3 f_law_inner_order :=
  has_mk (k := 2) (N := ["state", "n", "x"]) (body := b_law_inner_order) Fn hm hb sc_law_inner_order fun cdv A outer s H E hr => by
    have nd := sc_law_inner_order.nd; have hu := hr.units; have hu5 : _ + 65 < cLine := (by have := hr.un; omega : (A.deeper (envOfC "_law_inner_order" (defScope s_law_inner_order) s.heap.objs.size f cdv)).units + 65 < cLine)
    have hu1 : (A.deeper (envOfC "_law_inner_order" (defScope s_law_inner_order) s.heap.objs.size f cdv)).units + 1 < cLine := by omega
    have tk := takes_of (X := cxOf (L2.CX P w) P w K mg base ["state", "n", "x"] "_law_inner_order" (defScope s_law_inner_order) f cdv A outer s H E) rfl rfl rfl rfl
    have own := passes_of (X := cxOf (L2.CX P w) P w K mg base ["state", "n", "x"] "_law_inner_order" (defScope s_law_inner_order) f cdv A outer s H E) rfl
    exact dss_one (f := b_law_inner_order_0) (ds_ret (de_bin op_addA pr_add (do_e (de_lst (da_cons (do_e (de_int)) (da_nil)))) (do_e (de_lc [("x", 2)] rfl nd (di_A rfl (de_callH [.io, .v] h_law_order_of tk hr (da_cons (do_n (pv 0)) (da_cons (do_e (de_bin op_sub pr_sub (do_n (pv 1)) (do_e (de_int)))) (da_nil))) (len_cons (len_cons len_nil)))) (blkOk_by (by rfl)) (fun _ _ _ _ _ => pg_name nd rfl (Or.inl rfl)) (tg_name) (by decide) (fun _ _ _ _ _ => dts_nil) (fun _ _ _ _ _ => de_bin op_addA pr_add (do_e (de_int)) (do_n (pv 2)))))))
abbrev s_law_some : Stmt := topOf prog 30
theorem sc_law_some : FnScope ["state", "great", "pick", "f", "one", "two"] ["state", "great"] (defScope s_law_some) := ⟨rfl, rfl, rfl, by decide +kernel, rfl, by decide +kernel, by decide +kernel⟩
theorem ok_law_some (h_law_take : Has P w K mg base (gx K) "_law_take" ["state", "m"] 1 (f_law_take)) (h_law_times_table : Has P w K mg base (gx K) "_law_times_table" ["one", "two"] 1 (f_law_times_table)) (h_law_group_of : Has P w K mg base (gx K) "_law_group_of" ["members"] 1 (f_law_group_of)) (h_law_turns : Has P w K mg base (gx K) "_law_turns" ["n"] 2 (f_law_turns)) (h_law_even : Has P w K mg base (gx K) "_law_even" ["f"] 1 (f_law_even)) (h_law_orders : Has P w K mg base (gx K) "_law_orders" ["n"] 1 (f_law_orders)) (h_law_cyclic : Has P w K mg base (gx K) "_law_cyclic" ["n"] 1 (f_law_cyclic)) (h_law_quaternions : Has P w K mg base (gx K) "_law_quaternions" [] 1 (f_law_quaternions)) {f : Addr} {fd : FuncData} (T : Txt mg) (Fn : Fun K "_law_some" "_law_some" s_law_some f fd) (hm : mg "_law_some" = some (.ref f)) (hb : Binds K fd ["state", "great"] []) : Has P w K mg base (gx K) "_law_some" ["state", "great"] 3 f_law_some :=
  has_mk (k := 2) (N := ["state", "great", "pick", "f", "one", "two"]) (body := b_law_some) Fn hm hb sc_law_some fun cdv A outer s H E hr => by
    have nd := sc_law_some.nd; have hu := hr.units; have hu5 : _ + 65 < cLine := (by have := hr.un; omega : (A.deeper (envOfC "_law_some" (defScope s_law_some) s.heap.objs.size f cdv)).units + 65 < cLine)
    have hu1 : (A.deeper (envOfC "_law_some" (defScope s_law_some) s.heap.objs.size f cdv)).units + 1 < cLine := by omega
    have tk := takes_of (X := cxOf (L2.CX P w) P w K mg base ["state", "great", "pick", "f", "one", "two"] "_law_some" (defScope s_law_some) f cdv A outer s H E) rfl rfl rfl rfl
    have own := passes_of (X := cxOf (L2.CX P w) P w K mg base ["state", "great", "pick", "f", "one", "two"] "_law_some" (defScope s_law_some) f cdv A outer s H E) rfl
    refine dss_cons (f := b_law_some_0) (ds_set nd rfl (Or.inl rfl) (de_callH [.io, .v] h_law_take tk hr (da_cons (do_n (pv 0)) (da_cons (do_e (de_int)) (da_nil))) (len_cons (len_cons len_nil)))) ?_
    refine dss_cons (f := b_law_some_1) (ds_if (dt_cmp (op_eqD hu) pr_eq (do_n (pv 2)) (do_e (de_int)) (nomark _)) (dss_one (ds_ret (de_callH [.v] h_law_cyclic tk hr (da_cons (do_e (de_bin op_addA pr_add (do_e (de_int)) (do_e (de_callH [.io, .v] h_law_take tk hr (da_cons (do_n (pv 0)) (da_cons (do_e (de_int)) (da_nil))) (len_cons (len_cons len_nil)))))) (da_nil)) (len_cons len_nil)))) (dss_nil)) ?_
    refine dss_cons (f := b_law_some_2) (ds_if (dt_cmp (op_eqD hu) pr_eq (do_n (pv 2)) (do_e (de_int)) (nomark _)) (dss_one (ds_ret (de_callH [.v] h_law_turns tk hr (da_cons (do_e (de_bin op_addA pr_add (do_e (de_int)) (do_e (de_callH [.io, .v] h_law_take tk hr (da_cons (do_n (pv 0)) (da_cons (do_e (de_int)) (da_nil))) (len_cons (len_cons len_nil)))))) (da_nil)) (len_cons len_nil)))) (dss_nil)) ?_
    refine dss_cons (f := b_law_some_3) (ds_if (dt_cmp (op_eqD hu) pr_eq (do_n (pv 2)) (do_e (de_int)) (nomark _)) (dss_one (ds_ret (de_callH0 h_law_quaternions tk hr))) (dss_nil)) ?_
    refine dss_cons (f := b_law_some_4) (ds_if (dt_cmp (op_eqD hu) pr_eq (do_n (pv 2)) (do_e (de_int)) (nomark _)) (dss_one (ds_ret (de_callH [.v] h_law_group_of tk hr (da_cons (do_e (de_lc [("f", 3)] rfl nd (di_A rfl (de_callH [.v] h_law_orders tk hr (da_cons (do_e (de_int)) (da_nil)) (len_cons len_nil))) (blkOk_by (by rfl)) (fun _ _ _ _ _ => pg_name nd rfl (Or.inl rfl)) (tg_name) (by decide) (fun _ _ _ _ _ => dts_one (dt_val (de_callH [.v] h_law_even takes_F hr (da_cons (do_e (de_n (pv 3))) (da_nil)) (len_cons len_nil)))) (fun _ _ _ _ _ => de_n (pv 3)))) (da_nil)) (len_cons len_nil)))) (dss_nil)) ?_
    refine dss_cons (f := b_law_some_5) (ds_if (dt_w (dw_and (dt_cmp (op_eqD hu) pr_eq (do_n (pv 2)) (do_e (de_int)) (nomark _)) (dw_and1 (dt_val (de_n (pv 1)))))) (dss_one (ds_ret (de_callH [.v] h_law_group_of tk hr (da_cons (do_e (de_callH [.v] h_law_orders tk hr (da_cons (do_e (de_int)) (da_nil)) (len_cons len_nil))) (da_nil)) (len_cons len_nil)))) (dss_nil)) ?_
    refine dss_cons (f := b_law_some_6) (ds_asg (de_ix ix_seq pr_ix (do_e (de_lst (da_cons (do_e (de_tup (da_cons (do_e (de_int)) (da_cons (do_e (de_int)) (da_nil))))) (da_cons (do_e (de_tup (da_cons (do_e (de_int)) (da_cons (do_e (de_int)) (da_nil))))) (da_cons (do_e (de_tup (da_cons (do_e (de_int)) (da_cons (do_e (de_int)) (da_nil))))) (da_cons (do_e (de_tup (da_cons (do_e (de_int)) (da_cons (do_e (de_int)) (da_nil))))) (da_cons (do_e (de_tup (da_cons (do_e (de_int)) (da_cons (do_e (de_int)) (da_nil))))) (da_cons (do_e (de_tup (da_cons (do_e (de_int)) (da_cons (do_e (de_int)) (da_nil))))) (da_cons (do_e (de_tup (da_cons (do_e (de_int)) (da_cons (do_e (de_int)) (da_nil))))) (da_nil)))))))))) (do_e (de_callH [.io, .v] h_law_take tk hr (da_cons (do_n (pv 0)) (da_cons (do_e (de_int)) (da_nil))) (len_cons (len_cons len_nil)))) (fun _ _ => rfl)) (pg_tup rfl (pgs_cons (pg_name nd rfl (Or.inl rfl)) (pgs_cons (pg_name nd rfl (Or.inl rfl)) (pgs_nil)))) (tg_tup (tgs_cons (tg_name) (tgs_cons (tg_name) (tgs_nil))))) ?_
    exact dss_one (f := b_law_some_7) (ds_ret (de_callH [.v, .v] h_law_times_table tk hr (da_cons (do_e (de_callH [.v] h_law_cyclic tk hr (da_cons (do_e (de_n (pv 4))) (da_nil)) (len_cons len_nil))) (da_cons (do_e (de_callH [.v] h_law_cyclic tk hr (da_cons (do_e (de_n (pv 5))) (da_nil)) (len_cons len_nil))) (da_nil))) (len_cons (len_cons len_nil))))
abbrev s_law_shuffled : Stmt := topOf prog 31
theorem sc_law_shuffled : FnScope ["state", "table", "n", "unit", "x", "order", "at"] ["state", "table"] (defScope s_law_shuffled) := ⟨rfl, rfl, rfl, by decide +kernel, rfl, by decide +kernel, by decide +kernel⟩
theorem ok_law_shuffled (h_law_renamed : Has P w K mg base (gx K) "_law_renamed" ["table", "order"] 1 (f_law_renamed)) (h_law_inner_order : Has P w K mg base (gx K) "_law_inner_order" ["state", "n"] 3 (f_law_inner_order)) {f : Addr} {fd : FuncData} (T : Txt mg) (Fn : Fun K "_law_shuffled" "_law_shuffled" s_law_shuffled f fd) (hm : mg "_law_shuffled" = some (.ref f)) (hb : Binds K fd ["state", "table"] []) : Has P w K mg base (gx K) "_law_shuffled" ["state", "table"] 4 f_law_shuffled :=
  has_mk (k := 3) (N := ["state", "table", "n", "unit", "x", "order", "at"]) (body := b_law_shuffled) Fn hm hb sc_law_shuffled fun cdv A outer s H E hr => by
    have nd := sc_law_shuffled.nd; have hu := hr.units; have hu5 : _ + 65 < cLine := (by have := hr.un; omega : (A.deeper (envOfC "_law_shuffled" (defScope s_law_shuffled) s.heap.objs.size f cdv)).units + 65 < cLine)
    have hu1 : (A.deeper (envOfC "_law_shuffled" (defScope s_law_shuffled) s.heap.objs.size f cdv)).units + 1 < cLine := by omega
    have tk := takes_of (X := cxOf (L2.CX P w) P w K mg base ["state", "table", "n", "unit", "x", "order", "at"] "_law_shuffled" (defScope s_law_shuffled) f cdv A outer s H E) rfl rfl rfl rfl
    have own := passes_of (X := cxOf (L2.CX P w) P w K mg base ["state", "table", "n", "unit", "x", "order", "at"] "_law_shuffled" (defScope s_law_shuffled) f cdv A outer s H E) rfl
    refine dss_cons (f := b_law_shuffled_0) (ds_set nd rfl (Or.inl rfl) (de_callB call_lenA pr_lenA rfl T.n_len bb_len (da_cons (do_n (pv 1)) (da_nil)))) ?_
    refine dss_cons (f := b_law_shuffled_1) (ds_set nd rfl (Or.inl rfl) (de_ix ix_seq pr_ix (do_e (de_lc [("x", 4)] rfl nd (di_range1 rfl T.n_range (do_n (pv 2))) (blkOk_by (by rfl)) (fun _ _ _ _ _ => pg_name nd rfl (Or.inl rfl)) (tg_name) (by decide) (fun _ _ _ _ _ => dts_one (dt_cmp (op_eqD hu) pr_eq (do_e (de_ix ix_seq pr_ix (do_e (de_ix ix_seq pr_ix (do_n (pv 1)) (do_n (pv 4)) (fun _ _ => rfl))) (do_n (pv 4)) (fun _ _ => rfl))) (do_n (pv 4)) (nomark _))) (fun _ _ _ _ _ => de_n (pv 4)))) (do_e (de_int)) (fun _ _ => rfl))) ?_
    refine dss_cons (f := b_law_shuffled_2) (ds_set nd rfl (Or.inl rfl) (de_callH [.io, .v] h_law_inner_order tk hr (da_cons (do_n (pv 0)) (da_cons (do_e (de_n (pv 2))) (da_nil))) (len_cons (len_cons len_nil)))) ?_
    refine dss_cons (f := b_law_shuffled_3) (ds_set nd rfl (Or.inl rfl) (de_ob (de_meth PySem.F.plainAttrs_list PySem.F.slot_list_index PySem.F.type_list_index tym_lst (mt_indexD hu5) pr_indexL (do_n (pv 5)) (da_cons (do_e (de_int)) (da_nil))) (de_meth PySem.F.plainAttrs_tuple PySem.F.slot_tuple_index PySem.F.type_tuple_index tym_tup (mt_indexT hu5) pr_indexT (do_n (pv 5)) (da_cons (do_e (de_int)) (da_nil))))) ?_
    refine dss_cons (f := b_law_shuffled_4) (ds_asg (de_tup (da_cons (do_e (de_ix ix_seq pr_ix (do_n (pv 5)) (do_n (pv 3)) (fun _ _ => rfl))) (da_cons (do_e (de_ix ix_seq pr_ix (do_n (pv 5)) (do_n (pv 6)) (fun _ _ => rfl))) (da_nil)))) (pg_tup rfl (pgs_cons (pg_sub (pv 5) (pv 6) set_list (by intro _; rfl)) (pgs_cons (pg_sub (pv 5) (pv 3) set_list (by intro _; rfl)) (pgs_nil)))) (tg_tup (tgs_cons (tg_ix) (tgs_cons (tg_ix) (tgs_nil))))) ?_
    exact dss_one (f := b_law_shuffled_5) (ds_ret (de_callH [.v, .v] h_law_renamed tk hr (da_cons (do_e (de_n (pv 1))) (da_cons (do_e (de_n (pv 5))) (da_nil))) (len_cons (len_cons len_nil))))
abbrev s_law_listed : Stmt := topOf prog 32
theorem sc_law_listed : FnScope ["table", "generators", "found", "seen", "at", "g", "y"] ["table", "generators"] (defScope s_law_listed) := ⟨rfl, rfl, rfl, by decide +kernel, rfl, by decide +kernel, by decide +kernel⟩
theorem ok_law_listed  {f : Addr} {fd : FuncData} (T : Txt mg) (Fn : Fun K "_law_listed" "_law_listed" s_law_listed f fd) (hm : mg "_law_listed" = some (.ref f)) (hb : Binds K fd ["table", "generators"] []) : Has P w K mg base (gx K) "_law_listed" ["table", "generators"] 1 f_law_listed :=
  has_mk (k := 0) (N := ["table", "generators", "found", "seen", "at", "g", "y"]) (body := b_law_listed) Fn hm hb sc_law_listed fun cdv A outer s H E hr => by
    have nd := sc_law_listed.nd; have hu := hr.units; have hu5 : _ + 65 < cLine := (by have := hr.un; omega : (A.deeper (envOfC "_law_listed" (defScope s_law_listed) s.heap.objs.size f cdv)).units + 65 < cLine)
    have hu1 : (A.deeper (envOfC "_law_listed" (defScope s_law_listed) s.heap.objs.size f cdv)).units + 1 < cLine := by omega
    have tk := takes_of (X := cxOf (L2.CX P w) P w K mg base ["table", "generators", "found", "seen", "at", "g", "y"] "_law_listed" (defScope s_law_listed) f cdv A outer s H E) rfl rfl rfl rfl
    have own := passes_of (X := cxOf (L2.CX P w) P w K mg base ["table", "generators", "found", "seen", "at", "g", "y"] "_law_listed" (defScope s_law_listed) f cdv A outer s H E) rfl
    refine dss_cons (f := b_law_listed_0) (ds_par rfl nd rfl rfl (by decide) rfl rfl (de_lst (da_cons (do_e (de_int)) (da_nil))) (de_d1 (de_int) (de_bl)) rfl) ?_
    refine dss_cons (f := b_law_listed_1) (ds_set nd rfl (Or.inl rfl) (de_int)) ?_
    refine dss_cons (f := b_law_listed_2) (ds_wh 1000 own (dt_cmp (op_ltA hu) pr_lt (do_n (pv 4)) (do_e (de_callB call_lenA pr_lenA rfl T.n_len bb_len (da_cons (do_n (pv 2)) (da_nil)))) (nomark _)) (dss_cons (ds_for own rfl (di_A rfl (de_n (pv 1))) (pg_name nd rfl (Or.inl rfl)) (tg_name) (dss_cons (ds_set nd rfl (Or.inl rfl) (de_ix ix_seq pr_ix (do_e (de_ix ix_seq pr_ix (do_n (pv 0)) (do_e (de_ix ix_seq pr_ix (do_n (pv 2)) (do_n (pv 4)) (fun _ _ => rfl))) (fun _ _ => rfl))) (do_n (pv 5)) (fun _ _ => rfl))) (dss_one (ds_if (dt_dNin hu1 (do_n (pv 6)) (do_n (pv 3))) (dss_cons (ds_dPut hu1 (pv 3) (de_bl) (de_n (pv 6))) (dss_one (ds_expr (de_app (pv 2) (de_n (pv 6)))))) (dss_nil))))) (dss_one (ds_set nd rfl (Or.inl rfl) (de_bin op_addA pr_add (do_n (pv 4)) (do_e (de_int))))))) ?_
    exact dss_one (f := b_law_listed_3) (ds_ret (de_r (pv 2)))
abbrev s_law_rows : Stmt := topOf prog 33
theorem sc_law_rows : FnScope ["n", "size", "found", "turn", "longer", "row", "x"] ["n", "size"] (defScope s_law_rows) := ⟨rfl, rfl, rfl, by decide +kernel, rfl, by decide +kernel, by decide +kernel⟩
theorem ok_law_rows  {f : Addr} {fd : FuncData} (T : Txt mg) (Fn : Fun K "_law_rows" "_law_rows" s_law_rows f fd) (hm : mg "_law_rows" = some (.ref f)) (hb : Binds K fd ["n", "size"] []) : Has P w K mg base (gx K) "_law_rows" ["n", "size"] 1 f_law_rows :=
  has_mk (k := 0) (N := ["n", "size", "found", "turn", "longer", "row", "x"]) (body := b_law_rows) Fn hm hb sc_law_rows fun cdv A outer s H E hr => by
    have nd := sc_law_rows.nd; have hu := hr.units; have hu5 : _ + 65 < cLine := (by have := hr.un; omega : (A.deeper (envOfC "_law_rows" (defScope s_law_rows) s.heap.objs.size f cdv)).units + 65 < cLine)
    have hu1 : (A.deeper (envOfC "_law_rows" (defScope s_law_rows) s.heap.objs.size f cdv)).units + 1 < cLine := by omega
    have tk := takes_of (X := cxOf (L2.CX P w) P w K mg base ["n", "size", "found", "turn", "longer", "row", "x"] "_law_rows" (defScope s_law_rows) f cdv A outer s H E) rfl rfl rfl rfl
    have own := passes_of (X := cxOf (L2.CX P w) P w K mg base ["n", "size", "found", "turn", "longer", "row", "x"] "_law_rows" (defScope s_law_rows) f cdv A outer s H E) rfl
    refine dss_cons (f := b_law_rows_0) (ds_set nd rfl (Or.inl rfl) (de_lst (da_cons (do_e (de_tup (da_nil))) (da_nil)))) ?_
    refine dss_cons (f := b_law_rows_1) (ds_for own rfl (di_range1 rfl T.n_range (do_n (pv 1))) (pg_name nd rfl (Or.inl rfl)) (tg_name) (dss_cons (ds_set nd rfl (Or.inl rfl) (de_lst (da_nil))) (dss_cons (ds_for own rfl (di_A rfl (de_n (pv 2))) (pg_name nd rfl (Or.inr rfl)) (tg_name) (dss_one (ds_set nd rfl (Or.inl rfl) (de_bin op_addA pr_add (do_n (pv 4)) (do_e (de_lc [("x", 6)] rfl nd (di_range2 rfl T.n_range (do_e (de_int)) (do_n (pv 0))) (blkOk_by (by rfl)) (fun _ _ _ _ _ => pg_name nd rfl (Or.inl rfl)) (tg_name) (by decide) (fun _ _ _ _ _ => dts_nil) (fun _ _ _ _ _ => de_bin op_addA pr_add (do_n (pv 5)) (do_e (de_tup (da_cons (do_e (de_n (pv 6))) (da_nil))))))))))) (dss_one (ds_set nd rfl (Or.inl rfl) (de_callTy call_list_of pr_list rfl T.n_list bb_list (da_cons (do_n (pv 4)) (da_nil)))))))) ?_
    exact dss_one (f := b_law_rows_2) (ds_ret (de_r (pv 2)))
abbrev s_law_enumerations : Stmt := topOf prog 34
theorem sc_law_enumerations : FnScope ["table", "n", "size", "found", "order", "row"] ["table"] (defScope s_law_enumerations) := ⟨rfl, rfl, rfl, by decide +kernel, rfl, by decide +kernel, by decide +kernel⟩
theorem ok_law_enumerations (h_law_listed : Has P w K mg base (gx K) "_law_listed" ["table", "generators"] 1 (f_law_listed)) (h_law_rows : Has P w K mg base (gx K) "_law_rows" ["n", "size"] 1 (f_law_rows)) {f : Addr} {fd : FuncData} (T : Txt mg) (Fn : Fun K "_law_enumerations" "_law_enumerations" s_law_enumerations f fd) (hm : mg "_law_enumerations" = some (.ref f)) (hb : Binds K fd ["table"] []) : Has P w K mg base (gx K) "_law_enumerations" ["table"] 2 f_law_enumerations :=
  has_mk (k := 1) (N := ["table", "n", "size", "found", "order", "row"]) (body := b_law_enumerations) Fn hm hb sc_law_enumerations fun cdv A outer s H E hr => by
    have nd := sc_law_enumerations.nd; have hu := hr.units; have hu5 : _ + 65 < cLine := (by have := hr.un; omega : (A.deeper (envOfC "_law_enumerations" (defScope s_law_enumerations) s.heap.objs.size f cdv)).units + 65 < cLine)
    have hu1 : (A.deeper (envOfC "_law_enumerations" (defScope s_law_enumerations) s.heap.objs.size f cdv)).units + 1 < cLine := by omega
    have tk := takes_of (X := cxOf (L2.CX P w) P w K mg base ["table", "n", "size", "found", "order", "row"] "_law_enumerations" (defScope s_law_enumerations) f cdv A outer s H E) rfl rfl rfl rfl
    have own := passes_of (X := cxOf (L2.CX P w) P w K mg base ["table", "n", "size", "found", "order", "row"] "_law_enumerations" (defScope s_law_enumerations) f cdv A outer s H E) rfl
    refine dss_cons (f := b_law_enumerations_0) (ds_set nd rfl (Or.inr rfl) (de_callB call_lenA pr_lenA rfl T.n_len bb_len (da_cons (do_n (pv 0)) (da_nil)))) ?_
    refine dss_cons (f := b_law_enumerations_1) (ds_for own rfl (di_range1 rfl T.n_range (do_e (de_int))) (pg_name nd rfl (Or.inl rfl)) (tg_name) (dss_cons (ds_setLc [("order", 4)] rfl nd rfl rfl rfl (di_A rfl (de_lc [("row", 5)] rfl nd (di_A rfl (de_callH [.v, .v] h_law_rows tk hr (da_cons (do_e (de_n (pv 1))) (da_cons (do_e (de_n (pv 2))) (da_nil))) (len_cons (len_cons len_nil)))) (blkOk_by (by rfl)) (fun _ _ _ _ _ => pg_name nd rfl (Or.inl rfl)) (tg_name) (by decide) (fun _ _ _ _ _ => dts_nil) (fun _ _ _ _ _ => de_callH [.v, .v] h_law_listed takes_F hr (da_cons (do_e (de_n (pv 0))) (da_cons (do_e (de_n (pv 5))) (da_nil))) (len_cons (len_cons len_nil))))) (blkOk_by (by rfl)) (fun _ _ _ _ _ => pg_name nd rfl (Or.inl rfl)) (tg_name) (by decide) (fun _ _ _ _ _ => dts_one (dt_cmp (op_eqD hu) pr_eq (do_e (de_callB call_lenA pr_lenA rfl T.n_len bb_len (da_cons (do_n (pv 4)) (da_nil)))) (do_n (pv 1)) (nomark _))) (fun _ _ _ _ _ => de_n (pv 4))) (dss_one (ds_if (dt_cmp op_gt pr_I (do_e (de_callB call_lenA pr_lenA rfl T.n_len bb_len (da_cons (do_n (pv 3)) (da_nil)))) (do_e (de_int)) (nomark _)) (dss_one (ds_ret (de_r (pv 3)))) (dss_nil))))) ?_
    exact dss_one (f := b_law_enumerations_2) (ds_ret (de_lst (da_nil)))
abbrev s_law_by_order : Stmt := topOf prog 35
theorem sc_law_by_order : FnScope ["table", "order", "place", "x", "k", "y"] ["table", "order"] (defScope s_law_by_order) := ⟨rfl, rfl, rfl, by decide +kernel, rfl, by decide +kernel, by decide +kernel⟩
theorem ok_law_by_order  {f : Addr} {fd : FuncData} (T : Txt mg) (Fn : Fun K "_law_by_order" "_law_by_order" s_law_by_order f fd) (hm : mg "_law_by_order" = some (.ref f)) (hb : Binds K fd ["table", "order"] []) : Has P w K mg base (gx K) "_law_by_order" ["table", "order"] 1 f_law_by_order :=
  has_mk (k := 0) (N := ["table", "order", "place", "x", "k", "y"]) (body := b_law_by_order) Fn hm hb sc_law_by_order fun cdv A outer s H E hr => by
    have nd := sc_law_by_order.nd; have hu := hr.units; have hu5 : _ + 65 < cLine := (by have := hr.un; omega : (A.deeper (envOfC "_law_by_order" (defScope s_law_by_order) s.heap.objs.size f cdv)).units + 65 < cLine)
    have hu1 : (A.deeper (envOfC "_law_by_order" (defScope s_law_by_order) s.heap.objs.size f cdv)).units + 1 < cLine := by omega
    have tk := takes_of (X := cxOf (L2.CX P w) P w K mg base ["table", "order", "place", "x", "k", "y"] "_law_by_order" (defScope s_law_by_order) f cdv A outer s H E) rfl rfl rfl rfl
    have own := passes_of (X := cxOf (L2.CX P w) P w K mg base ["table", "order", "place", "x", "k", "y"] "_law_by_order" (defScope s_law_by_order) f cdv A outer s H E) rfl
    refine dss_cons (f := b_law_by_order_0) (ds_set nd rfl (Or.inr rfl) (de_lc [("x", 3)] rfl nd (di_A rfl (de_n (pv 1))) (blkOk_by (by rfl)) (fun _ _ _ _ _ => pg_name nd rfl (Or.inl rfl)) (tg_name) (by decide) (fun _ _ _ _ _ => dts_nil) (fun _ _ _ _ _ => de_int))) ?_
    refine dss_cons (f := b_law_by_order_1) (ds_for own rfl (di_range1 rfl T.n_range (do_e (de_callB call_lenA pr_lenA rfl T.n_len bb_len (da_cons (do_n (pv 1)) (da_nil))))) (pg_name nd rfl (Or.inl rfl)) (tg_name) (dss_one (ds_setIx (pv 2) (de_n (pv 4)) (de_ix ix_seq pr_ix (do_n (pv 1)) (do_n (pv 4)) (fun _ _ => rfl))))) ?_
    exact dss_one (f := b_law_by_order_2) (ds_ret (de_callTy call_tupleF pr_tuple rfl T.n_tuple bb_tuple (da_cons (do_e (de_lc [("x", 3)] rfl nd (di_A rfl (de_n (pv 1))) (blkOk_by (by rfl)) (fun _ _ _ _ _ => pg_name nd rfl (Or.inr rfl)) (tg_name) (by decide) (fun _ _ _ _ _ => dts_nil) (fun _ _ _ _ _ => de_callTy call_tupleF pr_tuple rfl T.n_tuple bb_tuple (da_cons (do_e (de_lc [("y", 5)] rfl nd (di_A rfl (de_n (pv 1))) (blkOk_by (by rfl)) (fun _ _ _ _ _ => pg_name nd rfl (Or.inl rfl)) (tg_name) (by decide) (fun _ _ _ _ _ => dts_nil) (fun _ _ _ _ _ => de_ix ix_seq pr_ix (do_n (pv 2)) (do_e (de_ix ix_seq pr_ix (do_e (de_ix ix_seq pr_ix (do_n (pv 0)) (do_n (pv 3)) (fun _ _ => rfl))) (do_n (pv 5)) (fun _ _ => rfl))) (fun _ _ => rfl)))) (da_nil))))) (da_nil))))
abbrev s_law_form : Stmt := topOf prog 36
theorem sc_law_form : FnScope ["table", "best", "maps", "order", "found", "x"] ["table"] (defScope s_law_form) := ⟨rfl, rfl, rfl, by decide +kernel, rfl, by decide +kernel, by decide +kernel⟩
theorem ok_law_form (h_law_enumerations : Has P w K mg base (gx K) "_law_enumerations" ["table"] 2 (f_law_enumerations)) (h_law_by_order : Has P w K mg base (gx K) "_law_by_order" ["table", "order"] 1 (f_law_by_order)) {f : Addr} {fd : FuncData} (T : Txt mg) (Fn : Fun K "_law_form" "_law_form" s_law_form f fd) (hm : mg "_law_form" = some (.ref f)) (hb : Binds K fd ["table"] []) : Has P w K mg base (gx K) "_law_form" ["table"] 3 f_law_form :=
  has_mk (k := 2) (N := ["table", "best", "maps", "order", "found", "x"]) (body := b_law_form) Fn hm hb sc_law_form fun cdv A outer s H E hr => by
    have nd := sc_law_form.nd; have hu := hr.units; have hu5 : _ + 65 < cLine := (by have := hr.un; omega : (A.deeper (envOfC "_law_form" (defScope s_law_form) s.heap.objs.size f cdv)).units + 65 < cLine)
    have hu1 : (A.deeper (envOfC "_law_form" (defScope s_law_form) s.heap.objs.size f cdv)).units + 1 < cLine := by omega
    have tk := takes_of (X := cxOf (L2.CX P w) P w K mg base ["table", "best", "maps", "order", "found", "x"] "_law_form" (defScope s_law_form) f cdv A outer s H E) rfl rfl rfl rfl
    have own := passes_of (X := cxOf (L2.CX P w) P w K mg base ["table", "best", "maps", "order", "found", "x"] "_law_form" (defScope s_law_form) f cdv A outer s H E) rfl
    refine dss_cons (f := b_law_form_0) (ds_par rfl nd rfl rfl (by decide) rfl rfl (de_non) (de_lst (da_nil)) rfl) ?_
    refine dss_cons (f := b_law_form_1) (ds_for own rfl (di_A rfl (de_callH [.v] h_law_enumerations tk hr (da_cons (do_e (de_n (pv 0))) (da_nil)) (len_cons len_nil))) (pg_name nd rfl (Or.inr rfl)) (tg_name) (dss_cons (ds_set nd rfl (Or.inl rfl) (de_callH [.v, .v] h_law_by_order tk hr (da_cons (do_e (de_n (pv 0))) (da_cons (do_e (de_n (pv 3))) (da_nil))) (len_cons (len_cons len_nil)))) (dss_cons (ds_if (dt_w (dw_or (dt_cmp op_isA pr_is (do_n (pv 1)) (do_e (de_non)) (nomark _)) (dw_or1 (dt_cmp (op_ltA hu) pr_lt (do_n (pv 4)) (do_n (pv 1)) (nomark _))))) (dss_one (ds_par rfl nd rfl rfl (by decide) rfl rfl (de_n (pv 4)) (de_lst (da_nil)) rfl)) (dss_nil)) (dss_one (ds_if (dt_cmp (op_eqD hu) pr_eq (do_n (pv 4)) (do_n (pv 1)) (nomark _)) (dss_one (ds_expr (de_app (pv 2) (de_callTy call_tupleF pr_tuple rfl T.n_tuple bb_tuple (da_cons (do_e (de_lc [("x", 5)] rfl nd (di_range1 rfl T.n_range (do_e (de_callB call_lenA pr_lenA rfl T.n_len bb_len (da_cons (do_n (pv 3)) (da_nil))))) (blkOk_by (by rfl)) (fun _ _ _ _ _ => pg_name nd rfl (Or.inl rfl)) (tg_name) (by decide) (fun _ _ _ _ _ => dts_nil) (fun _ _ _ _ _ => de_ob (de_meth PySem.F.plainAttrs_list PySem.F.slot_list_index PySem.F.type_list_index tym_lst (mt_indexD hu5) pr_indexL (do_n (pv 3)) (da_cons (do_n (pv 5)) (da_nil))) (de_meth PySem.F.plainAttrs_tuple PySem.F.slot_tuple_index PySem.F.type_tuple_index tym_tup (mt_indexT hu5) pr_indexT (do_n (pv 3)) (da_cons (do_n (pv 5)) (da_nil)))))) (da_nil)))))) (dss_nil)))))) ?_
    exact dss_one (f := b_law_form_2) (ds_ret (de_tup (da_cons (do_e (de_n (pv 1))) (da_cons (do_e (de_callTy call_tupleF pr_tuple rfl T.n_tuple bb_tuple (da_cons (do_e (de_callB (call_sortD hu) pr_sort rfl T.n_sorted bb_sorted (da_cons (do_n (pv 2)) (da_nil)))) (da_nil)))) (da_nil)))))
abbrev s_law_isomorphisms : Stmt := topOf prog 37
theorem sc_law_isomorphisms : FnScope ["one", "two", "n", "first", "table", "found", "order", "images", "k", "x"] ["one", "two"] (defScope s_law_isomorphisms) := ⟨rfl, rfl, rfl, by decide +kernel, rfl, by decide +kernel, by decide +kernel⟩
theorem ok_law_isomorphisms (h_law_enumerations : Has P w K mg base (gx K) "_law_enumerations" ["table"] 2 (f_law_enumerations)) (h_law_by_order : Has P w K mg base (gx K) "_law_by_order" ["table", "order"] 1 (f_law_by_order)) {f : Addr} {fd : FuncData} (T : Txt mg) (Fn : Fun K "_law_isomorphisms" "_law_isomorphisms" s_law_isomorphisms f fd) (hm : mg "_law_isomorphisms" = some (.ref f)) (hb : Binds K fd ["one", "two"] []) : Has P w K mg base (gx K) "_law_isomorphisms" ["one", "two"] 3 f_law_isomorphisms :=
  has_mk (k := 2) (N := ["one", "two", "n", "first", "table", "found", "order", "images", "k", "x"]) (body := b_law_isomorphisms) Fn hm hb sc_law_isomorphisms fun cdv A outer s H E hr => by
    have nd := sc_law_isomorphisms.nd; have hu := hr.units; have hu5 : _ + 65 < cLine := (by have := hr.un; omega : (A.deeper (envOfC "_law_isomorphisms" (defScope s_law_isomorphisms) s.heap.objs.size f cdv)).units + 65 < cLine)
    have hu1 : (A.deeper (envOfC "_law_isomorphisms" (defScope s_law_isomorphisms) s.heap.objs.size f cdv)).units + 1 < cLine := by omega
    have tk := takes_of (X := cxOf (L2.CX P w) P w K mg base ["one", "two", "n", "first", "table", "found", "order", "images", "k", "x"] "_law_isomorphisms" (defScope s_law_isomorphisms) f cdv A outer s H E) rfl rfl rfl rfl
    have own := passes_of (X := cxOf (L2.CX P w) P w K mg base ["one", "two", "n", "first", "table", "found", "order", "images", "k", "x"] "_law_isomorphisms" (defScope s_law_isomorphisms) f cdv A outer s H E) rfl
    refine dss_cons (f := b_law_isomorphisms_0) (ds_set nd rfl (Or.inl rfl) (de_callB call_lenA pr_lenA rfl T.n_len bb_len (da_cons (do_n (pv 0)) (da_nil)))) ?_
    refine dss_cons (f := b_law_isomorphisms_1) (ds_if (dt_cmp (op_neD hu) pr_ne (do_e (de_callB call_lenA pr_lenA rfl T.n_len bb_len (da_cons (do_n (pv 1)) (da_nil)))) (do_n (pv 2)) (nomark _)) (dss_one (ds_ret (de_tup (da_nil)))) (dss_nil)) ?_
    refine dss_cons (f := b_law_isomorphisms_2) (ds_set nd rfl (Or.inl rfl) (de_ix ix_seq pr_ix (do_e (de_callH [.v] h_law_enumerations tk hr (da_cons (do_e (de_n (pv 0))) (da_nil)) (len_cons len_nil))) (do_e (de_int)) (fun _ _ => rfl))) ?_
    refine dss_cons (f := b_law_isomorphisms_3) (ds_par rfl nd rfl rfl (by decide) rfl rfl (de_callH [.v, .v] h_law_by_order tk hr (da_cons (do_e (de_n (pv 0))) (da_cons (do_e (de_n (pv 3))) (da_nil))) (len_cons (len_cons len_nil))) (de_lst (da_nil)) rfl) ?_
    refine dss_cons (f := b_law_isomorphisms_4) (ds_for own rfl (di_A rfl (de_callH [.v] h_law_enumerations tk hr (da_cons (do_e (de_n (pv 1))) (da_nil)) (len_cons len_nil))) (pg_name nd rfl (Or.inl rfl)) (tg_name) (dss_one (ds_if (dt_cmp (op_eqD hu) pr_eq (do_e (de_callH [.v, .v] h_law_by_order tk hr (da_cons (do_e (de_n (pv 1))) (da_cons (do_e (de_n (pv 6))) (da_nil))) (len_cons (len_cons len_nil)))) (do_n (pv 4)) (nomark _)) (dss_cons (ds_setLc [("x", 9)] rfl nd rfl rfl rfl (di_range1 rfl T.n_range (do_n (pv 2))) (blkOk_by (by rfl)) (fun _ _ _ _ _ => pg_name nd rfl (Or.inl rfl)) (tg_name) (by decide) (fun _ _ _ _ _ => dts_nil) (fun _ _ _ _ _ => de_int)) (dss_cons (ds_for own rfl (di_range1 rfl T.n_range (do_n (pv 2))) (pg_name nd rfl (Or.inl rfl)) (tg_name) (dss_one (ds_setIx (pv 7) (de_ix ix_seq pr_ix (do_n (pv 6)) (do_n (pv 8)) (fun _ _ => rfl)) (de_ix ix_seq pr_ix (do_n (pv 3)) (do_n (pv 8)) (fun _ _ => rfl))))) (dss_one (ds_expr (de_app (pv 5) (de_callTy call_tupleF pr_tuple rfl T.n_tuple bb_tuple (da_cons (do_n (pv 7)) (da_nil)))))))) (dss_nil)))) ?_
    exact dss_one (f := b_law_isomorphisms_5) (ds_ret (de_callTy call_tupleF pr_tuple rfl T.n_tuple bb_tuple (da_cons (do_e (de_callB (call_sortD hu) pr_sort rfl T.n_sorted bb_sorted (da_cons (do_n (pv 5)) (da_nil)))) (da_nil))))
abbrev s_law_tables_hold : Stmt := topOf prog 38
theorem sc_law_tables_hold : FnScope ["state", "table", "n", "rows", "row", "x", "y", "z", "monoid"] ["state", "table"] (defScope s_law_tables_hold) := ⟨rfl, rfl, rfl, by decide +kernel, rfl, by decide +kernel, by decide +kernel⟩
theorem ok_law_tables_hold (h_is_group_table : Has P w K mg base (gx K) "is_group_table" ["value"] 4 (f_is_group_table)) (h_law_take : Has P w K mg base (gx K) "_law_take" ["state", "m"] 1 (f_law_take)) {f : Addr} {fd : FuncData} (T : Txt mg) (Fn : Fun K "_law_tables_hold" "_law_tables_hold" s_law_tables_hold f fd) (hm : mg "_law_tables_hold" = some (.ref f)) (hb : Binds K fd ["state", "table"] []) : Has P w K mg base (gx K) "_law_tables_hold" ["state", "table"] 5 f_law_tables_hold :=
  has_mk (k := 4) (N := ["state", "table", "n", "rows", "row", "x", "y", "z", "monoid"]) (body := b_law_tables_hold) Fn hm hb sc_law_tables_hold fun cdv A outer s H E hr => by
    have nd := sc_law_tables_hold.nd; have hu := hr.units; have hu5 : _ + 65 < cLine := (by have := hr.un; omega : (A.deeper (envOfC "_law_tables_hold" (defScope s_law_tables_hold) s.heap.objs.size f cdv)).units + 65 < cLine)
    have hu1 : (A.deeper (envOfC "_law_tables_hold" (defScope s_law_tables_hold) s.heap.objs.size f cdv)).units + 1 < cLine := by omega
    have tk := takes_of (X := cxOf (L2.CX P w) P w K mg base ["state", "table", "n", "rows", "row", "x", "y", "z", "monoid"] "_law_tables_hold" (defScope s_law_tables_hold) f cdv A outer s H E) rfl rfl rfl rfl
    have own := passes_of (X := cxOf (L2.CX P w) P w K mg base ["state", "table", "n", "rows", "row", "x", "y", "z", "monoid"] "_law_tables_hold" (defScope s_law_tables_hold) f cdv A outer s H E) rfl
    refine dss_cons (f := b_law_tables_hold_0) (ds_set nd rfl (Or.inr rfl) (de_callB call_lenA pr_lenA rfl T.n_len bb_len (da_cons (do_n (pv 1)) (da_nil)))) ?_
    refine dss_cons (f := b_law_tables_hold_1) (ds_setLcR [("row", 4)] rfl nd rfl rfl rfl (di_A rfl (de_n (pv 1))) (blkOk_by (by rfl)) (fun _ _ _ _ _ => pg_name nd rfl (Or.inl rfl)) (tg_name) (by decide) (fun _ _ _ _ _ => dts_nil) (fun _ _ _ _ _ => de_callTy call_list_of pr_list rfl T.n_list bb_list (da_cons (do_n (pv 4)) (da_nil)))) ?_
    refine dss_cons (f := b_law_tables_hold_2) (ds_if (dt_w (dw_or (dt_cmp op_nisA pr_nis (do_e (de_callH [.br] h_is_group_table tk hr (da_cons (do_n (pv 3)) (da_nil)) (len_cons len_nil))) (do_e (de_bl)) (nomark _)) (dw_or1 (dt_cmp op_nisA pr_nis (do_e (de_callH [.v] h_is_group_table tk hr (da_cons (do_e (de_callTy call_tupleF pr_tuple rfl T.n_tuple bb_tuple (da_cons (do_n (pv 1)) (da_nil)))) (da_nil)) (len_cons len_nil))) (do_e (de_bl)) (nomark _))))) (dss_one (ds_ret (de_bl))) (dss_nil)) ?_
    refine dss_cons (f := b_law_tables_hold_3) (ds_if (dt_cmp op_nisA pr_nis (do_e (de_callH [.v] h_is_group_table tk hr (da_cons (do_e (de_lc [("x", 5)] rfl nd (di_range1 rfl T.n_range (do_n (pv 2))) (blkOk_by (by rfl)) (fun _ _ _ _ _ => pg_name nd rfl (Or.inr rfl)) (tg_name) (by decide) (fun _ _ _ _ _ => dts_nil) (fun _ _ _ _ _ => de_callTy call_tupleF pr_tuple rfl T.n_tuple bb_tuple (da_cons (do_e (de_lc [("y", 6)] rfl nd (di_range1 rfl T.n_range (do_n (pv 2))) (blkOk_by (by rfl)) (fun _ _ _ _ _ => pg_name nd rfl (Or.inl rfl)) (tg_name) (by decide) (fun _ _ _ _ _ => dts_nil) (fun _ _ _ _ _ => de_ix ix_seq pr_ix (do_e (de_ix ix_seq pr_ix (do_n (pv 1)) (do_n (pv 6)) (fun _ _ => rfl))) (do_n (pv 5)) (fun _ _ => rfl)))) (da_nil))))) (da_nil)) (len_cons len_nil))) (do_e (de_bl)) (nomark _)) (dss_one (ds_ret (de_bl))) (dss_nil)) ?_
    refine dss_cons (f := b_law_tables_hold_4) (ds_par rfl nd rfl rfl (by decide) rfl rfl (de_bin op_addA pr_add (do_e (de_int)) (do_e (de_callH [.io, .v] h_law_take tk hr (da_cons (do_n (pv 0)) (da_cons (do_e (de_bin op_sub pr_sub (do_n (pv 2)) (do_e (de_int)))) (da_nil))) (len_cons (len_cons len_nil))))) (de_bin op_addA pr_add (do_e (de_int)) (do_e (de_callH [.io, .v] h_law_take tk hr (da_cons (do_n (pv 0)) (da_cons (do_e (de_bin op_sub pr_sub (do_n (pv 2)) (do_e (de_int)))) (da_nil))) (len_cons (len_cons len_nil))))) rfl) ?_
    refine dss_cons (f := b_law_tables_hold_5) (ds_setIx2 rfl (pv 3) (de_bin op_mod pr_mod (do_e (de_callTy call_int1 pr_int rfl T.n_int bb_int (da_cons (do_e (de_bin op_addA pr_add (do_e (de_bin op_addA pr_add (do_e (de_ix2 rfl (pv 3) (de_n (pv 5)) (de_n (pv 6)) (fun _ _ => rfl) (fun _ _ => rfl))) (do_e (de_int)))) (do_e (de_callH [.io, .v] h_law_take tk hr (da_cons (do_n (pv 0)) (da_cons (do_e (de_bin op_sub pr_sub (do_n (pv 2)) (do_e (de_int)))) (da_nil))) (len_cons (len_cons len_nil)))))) (da_nil)))) (do_n (pv 2))) (de_n (pv 5)) (de_n (pv 6)) (fun _ _ => rfl)) ?_
    refine dss_cons (f := b_law_tables_hold_6) (ds_if (dt_cmp op_nisA pr_nis (do_e (de_callH [.br] h_is_group_table tk hr (da_cons (do_n (pv 3)) (da_nil)) (len_cons len_nil))) (do_e (de_bl)) (nomark _)) (dss_one (ds_ret (de_bl))) (dss_nil)) ?_
    refine dss_cons (f := b_law_tables_hold_7) (ds_setLcR [("row", 4)] rfl nd rfl rfl rfl (di_A rfl (de_n (pv 1))) (blkOk_by (by rfl)) (fun _ _ _ _ _ => pg_name nd rfl (Or.inl rfl)) (tg_name) (by decide) (fun _ _ _ _ _ => dts_nil) (fun _ _ _ _ _ => de_callTy call_list_of pr_list rfl T.n_list bb_list (da_cons (do_n (pv 4)) (da_nil)))) ?_
    refine dss_cons (f := b_law_tables_hold_8) (ds_set nd rfl (Or.inl rfl) (de_bin op_addA pr_add (do_e (de_bin op_mod pr_mod (do_e (de_callTy call_int1 pr_int rfl T.n_int bb_int (da_cons (do_e (de_bin op_addA pr_add (do_n (pv 6)) (do_e (de_callH [.io, .v] h_law_take tk hr (da_cons (do_n (pv 0)) (da_cons (do_e (de_bin op_sub pr_sub (do_n (pv 2)) (do_e (de_int)))) (da_nil))) (len_cons (len_cons len_nil)))))) (da_nil)))) (do_e (de_bin op_sub pr_sub (do_n (pv 2)) (do_e (de_int)))))) (do_e (de_int)))) ?_
    refine dss_cons (f := b_law_tables_hold_9) (ds_if (dt_cmp (op_neD hu) pr_ne (do_n (pv 7)) (do_n (pv 6)) (nomark _)) (dss_cons (ds_asg (de_tup (da_cons (do_e (de_ix2 rfl (pv 3) (de_n (pv 5)) (de_n (pv 7)) (fun _ _ => rfl) (fun _ _ => rfl))) (da_cons (do_e (de_ix2 rfl (pv 3) (de_n (pv 5)) (de_n (pv 6)) (fun _ _ => rfl) (fun _ _ => rfl))) (da_nil)))) (pg_tup rfl (pgs_cons (pg_sub (pe_ix ix_seq (pv 3) (pv 5) (fun _ _ => rfl)) (pv 6) set_list (by intro _; rfl)) (pgs_cons (pg_sub (pe_ix ix_seq (pv 3) (pv 5) (fun _ _ => rfl)) (pv 7) set_list (by intro _; rfl)) (pgs_nil)))) (tg_tup (tgs_cons (tg_ix2 rfl) (tgs_cons (tg_ix2 rfl) (tgs_nil))))) (dss_one (ds_if (dt_cmp op_nisA pr_nis (do_e (de_callH [.v] h_is_group_table tk hr (da_cons (do_e (de_n (pv 3))) (da_nil)) (len_cons len_nil))) (do_e (de_bl)) (nomark _)) (dss_one (ds_ret (de_bl))) (dss_nil)))) (dss_nil)) ?_
    refine dss_cons (f := b_law_tables_hold_10) (ds_setLc [("x", 5)] rfl nd rfl rfl rfl (di_range1 rfl T.n_range (do_n (pv 2))) (blkOk_by (by rfl)) (fun _ _ _ _ _ => pg_name nd rfl (Or.inr rfl)) (tg_name) (by decide) (fun _ _ _ _ _ => dts_nil) (fun _ _ _ _ _ => de_lc [("y", 6)] rfl nd (di_range1 rfl T.n_range (do_n (pv 2))) (blkOk_by (by rfl)) (fun _ _ _ _ _ => pg_name nd rfl (Or.inl rfl)) (tg_name) (by decide) (fun _ _ _ _ _ => dts_nil) (fun _ _ _ _ _ => de_callB (call_max2 rfl) pr_max2 rfl T.n_max bb_max (da_cons (do_n (pv 5)) (da_cons (do_n (pv 6)) (da_nil)))))) ?_
    exact dss_one (f := b_law_tables_hold_11) (ds_ret (de_and (de_cmp op_isA pr_is (do_e (de_callH [.v] h_is_group_table tk hr (da_cons (do_e (de_n (pv 8))) (da_nil)) (len_cons len_nil))) (do_e (de_bl)) (nomark _)) (de_one (de_cmp op_isA pr_is (do_e (de_callH [.v] h_is_group_table tk hr (da_cons (do_e (de_sl sl_A pr_sl (do_n (pv 1)) (dp_no) (dp_e (de_unop un_neg pr_neg (do_e (de_int)))))) (da_nil)) (len_cons len_nil))) (do_e (de_bl)) (nomark _)))))
abbrev s_law : Stmt := topOf prog 39
theorem sc_law : FnScope ["script", "state", "great", "one", "two", "form", "maps", "row", "due"] ["script"] (defScope s_law) := ⟨rfl, rfl, rfl, by decide +kernel, rfl, by decide +kernel, by decide +kernel⟩
theorem ok_law (h_group_form : Has P w K mg base (gx K) "group_form" ["table"] 3 (f_group_form)) (h_form_maps : Has P w K mg base (gx K) "form_maps" ["table"] 4 (f_form_maps)) (h_group_isomorphisms : Has P w K mg base (gx K) "group_isomorphisms" ["one", "two"] 5 (f_group_isomorphisms)) (h_law_state : Has P w K mg base (gx K) "_law_state" ["script"] 1 (f_law_state)) (h_law_honest : Has P w K mg base (gx K) "_law_honest" ["value"] 14 (f_law_honest)) (h_law_take : Has P w K mg base (gx K) "_law_take" ["state", "m"] 1 (f_law_take)) (h_law_some : Has P w K mg base (gx K) "_law_some" ["state", "great"] 3 (f_law_some)) (h_law_shuffled : Has P w K mg base (gx K) "_law_shuffled" ["state", "table"] 4 (f_law_shuffled)) (h_law_form : Has P w K mg base (gx K) "_law_form" ["table"] 3 (f_law_form)) (h_law_isomorphisms : Has P w K mg base (gx K) "_law_isomorphisms" ["one", "two"] 3 (f_law_isomorphisms)) (h_law_tables_hold : Has P w K mg base (gx K) "_law_tables_hold" ["state", "table"] 5 (f_law_tables_hold)) {f : Addr} {fd : FuncData} (T : Txt mg) (Fn : Fun K "law" "law" s_law f fd) : FnOk P w K mg base (L2.CX P w) 15 f fd ["script"] (spF (gx K) 1 f_law) :=
  def_ok (k := 14) (N := ["script", "state", "great", "one", "two", "form", "maps", "row", "due"]) (body := b_law) Fn sc_law fun cdv A outer s H E hr => by
    have nd := sc_law.nd; have hu := hr.units; have hu5 : _ + 65 < cLine := (by have := hr.un; omega : (A.deeper (envOfC "law" (defScope s_law) s.heap.objs.size f cdv)).units + 65 < cLine)
    have hu1 : (A.deeper (envOfC "law" (defScope s_law) s.heap.objs.size f cdv)).units + 1 < cLine := by omega
    have tk := takes_of (X := cxOf (L2.CX P w) P w K mg base ["script", "state", "great", "one", "two", "form", "maps", "row", "due"] "law" (defScope s_law) f cdv A outer s H E) rfl rfl rfl rfl
    have own := passes_of (X := cxOf (L2.CX P w) P w K mg base ["script", "state", "great", "one", "two", "form", "maps", "row", "due"] "law" (defScope s_law) f cdv A outer s H E) rfl
    refine dss_cons (f := b_law_0) (ds_set nd rfl (Or.inl rfl) (de_callH [.v] h_law_state tk hr (da_cons (do_e (de_n (pv 0))) (da_nil)) (len_cons len_nil))) ?_
    refine dss_cons (f := b_law_1) (ds_set nd rfl (Or.inl rfl) (de_cmp (op_eqD hu) pr_eq (do_e (de_callH [.io, .v] h_law_take tk hr (da_cons (do_n (pv 1)) (da_cons (do_e (de_int)) (da_nil))) (len_cons (len_cons len_nil)))) (do_e (de_int)) (nomark _))) ?_
    refine dss_cons (f := b_law_2) (ds_set nd rfl (Or.inl rfl) (de_callH [.io, .v] h_law_shuffled tk hr (da_cons (do_n (pv 1)) (da_cons (do_e (de_callH [.io, .v] h_law_some tk hr (da_cons (do_n (pv 1)) (da_cons (do_e (de_n (pv 2))) (da_nil))) (len_cons (len_cons len_nil)))) (da_nil))) (len_cons (len_cons len_nil)))) ?_
    refine dss_cons (f := b_law_3) (ds_set nd rfl (Or.inl rfl) (de_callH [.io, .v] h_law_shuffled tk hr (da_cons (do_n (pv 1)) (da_cons (do_e (de_if (dt_cmp (op_eqD hu) pr_eq (do_e (de_callH [.io, .v] h_law_take tk hr (da_cons (do_n (pv 1)) (da_cons (do_e (de_int)) (da_nil))) (len_cons (len_cons len_nil)))) (do_e (de_int)) (nomark _)) (de_callH [.io, .v] h_law_some tk hr (da_cons (do_n (pv 1)) (da_cons (do_e (de_bl)) (da_nil))) (len_cons (len_cons len_nil))) (de_n (pv 3)))) (da_nil))) (len_cons (len_cons len_nil)))) ?_
    refine dss_cons (f := b_law_4) (ds_if (dt_not (dt_val (de_callH [.io, .v] h_law_tables_hold tk hr (da_cons (do_n (pv 1)) (da_cons (do_e (de_n (pv 3))) (da_nil))) (len_cons (len_cons len_nil))))) (dss_one (ds_ret (de_bl))) (dss_nil)) ?_
    refine dss_cons (f := b_law_5) (ds_asg (de_callH [.v] h_law_form tk hr (da_cons (do_e (de_n (pv 3))) (da_nil)) (len_cons len_nil)) (pg_tup rfl (pgs_cons (pg_name nd rfl (Or.inl rfl)) (pgs_cons (pg_name nd rfl (Or.inl rfl)) (pgs_nil)))) (tg_tup (tgs_cons (tg_name) (tgs_cons (tg_name) (tgs_nil))))) ?_
    refine dss_cons (f := b_law_6) (ds_if (dt_cmp (op_neD hu) pr_ne (do_e (de_callH [.v] h_law_honest tk hr (da_cons (do_e (de_callH [.v] h_group_form tk hr (da_cons (do_e (de_n (pv 3))) (da_nil)) (len_cons len_nil))) (da_nil)) (len_cons len_nil))) (do_n (pv 5)) (nomark _)) (dss_one (ds_ret (de_bl))) (dss_nil)) ?_
    refine dss_cons (f := b_law_7) (ds_if (dt_cmp op_gt pr_I (do_e (de_callB call_lenA pr_lenA rfl T.n_len bb_len (da_cons (do_n (pv 3)) (da_nil)))) (do_e (de_int)) (nomark _)) (dss_one (ds_ret (de_bl))) (dss_nil)) ?_
    refine dss_cons (f := b_law_8) (ds_if (dt_w (dw_or (dt_cmp (op_neD hu) pr_ne (do_e (de_callH [.v] h_law_honest tk hr (da_cons (do_e (de_callH [.v] h_form_maps tk hr (da_cons (do_e (de_n (pv 3))) (da_nil)) (len_cons len_nil))) (da_nil)) (len_cons len_nil))) (do_n (pv 6)) (nomark _)) (dw_or1 (dt_cmp (op_neD hu) pr_ne (do_e (de_callH [.v] h_law_honest tk hr (da_cons (do_e (de_callH [.v] h_group_form tk hr (da_cons (do_e (de_lc [("row", 7)] rfl nd (di_A rfl (de_n (pv 4))) (blkOk_by (by rfl)) (fun _ _ _ _ _ => pg_name nd rfl (Or.inl rfl)) (tg_name) (by decide) (fun _ _ _ _ _ => dts_nil) (fun _ _ _ _ _ => de_callTy call_list_of pr_list rfl T.n_list bb_list (da_cons (do_n (pv 7)) (da_nil))))) (da_nil)) (len_cons len_nil))) (da_nil)) (len_cons len_nil))) (do_e (de_ix ix_seq pr_ix (do_e (de_callH [.v] h_law_form tk hr (da_cons (do_e (de_n (pv 4))) (da_nil)) (len_cons len_nil))) (do_e (de_int)) (fun _ _ => rfl))) (nomark _))))) (dss_one (ds_ret (de_bl))) (dss_nil)) ?_
    refine dss_cons (f := b_law_9) (ds_set nd rfl (Or.inl rfl) (de_callH [.v, .v] h_law_isomorphisms tk hr (da_cons (do_e (de_n (pv 3))) (da_cons (do_e (de_n (pv 4))) (da_nil))) (len_cons (len_cons len_nil)))) ?_
    exact dss_one (f := b_law_10) (ds_ret (de_and (de_cmp (op_eqD hu) pr_eq (do_e (de_callH [.v] h_law_honest tk hr (da_cons (do_e (de_callH [.v, .v] h_group_isomorphisms tk hr (da_cons (do_e (de_n (pv 3))) (da_cons (do_e (de_n (pv 4))) (da_nil))) (len_cons (len_cons len_nil)))) (da_nil)) (len_cons len_nil))) (do_n (pv 8)) (nomark _)) (de_one (de_cmp (op_eqD hu) pr_eq (do_e (de_cmp (op_eqD hu) pr_eq (do_e (de_ix ix_seq pr_ix (do_e (de_callH [.v] h_law_form tk hr (da_cons (do_e (de_n (pv 4))) (da_nil)) (len_cons len_nil))) (do_e (de_int)) (fun _ _ => rfl))) (do_n (pv 5)) (nomark _))) (do_e (de_cmp op_gt pr_I (do_e (de_callB call_lenA pr_lenA rfl T.n_len bb_len (da_cons (do_n (pv 8)) (da_nil)))) (do_e (de_int)) (nomark _))) (nomark _)))))
end
end K74

end
section
set_option Elab.async false
set_option linter.all false
set_option maxRecDepth 100000
namespace K74
open PySem L2 VI PySem.Spec PyProof.Rows
set_option maxHeartbeats 0 in
theorem all_mk {l : PySem.W.OpenLaw} {w : World} {K : PySem.W.Frag} {h : Heap} {mg : Str → Option Value} {fa : Addr} (X : K.In h) (G : h.Ns mainGlobals mg) (hfa : mg "law" = some (.ref fa))
    {f0 : Addr} {od0 an0 : Option Addr} {sl0 : Array (Option Value)} {oc0 kV0 dc0 pm0 cd0 ct0 : Value} (a0 : PySem.W.nsIn K mainGlobals "is_integer" = some (some (.ref f0))) (l0 : K.lookup f0 = some ⟨oc0, od0, .func (PySem.W.fnOf "is_integer" "is_integer" (defArgs s_is_integer) (defBody s_is_integer) (defScope s_is_integer) .none kV0 dc0 pm0 an0 cd0 ct0), sl0⟩) (c0 : PySem.W.codeIn K cd0 "is_integer" = true) (k0 : PySem.W.keepIn K (.ref f0) = true)
    {f1 : Addr} {od1 an1 : Option Addr} {sl1 : Array (Option Value)} {oc1 kV1 dc1 pm1 cd1 ct1 : Value} (a1 : PySem.W.nsIn K mainGlobals "is_item" = some (some (.ref f1))) (l1 : K.lookup f1 = some ⟨oc1, od1, .func (PySem.W.fnOf "is_item" "is_item" (defArgs s_is_item) (defBody s_is_item) (defScope s_is_item) .none kV1 dc1 pm1 an1 cd1 ct1), sl1⟩) (c1 : PySem.W.codeIn K cd1 "is_item" = true) (k1 : PySem.W.keepIn K (.ref f1) = true)
    {f2 : Addr} {od2 an2 : Option Addr} {sl2 : Array (Option Value)} {oc2 kV2 dc2 pm2 cd2 ct2 : Value} (a2 : PySem.W.nsIn K mainGlobals "is_associative" = some (some (.ref f2))) (l2 : K.lookup f2 = some ⟨oc2, od2, .func (PySem.W.fnOf "is_associative" "is_associative" (defArgs s_is_associative) (defBody s_is_associative) (defScope s_is_associative) .none kV2 dc2 pm2 an2 cd2 ct2), sl2⟩) (c2 : PySem.W.codeIn K cd2 "is_associative" = true) (k2 : PySem.W.keepIn K (.ref f2) = true)
    {f3 : Addr} {od3 an3 : Option Addr} {sl3 : Array (Option Value)} {oc3 kV3 dc3 pm3 cd3 ct3 : Value} (a3 : PySem.W.nsIn K mainGlobals "is_square" = some (some (.ref f3))) (l3 : K.lookup f3 = some ⟨oc3, od3, .func (PySem.W.fnOf "is_square" "is_square" (defArgs s_is_square) (defBody s_is_square) (defScope s_is_square) .none kV3 dc3 pm3 an3 cd3 ct3), sl3⟩) (c3 : PySem.W.codeIn K cd3 "is_square" = true) (k3 : PySem.W.keepIn K (.ref f3) = true)
    {f4 : Addr} {od4 an4 : Option Addr} {sl4 : Array (Option Value)} {oc4 kV4 dc4 pm4 cd4 ct4 : Value} (a4 : PySem.W.nsIn K mainGlobals "is_group_table" = some (some (.ref f4))) (l4 : K.lookup f4 = some ⟨oc4, od4, .func (PySem.W.fnOf "is_group_table" "is_group_table" (defArgs s_is_group_table) (defBody s_is_group_table) (defScope s_is_group_table) .none kV4 dc4 pm4 an4 cd4 ct4), sl4⟩) (c4 : PySem.W.codeIn K cd4 "is_group_table" = true) (k4 : PySem.W.keepIn K (.ref f4) = true)
    {f5 : Addr} {od5 an5 : Option Addr} {sl5 : Array (Option Value)} {oc5 kV5 dc5 pm5 cd5 ct5 : Value} (a5 : PySem.W.nsIn K mainGlobals "enumerated" = some (some (.ref f5))) (l5 : K.lookup f5 = some ⟨oc5, od5, .func (PySem.W.fnOf "enumerated" "enumerated" (defArgs s_enumerated) (defBody s_enumerated) (defScope s_enumerated) .none kV5 dc5 pm5 an5 cd5 ct5), sl5⟩) (c5 : PySem.W.codeIn K cd5 "enumerated" = true) (k5 : PySem.W.keepIn K (.ref f5) = true)
    {f6 : Addr} {od6 an6 : Option Addr} {sl6 : Array (Option Value)} {oc6 kV6 dc6 pm6 cd6 ct6 : Value} (a6 : PySem.W.nsIn K mainGlobals "tuples_of" = some (some (.ref f6))) (l6 : K.lookup f6 = some ⟨oc6, od6, .func (PySem.W.fnOf "tuples_of" "tuples_of" (defArgs s_tuples_of) (defBody s_tuples_of) (defScope s_tuples_of) .none kV6 dc6 pm6 an6 cd6 ct6), sl6⟩) (c6 : PySem.W.codeIn K cd6 "tuples_of" = true) (k6 : PySem.W.keepIn K (.ref f6) = true)
    {f7 : Addr} {od7 an7 : Option Addr} {sl7 : Array (Option Value)} {oc7 kV7 dc7 pm7 cd7 ct7 : Value} (a7 : PySem.W.nsIn K mainGlobals "orders_of" = some (some (.ref f7))) (l7 : K.lookup f7 = some ⟨oc7, od7, .func (PySem.W.fnOf "orders_of" "orders_of" (defArgs s_orders_of) (defBody s_orders_of) (defScope s_orders_of) .none kV7 dc7 pm7 an7 cd7 ct7), sl7⟩) (c7 : PySem.W.codeIn K cd7 "orders_of" = true) (k7 : PySem.W.keepIn K (.ref f7) = true)
    {f8 : Addr} {od8 an8 : Option Addr} {sl8 : Array (Option Value)} {oc8 kV8 dc8 pm8 cd8 ct8 : Value} (a8 : PySem.W.nsIn K mainGlobals "renamed" = some (some (.ref f8))) (l8 : K.lookup f8 = some ⟨oc8, od8, .func (PySem.W.fnOf "renamed" "renamed" (defArgs s_renamed) (defBody s_renamed) (defScope s_renamed) .none kV8 dc8 pm8 an8 cd8 ct8), sl8⟩) (c8 : PySem.W.codeIn K cd8 "renamed" = true) (k8 : PySem.W.keepIn K (.ref f8) = true)
    {f9 : Addr} {od9 an9 : Option Addr} {sl9 : Array (Option Value)} {oc9 kV9 dc9 pm9 cd9 ct9 : Value} (a9 : PySem.W.nsIn K mainGlobals "group_form" = some (some (.ref f9))) (l9 : K.lookup f9 = some ⟨oc9, od9, .func (PySem.W.fnOf "group_form" "group_form" (defArgs s_group_form) (defBody s_group_form) (defScope s_group_form) .none kV9 dc9 pm9 an9 cd9 ct9), sl9⟩) (c9 : PySem.W.codeIn K cd9 "group_form" = true) (k9 : PySem.W.keepIn K (.ref f9) = true)
    {f10 : Addr} {od10 an10 : Option Addr} {sl10 : Array (Option Value)} {oc10 kV10 dc10 pm10 cd10 ct10 : Value} (a10 : PySem.W.nsIn K mainGlobals "form_maps" = some (some (.ref f10))) (l10 : K.lookup f10 = some ⟨oc10, od10, .func (PySem.W.fnOf "form_maps" "form_maps" (defArgs s_form_maps) (defBody s_form_maps) (defScope s_form_maps) .none kV10 dc10 pm10 an10 cd10 ct10), sl10⟩) (c10 : PySem.W.codeIn K cd10 "form_maps" = true) (k10 : PySem.W.keepIn K (.ref f10) = true)
    {f11 : Addr} {od11 an11 : Option Addr} {sl11 : Array (Option Value)} {oc11 kV11 dc11 pm11 cd11 ct11 : Value} (a11 : PySem.W.nsIn K mainGlobals "group_isomorphisms" = some (some (.ref f11))) (l11 : K.lookup f11 = some ⟨oc11, od11, .func (PySem.W.fnOf "group_isomorphisms" "group_isomorphisms" (defArgs s_group_isomorphisms) (defBody s_group_isomorphisms) (defScope s_group_isomorphisms) .none kV11 dc11 pm11 an11 cd11 ct11), sl11⟩) (c11 : PySem.W.codeIn K cd11 "group_isomorphisms" = true) (k11 : PySem.W.keepIn K (.ref f11) = true)
    {f12 : Addr} {od12 an12 : Option Addr} {sl12 : Array (Option Value)} {oc12 kV12 dc12 pm12 cd12 ct12 : Value} (a12 : PySem.W.nsIn K mainGlobals "_law_state" = some (some (.ref f12))) (l12 : K.lookup f12 = some ⟨oc12, od12, .func (PySem.W.fnOf "_law_state" "_law_state" (defArgs s_law_state) (defBody s_law_state) (defScope s_law_state) .none kV12 dc12 pm12 an12 cd12 ct12), sl12⟩) (c12 : PySem.W.codeIn K cd12 "_law_state" = true) (k12 : PySem.W.keepIn K (.ref f12) = true)
    {f13 : Addr} {od13 an13 : Option Addr} {sl13 : Array (Option Value)} {oc13 kV13 dc13 pm13 cd13 ct13 : Value} (a13 : PySem.W.nsIn K mainGlobals "_law_odd" = some (some (.ref f13))) (l13 : K.lookup f13 = some ⟨oc13, od13, .func (PySem.W.fnOf "_law_odd" "_law_odd" (defArgs s_law_odd) (defBody s_law_odd) (defScope s_law_odd) .none kV13 dc13 pm13 an13 cd13 ct13), sl13⟩) (c13 : PySem.W.codeIn K cd13 "_law_odd" = true) (k13 : PySem.W.keepIn K (.ref f13) = true)
    {f14 : Addr} {od14 an14 : Option Addr} {sl14 : Array (Option Value)} {oc14 kV14 dc14 pm14 cd14 ct14 : Value} (a14 : PySem.W.nsIn K mainGlobals "_law_honest" = some (some (.ref f14))) (l14 : K.lookup f14 = some ⟨oc14, od14, .func (PySem.W.fnOf "_law_honest" "_law_honest" (defArgs s_law_honest) (defBody s_law_honest) (defScope s_law_honest) .none kV14 dc14 pm14 an14 cd14 ct14), sl14⟩) (c14 : PySem.W.codeIn K cd14 "_law_honest" = true) (k14 : PySem.W.keepIn K (.ref f14) = true)
    {f15 : Addr} {od15 an15 : Option Addr} {sl15 : Array (Option Value)} {oc15 kV15 dc15 pm15 cd15 ct15 : Value} (a15 : PySem.W.nsIn K mainGlobals "_law_take" = some (some (.ref f15))) (l15 : K.lookup f15 = some ⟨oc15, od15, .func (PySem.W.fnOf "_law_take" "_law_take" (defArgs s_law_take) (defBody s_law_take) (defScope s_law_take) .none kV15 dc15 pm15 an15 cd15 ct15), sl15⟩) (c15 : PySem.W.codeIn K cd15 "_law_take" = true) (k15 : PySem.W.keepIn K (.ref f15) = true)
    {f16 : Addr} {od16 an16 : Option Addr} {sl16 : Array (Option Value)} {oc16 kV16 dc16 pm16 cd16 ct16 : Value} (a16 : PySem.W.nsIn K mainGlobals "_law_order_of" = some (some (.ref f16))) (l16 : K.lookup f16 = some ⟨oc16, od16, .func (PySem.W.fnOf "_law_order_of" "_law_order_of" (defArgs s_law_order_of) (defBody s_law_order_of) (defScope s_law_order_of) .none kV16 dc16 pm16 an16 cd16 ct16), sl16⟩) (c16 : PySem.W.codeIn K cd16 "_law_order_of" = true) (k16 : PySem.W.keepIn K (.ref f16) = true)
    {f17 : Addr} {od17 an17 : Option Addr} {sl17 : Array (Option Value)} {oc17 kV17 dc17 pm17 cd17 ct17 : Value} (a17 : PySem.W.nsIn K mainGlobals "_law_renamed" = some (some (.ref f17))) (l17 : K.lookup f17 = some ⟨oc17, od17, .func (PySem.W.fnOf "_law_renamed" "_law_renamed" (defArgs s_law_renamed) (defBody s_law_renamed) (defScope s_law_renamed) .none kV17 dc17 pm17 an17 cd17 ct17), sl17⟩) (c17 : PySem.W.codeIn K cd17 "_law_renamed" = true) (k17 : PySem.W.keepIn K (.ref f17) = true)
    {f18 : Addr} {od18 an18 : Option Addr} {sl18 : Array (Option Value)} {oc18 kV18 dc18 pm18 cd18 ct18 : Value} (a18 : PySem.W.nsIn K mainGlobals "_law_times_table" = some (some (.ref f18))) (l18 : K.lookup f18 = some ⟨oc18, od18, .func (PySem.W.fnOf "_law_times_table" "_law_times_table" (defArgs s_law_times_table) (defBody s_law_times_table) (defScope s_law_times_table) .none kV18 dc18 pm18 an18 cd18 ct18), sl18⟩) (c18 : PySem.W.codeIn K cd18 "_law_times_table" = true) (k18 : PySem.W.keepIn K (.ref f18) = true)
    {f19 : Addr} {od19 an19 : Option Addr} {sl19 : Array (Option Value)} {oc19 kV19 dc19 pm19 cd19 ct19 : Value} (a19 : PySem.W.nsIn K mainGlobals "_law_group_of" = some (some (.ref f19))) (l19 : K.lookup f19 = some ⟨oc19, od19, .func (PySem.W.fnOf "_law_group_of" "_law_group_of" (defArgs s_law_group_of) (defBody s_law_group_of) (defScope s_law_group_of) .none kV19 dc19 pm19 an19 cd19 ct19), sl19⟩) (c19 : PySem.W.codeIn K cd19 "_law_group_of" = true) (k19 : PySem.W.keepIn K (.ref f19) = true)
    {f20 : Addr} {od20 an20 : Option Addr} {sl20 : Array (Option Value)} {oc20 kV20 dc20 pm20 cd20 ct20 : Value} (a20 : PySem.W.nsIn K mainGlobals "_law_turns" = some (some (.ref f20))) (l20 : K.lookup f20 = some ⟨oc20, od20, .func (PySem.W.fnOf "_law_turns" "_law_turns" (defArgs s_law_turns) (defBody s_law_turns) (defScope s_law_turns) .none kV20 dc20 pm20 an20 cd20 ct20), sl20⟩) (c20 : PySem.W.codeIn K cd20 "_law_turns" = true) (k20 : PySem.W.keepIn K (.ref f20) = true)
    {f21 : Addr} {od21 an21 : Option Addr} {sl21 : Array (Option Value)} {oc21 kV21 dc21 pm21 cd21 ct21 : Value} (a21 : PySem.W.nsIn K mainGlobals "_law_even" = some (some (.ref f21))) (l21 : K.lookup f21 = some ⟨oc21, od21, .func (PySem.W.fnOf "_law_even" "_law_even" (defArgs s_law_even) (defBody s_law_even) (defScope s_law_even) .none kV21 dc21 pm21 an21 cd21 ct21), sl21⟩) (c21 : PySem.W.codeIn K cd21 "_law_even" = true) (k21 : PySem.W.keepIn K (.ref f21) = true)
    {f22 : Addr} {od22 an22 : Option Addr} {sl22 : Array (Option Value)} {oc22 kV22 dc22 pm22 cd22 ct22 : Value} (a22 : PySem.W.nsIn K mainGlobals "_law_orders" = some (some (.ref f22))) (l22 : K.lookup f22 = some ⟨oc22, od22, .func (PySem.W.fnOf "_law_orders" "_law_orders" (defArgs s_law_orders) (defBody s_law_orders) (defScope s_law_orders) .none kV22 dc22 pm22 an22 cd22 ct22), sl22⟩) (c22 : PySem.W.codeIn K cd22 "_law_orders" = true) (k22 : PySem.W.keepIn K (.ref f22) = true)
    {f23 : Addr} {od23 an23 : Option Addr} {sl23 : Array (Option Value)} {oc23 kV23 dc23 pm23 cd23 ct23 : Value} (a23 : PySem.W.nsIn K mainGlobals "_law_cyclic" = some (some (.ref f23))) (l23 : K.lookup f23 = some ⟨oc23, od23, .func (PySem.W.fnOf "_law_cyclic" "_law_cyclic" (defArgs s_law_cyclic) (defBody s_law_cyclic) (defScope s_law_cyclic) .none kV23 dc23 pm23 an23 cd23 ct23), sl23⟩) (c23 : PySem.W.codeIn K cd23 "_law_cyclic" = true) (k23 : PySem.W.keepIn K (.ref f23) = true)
    {f24 : Addr} {od24 an24 : Option Addr} {sl24 : Array (Option Value)} {oc24 kV24 dc24 pm24 cd24 ct24 : Value} (a24 : PySem.W.nsIn K mainGlobals "_law_quaternions" = some (some (.ref f24))) (l24 : K.lookup f24 = some ⟨oc24, od24, .func (PySem.W.fnOf "_law_quaternions" "_law_quaternions" (defArgs s_law_quaternions) (defBody s_law_quaternions) (defScope s_law_quaternions) .none kV24 dc24 pm24 an24 cd24 ct24), sl24⟩) (c24 : PySem.W.codeIn K cd24 "_law_quaternions" = true) (k24 : PySem.W.keepIn K (.ref f24) = true)
    {f25 : Addr} {od25 an25 : Option Addr} {sl25 : Array (Option Value)} {oc25 kV25 dc25 pm25 cd25 ct25 : Value} (a25 : PySem.W.nsIn K mainGlobals "_law_inner_order" = some (some (.ref f25))) (l25 : K.lookup f25 = some ⟨oc25, od25, .func (PySem.W.fnOf "_law_inner_order" "_law_inner_order" (defArgs s_law_inner_order) (defBody s_law_inner_order) (defScope s_law_inner_order) .none kV25 dc25 pm25 an25 cd25 ct25), sl25⟩) (c25 : PySem.W.codeIn K cd25 "_law_inner_order" = true) (k25 : PySem.W.keepIn K (.ref f25) = true)
    {f26 : Addr} {od26 an26 : Option Addr} {sl26 : Array (Option Value)} {oc26 kV26 dc26 pm26 cd26 ct26 : Value} (a26 : PySem.W.nsIn K mainGlobals "_law_some" = some (some (.ref f26))) (l26 : K.lookup f26 = some ⟨oc26, od26, .func (PySem.W.fnOf "_law_some" "_law_some" (defArgs s_law_some) (defBody s_law_some) (defScope s_law_some) .none kV26 dc26 pm26 an26 cd26 ct26), sl26⟩) (c26 : PySem.W.codeIn K cd26 "_law_some" = true) (k26 : PySem.W.keepIn K (.ref f26) = true)
    {f27 : Addr} {od27 an27 : Option Addr} {sl27 : Array (Option Value)} {oc27 kV27 dc27 pm27 cd27 ct27 : Value} (a27 : PySem.W.nsIn K mainGlobals "_law_shuffled" = some (some (.ref f27))) (l27 : K.lookup f27 = some ⟨oc27, od27, .func (PySem.W.fnOf "_law_shuffled" "_law_shuffled" (defArgs s_law_shuffled) (defBody s_law_shuffled) (defScope s_law_shuffled) .none kV27 dc27 pm27 an27 cd27 ct27), sl27⟩) (c27 : PySem.W.codeIn K cd27 "_law_shuffled" = true) (k27 : PySem.W.keepIn K (.ref f27) = true)
    {f28 : Addr} {od28 an28 : Option Addr} {sl28 : Array (Option Value)} {oc28 kV28 dc28 pm28 cd28 ct28 : Value} (a28 : PySem.W.nsIn K mainGlobals "_law_listed" = some (some (.ref f28))) (l28 : K.lookup f28 = some ⟨oc28, od28, .func (PySem.W.fnOf "_law_listed" "_law_listed" (defArgs s_law_listed) (defBody s_law_listed) (defScope s_law_listed) .none kV28 dc28 pm28 an28 cd28 ct28), sl28⟩) (c28 : PySem.W.codeIn K cd28 "_law_listed" = true) (k28 : PySem.W.keepIn K (.ref f28) = true)
    {f29 : Addr} {od29 an29 : Option Addr} {sl29 : Array (Option Value)} {oc29 kV29 dc29 pm29 cd29 ct29 : Value} (a29 : PySem.W.nsIn K mainGlobals "_law_rows" = some (some (.ref f29))) (l29 : K.lookup f29 = some ⟨oc29, od29, .func (PySem.W.fnOf "_law_rows" "_law_rows" (defArgs s_law_rows) (defBody s_law_rows) (defScope s_law_rows) .none kV29 dc29 pm29 an29 cd29 ct29), sl29⟩) (c29 : PySem.W.codeIn K cd29 "_law_rows" = true) (k29 : PySem.W.keepIn K (.ref f29) = true)
    {f30 : Addr} {od30 an30 : Option Addr} {sl30 : Array (Option Value)} {oc30 kV30 dc30 pm30 cd30 ct30 : Value} (a30 : PySem.W.nsIn K mainGlobals "_law_enumerations" = some (some (.ref f30))) (l30 : K.lookup f30 = some ⟨oc30, od30, .func (PySem.W.fnOf "_law_enumerations" "_law_enumerations" (defArgs s_law_enumerations) (defBody s_law_enumerations) (defScope s_law_enumerations) .none kV30 dc30 pm30 an30 cd30 ct30), sl30⟩) (c30 : PySem.W.codeIn K cd30 "_law_enumerations" = true) (k30 : PySem.W.keepIn K (.ref f30) = true)
    {f31 : Addr} {od31 an31 : Option Addr} {sl31 : Array (Option Value)} {oc31 kV31 dc31 pm31 cd31 ct31 : Value} (a31 : PySem.W.nsIn K mainGlobals "_law_by_order" = some (some (.ref f31))) (l31 : K.lookup f31 = some ⟨oc31, od31, .func (PySem.W.fnOf "_law_by_order" "_law_by_order" (defArgs s_law_by_order) (defBody s_law_by_order) (defScope s_law_by_order) .none kV31 dc31 pm31 an31 cd31 ct31), sl31⟩) (c31 : PySem.W.codeIn K cd31 "_law_by_order" = true) (k31 : PySem.W.keepIn K (.ref f31) = true)
    {f32 : Addr} {od32 an32 : Option Addr} {sl32 : Array (Option Value)} {oc32 kV32 dc32 pm32 cd32 ct32 : Value} (a32 : PySem.W.nsIn K mainGlobals "_law_form" = some (some (.ref f32))) (l32 : K.lookup f32 = some ⟨oc32, od32, .func (PySem.W.fnOf "_law_form" "_law_form" (defArgs s_law_form) (defBody s_law_form) (defScope s_law_form) .none kV32 dc32 pm32 an32 cd32 ct32), sl32⟩) (c32 : PySem.W.codeIn K cd32 "_law_form" = true) (k32 : PySem.W.keepIn K (.ref f32) = true)
    {f33 : Addr} {od33 an33 : Option Addr} {sl33 : Array (Option Value)} {oc33 kV33 dc33 pm33 cd33 ct33 : Value} (a33 : PySem.W.nsIn K mainGlobals "_law_isomorphisms" = some (some (.ref f33))) (l33 : K.lookup f33 = some ⟨oc33, od33, .func (PySem.W.fnOf "_law_isomorphisms" "_law_isomorphisms" (defArgs s_law_isomorphisms) (defBody s_law_isomorphisms) (defScope s_law_isomorphisms) .none kV33 dc33 pm33 an33 cd33 ct33), sl33⟩) (c33 : PySem.W.codeIn K cd33 "_law_isomorphisms" = true) (k33 : PySem.W.keepIn K (.ref f33) = true)
    {f34 : Addr} {od34 an34 : Option Addr} {sl34 : Array (Option Value)} {oc34 kV34 dc34 pm34 cd34 ct34 : Value} (a34 : PySem.W.nsIn K mainGlobals "_law_tables_hold" = some (some (.ref f34))) (l34 : K.lookup f34 = some ⟨oc34, od34, .func (PySem.W.fnOf "_law_tables_hold" "_law_tables_hold" (defArgs s_law_tables_hold) (defBody s_law_tables_hold) (defScope s_law_tables_hold) .none kV34 dc34 pm34 an34 cd34 ct34), sl34⟩) (c34 : PySem.W.codeIn K cd34 "_law_tables_hold" = true) (k34 : PySem.W.keepIn K (.ref f34) = true)
    {f35 : Addr} {od35 an35 : Option Addr} {sl35 : Array (Option Value)} {oc35 kV35 dc35 pm35 cd35 ct35 : Value} (a35 : PySem.W.nsIn K mainGlobals "law" = some (some (.ref f35))) (l35 : K.lookup f35 = some ⟨oc35, od35, .func (PySem.W.fnOf "law" "law" (defArgs s_law) (defBody s_law) (defScope s_law) .none kV35 dc35 pm35 an35 cd35 ct35), sl35⟩) (c35 : PySem.W.codeIn K cd35 "law" = true) (k35 : PySem.W.keepIn K (.ref f35) = true)
    (z_abs : PySem.W.nsIn K mainGlobals "abs" = some none) (z_all : PySem.W.nsIn K mainGlobals "all" = some none) (z_bool : PySem.W.nsIn K mainGlobals "bool" = some none) (z_int : PySem.W.nsIn K mainGlobals "int" = some none) (z_isinstance : PySem.W.nsIn K mainGlobals "isinstance" = some none) (z_len : PySem.W.nsIn K mainGlobals "len" = some none) (z_list : PySem.W.nsIn K mainGlobals "list" = some none) (z_max : PySem.W.nsIn K mainGlobals "max" = some none) (z_min : PySem.W.nsIn K mainGlobals "min" = some none) (z_range : PySem.W.nsIn K mainGlobals "range" = some none) (z_sorted : PySem.W.nsIn K mainGlobals "sorted" = some none) (z_sum : PySem.W.nsIn K mainGlobals "sum" = some none) (z_tuple : PySem.W.nsIn K mainGlobals "tuple" = some none) :
    ∃ fd : FuncData, (∀ (s : Shared) (v : Value), BindsTo s fd ⟨[v], []⟩ [("script", v)]) ∧ ∀ base : Heap, K.In base → base.Ns mainGlobals mg → FnOk l.prog w K mg base (L2.CX l.prog w) 15 fa fd ["script"] (spF (gx K) 1 f_law) := by
  have e := hfa.symm.trans (PySem.W.mg_of X G a35)
  cases e
  have T : Txt mg := ⟨PySem.W.mg_none_of X G z_abs, PySem.W.mg_none_of X G z_all, PySem.W.mg_none_of X G z_bool, PySem.W.mg_none_of X G z_int, PySem.W.mg_none_of X G z_isinstance, PySem.W.mg_none_of X G z_len, PySem.W.mg_none_of X G z_list, PySem.W.mg_none_of X G z_max, PySem.W.mg_none_of X G z_min, PySem.W.mg_none_of X G z_range, PySem.W.mg_none_of X G z_sorted, PySem.W.mg_none_of X G z_sum, PySem.W.mg_none_of X G z_tuple⟩
  have F0 := fun_mk (st := s_is_integer) l0 c0 k0
  have b0 := F0.binds (ps := ["value"]) fun _ _ _ _ _ _ us hl => match us, hl with | [_], _ => rfl
  have F1 := fun_mk (st := s_is_item) l1 c1 k1
  have b1 := F1.binds (ps := ["value", "n"]) fun _ _ _ _ _ _ us hl => match us, hl with | [_, _], _ => rfl
  have F2 := fun_mk (st := s_is_associative) l2 c2 k2
  have b2 := F2.binds (ps := ["table"]) fun _ _ _ _ _ _ us hl => match us, hl with | [_], _ => rfl
  have F3 := fun_mk (st := s_is_square) l3 c3 k3
  have b3 := F3.binds (ps := ["value"]) fun _ _ _ _ _ _ us hl => match us, hl with | [_], _ => rfl
  have F4 := fun_mk (st := s_is_group_table) l4 c4 k4
  have b4 := F4.binds (ps := ["value"]) fun _ _ _ _ _ _ us hl => match us, hl with | [_], _ => rfl
  have F5 := fun_mk (st := s_enumerated) l5 c5 k5
  have b5 := F5.binds (ps := ["table", "generators"]) fun _ _ _ _ _ _ us hl => match us, hl with | [_, _], _ => rfl
  have F6 := fun_mk (st := s_tuples_of) l6 c6 k6
  have b6 := F6.binds (ps := ["n", "size"]) fun _ _ _ _ _ _ us hl => match us, hl with | [_, _], _ => rfl
  have F7 := fun_mk (st := s_orders_of) l7 c7 k7
  have b7 := F7.binds (ps := ["table"]) fun _ _ _ _ _ _ us hl => match us, hl with | [_], _ => rfl
  have F8 := fun_mk (st := s_renamed) l8 c8 k8
  have b8 := F8.binds (ps := ["table", "order"]) fun _ _ _ _ _ _ us hl => match us, hl with | [_, _], _ => rfl
  have F9 := fun_mk (st := s_group_form) l9 c9 k9
  have b9 := F9.binds (ps := ["table"]) fun _ _ _ _ _ _ us hl => match us, hl with | [_], _ => rfl
  have F10 := fun_mk (st := s_form_maps) l10 c10 k10
  have b10 := F10.binds (ps := ["table"]) fun _ _ _ _ _ _ us hl => match us, hl with | [_], _ => rfl
  have F11 := fun_mk (st := s_group_isomorphisms) l11 c11 k11
  have b11 := F11.binds (ps := ["one", "two"]) fun _ _ _ _ _ _ us hl => match us, hl with | [_, _], _ => rfl
  have F12 := fun_mk (st := s_law_state) l12 c12 k12
  have b12 := F12.binds (ps := ["script"]) fun _ _ _ _ _ _ us hl => match us, hl with | [_], _ => rfl
  have F13 := fun_mk (st := s_law_odd) l13 c13 k13
  have b13 := F13.binds (ps := ["value"]) fun _ _ _ _ _ _ us hl => match us, hl with | [_], _ => rfl
  have F14 := fun_mk (st := s_law_honest) l14 c14 k14
  have b14 := F14.binds (ps := ["value"]) fun _ _ _ _ _ _ us hl => match us, hl with | [_], _ => rfl
  have F15 := fun_mk (st := s_law_take) l15 c15 k15
  have b15 := F15.binds (ps := ["state", "m"]) fun _ _ _ _ _ _ us hl => match us, hl with | [_, _], _ => rfl
  have F16 := fun_mk (st := s_law_order_of) l16 c16 k16
  have b16 := F16.binds (ps := ["state", "n"]) fun _ _ _ _ _ _ us hl => match us, hl with | [_, _], _ => rfl
  have F17 := fun_mk (st := s_law_renamed) l17 c17 k17
  have b17 := F17.binds (ps := ["table", "order"]) fun _ _ _ _ _ _ us hl => match us, hl with | [_, _], _ => rfl
  have F18 := fun_mk (st := s_law_times_table) l18 c18 k18
  have b18 := F18.binds (ps := ["one", "two"]) fun _ _ _ _ _ _ us hl => match us, hl with | [_, _], _ => rfl
  have F19 := fun_mk (st := s_law_group_of) l19 c19 k19
  have b19 := F19.binds (ps := ["members"]) fun _ _ _ _ _ _ us hl => match us, hl with | [_], _ => rfl
  have F20 := fun_mk (st := s_law_turns) l20 c20 k20
  have b20 := F20.binds (ps := ["n"]) fun _ _ _ _ _ _ us hl => match us, hl with | [_], _ => rfl
  have F21 := fun_mk (st := s_law_even) l21 c21 k21
  have b21 := F21.binds (ps := ["f"]) fun _ _ _ _ _ _ us hl => match us, hl with | [_], _ => rfl
  have F22 := fun_mk (st := s_law_orders) l22 c22 k22
  have b22 := F22.binds (ps := ["n"]) fun _ _ _ _ _ _ us hl => match us, hl with | [_], _ => rfl
  have F23 := fun_mk (st := s_law_cyclic) l23 c23 k23
  have b23 := F23.binds (ps := ["n"]) fun _ _ _ _ _ _ us hl => match us, hl with | [_], _ => rfl
  have F24 := fun_mk (st := s_law_quaternions) l24 c24 k24
  have b24 := F24.binds (ps := []) fun _ _ _ _ _ _ us hl => match us, hl with | [], _ => rfl
  have F25 := fun_mk (st := s_law_inner_order) l25 c25 k25
  have b25 := F25.binds (ps := ["state", "n"]) fun _ _ _ _ _ _ us hl => match us, hl with | [_, _], _ => rfl
  have F26 := fun_mk (st := s_law_some) l26 c26 k26
  have b26 := F26.binds (ps := ["state", "great"]) fun _ _ _ _ _ _ us hl => match us, hl with | [_, _], _ => rfl
  have F27 := fun_mk (st := s_law_shuffled) l27 c27 k27
  have b27 := F27.binds (ps := ["state", "table"]) fun _ _ _ _ _ _ us hl => match us, hl with | [_, _], _ => rfl
  have F28 := fun_mk (st := s_law_listed) l28 c28 k28
  have b28 := F28.binds (ps := ["table", "generators"]) fun _ _ _ _ _ _ us hl => match us, hl with | [_, _], _ => rfl
  have F29 := fun_mk (st := s_law_rows) l29 c29 k29
  have b29 := F29.binds (ps := ["n", "size"]) fun _ _ _ _ _ _ us hl => match us, hl with | [_, _], _ => rfl
  have F30 := fun_mk (st := s_law_enumerations) l30 c30 k30
  have b30 := F30.binds (ps := ["table"]) fun _ _ _ _ _ _ us hl => match us, hl with | [_], _ => rfl
  have F31 := fun_mk (st := s_law_by_order) l31 c31 k31
  have b31 := F31.binds (ps := ["table", "order"]) fun _ _ _ _ _ _ us hl => match us, hl with | [_, _], _ => rfl
  have F32 := fun_mk (st := s_law_form) l32 c32 k32
  have b32 := F32.binds (ps := ["table"]) fun _ _ _ _ _ _ us hl => match us, hl with | [_], _ => rfl
  have F33 := fun_mk (st := s_law_isomorphisms) l33 c33 k33
  have b33 := F33.binds (ps := ["one", "two"]) fun _ _ _ _ _ _ us hl => match us, hl with | [_, _], _ => rfl
  have F34 := fun_mk (st := s_law_tables_hold) l34 c34 k34
  have b34 := F34.binds (ps := ["state", "table"]) fun _ _ _ _ _ _ us hl => match us, hl with | [_, _], _ => rfl
  have F35 := fun_mk (st := s_law) l35 c35 k35
  have b35 := F35.binds (ps := ["script"]) fun _ _ _ _ _ _ us hl => match us, hl with | [_], _ => rfl
  refine ⟨PySem.W.fnOf "law" "law" (defArgs s_law) (defBody s_law) (defScope s_law) .none kV35 dc35 pm35 an35 cd35 ct35, fun s v => .of_eq rfl, fun base _ _ => ?_⟩
  have h_is_integer := ok_is_integer (P := l.prog) (w := w) (base := base)  T F0 (PySem.W.mg_of X G a0) b0
  have h_is_item := ok_is_item (P := l.prog) (w := w) (base := base) h_is_integer T F1 (PySem.W.mg_of X G a1) b1
  have h_is_associative := ok_is_associative (P := l.prog) (w := w) (base := base)  T F2 (PySem.W.mg_of X G a2) b2
  have h_is_square := ok_is_square (P := l.prog) (w := w) (base := base) h_is_item T F3 (PySem.W.mg_of X G a3) b3
  have h_is_group_table := ok_is_group_table (P := l.prog) (w := w) (base := base) h_is_associative h_is_square T F4 (PySem.W.mg_of X G a4) b4
  have h_enumerated := ok_enumerated (P := l.prog) (w := w) (base := base)  T F5 (PySem.W.mg_of X G a5) b5
  have h_tuples_of := ok_tuples_of (P := l.prog) (w := w) (base := base)  T F6 (PySem.W.mg_of X G a6) b6
  have h_orders_of := ok_orders_of (P := l.prog) (w := w) (base := base) h_enumerated h_tuples_of T F7 (PySem.W.mg_of X G a7) b7
  have h_renamed := ok_renamed (P := l.prog) (w := w) (base := base)  T F8 (PySem.W.mg_of X G a8) b8
  have h_group_form := ok_group_form (P := l.prog) (w := w) (base := base) h_orders_of h_renamed T F9 (PySem.W.mg_of X G a9) b9
  have h_form_maps := ok_form_maps (P := l.prog) (w := w) (base := base) h_orders_of h_renamed h_group_form T F10 (PySem.W.mg_of X G a10) b10
  have h_group_isomorphisms := ok_group_isomorphisms (P := l.prog) (w := w) (base := base) h_group_form h_form_maps T F11 (PySem.W.mg_of X G a11) b11
  have h_law_state := ok_law_state (P := l.prog) (w := w) (base := base)  T F12 (PySem.W.mg_of X G a12) b12
  have h_law_odd := ok_law_odd (P := l.prog) (w := w) (base := base)  T F13 (PySem.W.mg_of X G a13) b13 12
  have h_law_honest := ok_law_honest (P := l.prog) (w := w) (base := base) h_law_odd T F14 (PySem.W.mg_of X G a14) b14
  have h_law_take := ok_law_take (P := l.prog) (w := w) (base := base)  T F15 (PySem.W.mg_of X G a15) b15
  have h_law_order_of := ok_law_order_of (P := l.prog) (w := w) (base := base) h_law_take T F16 (PySem.W.mg_of X G a16) b16
  have h_law_renamed := ok_law_renamed (P := l.prog) (w := w) (base := base)  T F17 (PySem.W.mg_of X G a17) b17
  have h_law_times_table := ok_law_times_table (P := l.prog) (w := w) (base := base)  T F18 (PySem.W.mg_of X G a18) b18
  have h_law_group_of := ok_law_group_of (P := l.prog) (w := w) (base := base)  T F19 (PySem.W.mg_of X G a19) b19
  have h_law_turns := ok_law_turns (P := l.prog) (w := w) (base := base) h_law_group_of T F20 (PySem.W.mg_of X G a20) b20
  have h_law_even := ok_law_even (P := l.prog) (w := w) (base := base)  T F21 (PySem.W.mg_of X G a21) b21
  have h_law_orders := ok_law_orders (P := l.prog) (w := w) (base := base)  T F22 (PySem.W.mg_of X G a22) b22
  have h_law_cyclic := ok_law_cyclic (P := l.prog) (w := w) (base := base)  T F23 (PySem.W.mg_of X G a23) b23
  have h_law_quaternions := ok_law_quaternions (P := l.prog) (w := w) (base := base)  T F24 (PySem.W.mg_of X G a24) b24
  have h_law_inner_order := ok_law_inner_order (P := l.prog) (w := w) (base := base) h_law_order_of T F25 (PySem.W.mg_of X G a25) b25
  have h_law_some := ok_law_some (P := l.prog) (w := w) (base := base) h_law_take h_law_times_table h_law_group_of h_law_turns h_law_even h_law_orders h_law_cyclic h_law_quaternions T F26 (PySem.W.mg_of X G a26) b26
  have h_law_shuffled := ok_law_shuffled (P := l.prog) (w := w) (base := base) h_law_renamed h_law_inner_order T F27 (PySem.W.mg_of X G a27) b27
  have h_law_listed := ok_law_listed (P := l.prog) (w := w) (base := base)  T F28 (PySem.W.mg_of X G a28) b28
  have h_law_rows := ok_law_rows (P := l.prog) (w := w) (base := base)  T F29 (PySem.W.mg_of X G a29) b29
  have h_law_enumerations := ok_law_enumerations (P := l.prog) (w := w) (base := base) h_law_listed h_law_rows T F30 (PySem.W.mg_of X G a30) b30
  have h_law_by_order := ok_law_by_order (P := l.prog) (w := w) (base := base)  T F31 (PySem.W.mg_of X G a31) b31
  have h_law_form := ok_law_form (P := l.prog) (w := w) (base := base) h_law_enumerations h_law_by_order T F32 (PySem.W.mg_of X G a32) b32
  have h_law_isomorphisms := ok_law_isomorphisms (P := l.prog) (w := w) (base := base) h_law_enumerations h_law_by_order T F33 (PySem.W.mg_of X G a33) b33
  have h_law_tables_hold := ok_law_tables_hold (P := l.prog) (w := w) (base := base) h_is_group_table h_law_take T F34 (PySem.W.mg_of X G a34) b34
  exact ok_law (P := l.prog) (w := w) (base := base) h_group_form h_form_maps h_group_isomorphisms h_law_state h_law_honest h_law_take h_law_some h_law_shuffled h_law_form h_law_isomorphisms h_law_tables_hold T F35
theorem hsp {K : PySem.W.Frag} (lt : ∀ ns : List Int, ns.length ≤ 63 → f_law [.fz (.scr ns)] = .ok (.fz (.bl true)) []) (H : Hp) (a : Addr) (ns : List Int) (hl : ns.length ≤ 63) (hS : SqL K H a (ns.map V.int)) :
    spF (gx K) 1 f_law [.ref a] H (fun v _ => v = .bl true) fun _ _ _ => False := by
  refine ⟨rfl, H, fun _ => none, [.fz (.scr ns)], rfl, ⟨Ex.refl H, fun _ _ h => (nomatch h), fun _ _ _ => rfl, rfl, fun _ => [], ⟨fun i s hs => ?_, fun _ _ => rfl, fun _ _ h => (nomatch h), fun _ => List.nodup_nil, fun _ _ _ _ h => (nomatch h)⟩⟩, ?_⟩
  · cases i with
    | zero =>
      cases hs
      refine ⟨rfl, .ref a, rfl, ?_⟩
      simp only [Rp]
      exact ⟨a, rfl, hS⟩
    | succ i => simp [rho0] at hs
  · rw [lt ns hl]
    intro v F2 R2 H2 _ q _
    have q := q.2
    simpa only [Rp] using q
theorem walk {l : PySem.W.OpenLaw} {q : Program} {loose : List Str} {XP : (Str → Option Value) → Heap → Prop} {YP : World → Heap → Prop} {d : DefRec} {K : Params → PySem.W.Frag} (lt : ∀ ns : List Int, ns.length ≤ 63 → f_law [.fz (.scr ns)] = .ok (.fz (.bl true)) []) (hn : l.most = some 63) (hdf : d.params.defaults = [])
    (hY : ∀ (w : World) (h : Heap), YP w h → (K w.params).In h)
    (F : ∀ (w : World) (mg : Str → Option Value) (fa : Addr) (h : Heap), (K w.params).In h → h.Ns mainGlobals mg → mg d.name = some (.ref fa) →
      ∃ fd : FuncData, (∀ (s : Shared) (u : Value), BindsTo s fd ⟨[u], []⟩ [("script", u)]) ∧ ∀ base : Heap, (K w.params).In base → base.Ns mainGlobals mg → FnOk l.prog w (K w.params) mg base (L2.CX l.prog w) 15 fa fd ["script"] (spF (gx (K w.params)) 1 f_law)) :
    PySem.W.WalkO q loose XP YP l.row.toRowW d [] (fun f vs => PySem.call f vs) :=
  L2.walk_of (n := 63) (k := 15) (x := "script") (CX := fun w => L2.CX l.prog w) (sp := fun w => spF (gx (K w.params)) 1 f_law) hn (by decide) hdf ⟨rfl, by decide, by decide⟩ hY F (fun _ H a ns hl _ hS => hsp lt H a ns hl hS)
    fun _ _ _ _ _ z => by obtain ⟨_, _, _, _, _, _, _, _, _, _, _, _, z⟩ := z; exact z
end K74

end
section
set_option Elab.async false
set_option maxRecDepth 100000
open PySem PySem.W PyProof.Rows
set_option maxRecDepth 100000 in
set_option maxHeartbeats 0 in
theorem PySem.Challenge.cw_reesroads_k74_whole_great_groups_holds : PySem.Challenge.rw_reesroads_k74_whole_great_groups.Holds := by
  w_on; o_law; k_head; (case hw => w_witness2)
  k_fill
  refine K74.walk (l := PySem.Challenge.rw_reesroads_k74_whole_great_groups) K74.law_true rfl rfl (fun w h Y => PySem.W.kIn_of Y) ?F
  case F =>
    intro w mg fa h KX G hmg
    refine' K74.all_mk KX G hmg ?a0 ?l0 ?c0 ?k0 ?a1 ?l1 ?c1 ?k1 ?a2 ?l2 ?c2 ?k2 ?a3 ?l3 ?c3 ?k3 ?a4 ?l4 ?c4 ?k4 ?a5 ?l5 ?c5 ?k5 ?a6 ?l6 ?c6 ?k6 ?a7 ?l7 ?c7 ?k7 ?a8 ?l8 ?c8 ?k8 ?a9 ?l9 ?c9 ?k9 ?a10 ?l10 ?c10 ?k10 ?a11 ?l11 ?c11 ?k11 ?a12 ?l12 ?c12 ?k12 ?a13 ?l13 ?c13 ?k13 ?a14 ?l14 ?c14 ?k14 ?a15 ?l15 ?c15 ?k15 ?a16 ?l16 ?c16 ?k16 ?a17 ?l17 ?c17 ?k17 ?a18 ?l18 ?c18 ?k18 ?a19 ?l19 ?c19 ?k19 ?a20 ?l20 ?c20 ?k20 ?a21 ?l21 ?c21 ?k21 ?a22 ?l22 ?c22 ?k22 ?a23 ?l23 ?c23 ?k23 ?a24 ?l24 ?c24 ?k24 ?a25 ?l25 ?c25 ?k25 ?a26 ?l26 ?c26 ?k26 ?a27 ?l27 ?c27 ?k27 ?a28 ?l28 ?c28 ?k28 ?a29 ?l29 ?c29 ?k29 ?a30 ?l30 ?c30 ?k30 ?a31 ?l31 ?c31 ?k31 ?a32 ?l32 ?c32 ?k32 ?a33 ?l33 ?c33 ?k33 ?a34 ?l34 ?c34 ?k34 ?a35 ?l35 ?c35 ?k35 ?z_abs ?z_all ?z_bool ?z_int ?z_isinstance ?z_len ?z_list ?z_max ?z_min ?z_range ?z_sorted ?z_sum ?z_tuple
    (case a0 => k_is); (case l0 => k_is); (case c0 => k_is); (case k0 => k_is)
    (case a1 => k_is); (case l1 => k_is); (case c1 => k_is); (case k1 => k_is)
    (case a2 => k_is); (case l2 => k_is); (case c2 => k_is); (case k2 => k_is)
    (case a3 => k_is); (case l3 => k_is); (case c3 => k_is); (case k3 => k_is)
    (case a4 => k_is); (case l4 => k_is); (case c4 => k_is); (case k4 => k_is)
    (case a5 => k_is); (case l5 => k_is); (case c5 => k_is); (case k5 => k_is)
    (case a6 => k_is); (case l6 => k_is); (case c6 => k_is); (case k6 => k_is)
    (case a7 => k_is); (case l7 => k_is); (case c7 => k_is); (case k7 => k_is)
    (case a8 => k_is); (case l8 => k_is); (case c8 => k_is); (case k8 => k_is)
    (case a9 => k_is); (case l9 => k_is); (case c9 => k_is); (case k9 => k_is)
    (case a10 => k_is); (case l10 => k_is); (case c10 => k_is); (case k10 => k_is)
    (case a11 => k_is); (case l11 => k_is); (case c11 => k_is); (case k11 => k_is)
    (case a12 => k_is); (case l12 => k_is); (case c12 => k_is); (case k12 => k_is)
    (case a13 => k_is); (case l13 => k_is); (case c13 => k_is); (case k13 => k_is)
    (case a14 => k_is); (case l14 => k_is); (case c14 => k_is); (case k14 => k_is)
    (case a15 => k_is); (case l15 => k_is); (case c15 => k_is); (case k15 => k_is)
    (case a16 => k_is); (case l16 => k_is); (case c16 => k_is); (case k16 => k_is)
    (case a17 => k_is); (case l17 => k_is); (case c17 => k_is); (case k17 => k_is)
    (case a18 => k_is); (case l18 => k_is); (case c18 => k_is); (case k18 => k_is)
    (case a19 => k_is); (case l19 => k_is); (case c19 => k_is); (case k19 => k_is)
    (case a20 => k_is); (case l20 => k_is); (case c20 => k_is); (case k20 => k_is)
    (case a21 => k_is); (case l21 => k_is); (case c21 => k_is); (case k21 => k_is)
    (case a22 => k_is); (case l22 => k_is); (case c22 => k_is); (case k22 => k_is)
    (case a23 => k_is); (case l23 => k_is); (case c23 => k_is); (case k23 => k_is)
    (case a24 => k_is); (case l24 => k_is); (case c24 => k_is); (case k24 => k_is)
    (case a25 => k_is); (case l25 => k_is); (case c25 => k_is); (case k25 => k_is)
    (case a26 => k_is); (case l26 => k_is); (case c26 => k_is); (case k26 => k_is)
    (case a27 => k_is); (case l27 => k_is); (case c27 => k_is); (case k27 => k_is)
    (case a28 => k_is); (case l28 => k_is); (case c28 => k_is); (case k28 => k_is)
    (case a29 => k_is); (case l29 => k_is); (case c29 => k_is); (case k29 => k_is)
    (case a30 => k_is); (case l30 => k_is); (case c30 => k_is); (case k30 => k_is)
    (case a31 => k_is); (case l31 => k_is); (case c31 => k_is); (case k31 => k_is)
    (case a32 => k_is); (case l32 => k_is); (case c32 => k_is); (case k32 => k_is)
    (case a33 => k_is); (case l33 => k_is); (case c33 => k_is); (case k33 => k_is)
    (case a34 => k_is); (case l34 => k_is); (case c34 => k_is); (case k34 => k_is)
    (case a35 => k_is); (case l35 => k_is); (case c35 => k_is); (case k35 => k_is)
    (case z_abs => k_is); (case z_all => k_is); (case z_bool => k_is); (case z_int => k_is); (case z_isinstance => k_is); (case z_len => k_is); (case z_list => k_is); (case z_max => k_is); (case z_min => k_is); (case z_range => k_is); (case z_sorted => k_is); (case z_sum => k_is); (case z_tuple => k_is)

end
