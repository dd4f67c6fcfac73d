import PyProof.Rows.All
import Wide.All
import OpenK.AllK
import Wide.FinOn
import HandS.ForMost
import HandS.Star
import HandS.Codes
import HandS.Strs
import HandS.Conv
import HandS.IsInst
import HandS.FStr
import HandS.OwnEq
import HandS.DictComp
import HandS.Small
import HandS.StrMore
import HandS.Walk
import HandS.Zip
import KE.KCallOwn
import HandS.Exc
import HandS.TupAny
import HandS.Dict
import PyProof.InstNe
import PyProof.FactsAll.zip_1
import KE.KFmtOwn
import HandS.NoneIn
import HandS.More
import KE.KDictKeyed
import KE.KDictDisplayH
import KE.KDictCopyH
import KE.KDictWalk
import KE.GoesEnum
import KE.GoesMore
import KE.GoesZip
import PySem.Challenge.RW_ledmarks_k55_whole_rows_that_mean_nothin
import HandS.HeadHook1
import HandS.ClsMeth
import HandS.Set
import HandS.SortOrd
import KE.KSortTupAny
import HandS.TryOnly
import KE.DataEq
import HandS.HeadHook2
import HandS.HeadHook3
import HandS.HeadNt
import HandS.HeadEnd
import KE.KStateDown
import HandS.Head0
import HandS.Head1
import HandS.Head2
set_option Elab.async false
set_option linter.all false
set_option maxRecDepth 100000
set_option maxHeartbeats 4000000
namespace LM
open PySem PySem.Spec PyProof.Rows L2
abbrev St := L2.St
abbrev VP := V → Hp → Prop
class Mon (R : VP) : Prop where
  mono : ∀ v H H', Same H H' → R v H → R v H'
def Is (v : V) : VP := fun u _ => u = v
instance (v : V) : Mon (Is v) := ⟨fun _ _ _ _ h => h⟩
theorem newS {H : Hp} {p : Addr} {o : HO} (h : H p = none) : Same H (upd H p o) := fun a u e => by rw [upd_ne (ne_of_none e h)]; exact e
theorem mutS {H H' : Hp} {p : Addr} {o : HO} (e : Same H H') (h : H p = none) : Same H (upd H' p o) := fun a u ha => by rw [upd_ne (ne_of_none ha h)]; exact e a u ha
theorem sq_mono {K : PySem.W.Frag} {H H' : Hp} {a : Addr} {xs : List V} (e : Same H H') (h : SqL K H a xs) : SqL K H' a xs := e.seq h
theorem st_mono {K : PySem.W.Frag} {H H' : Hp} {a : Addr} {xs : List V} (e : Same H H') (h : SqT K H a xs) : SqT K H' a xs := by
  rcases h with (h | ⟨o, h⟩) | h
  · exact .inl (.inl (e _ _ h))
  · exact .inl (.inr ⟨o, e _ _ h⟩)
  · exact .inr h
/-! ### data -/
mutual
theorem Dp.mono {K : PySem.W.Frag} {H H' : Hp} (e : Same H H') : ∀ {d : PyData} {v : V}, Dp K H v d → Dp K H' v d
  | _, _, .non => .non
  | _, _, .bl b => .bl b
  | _, _, .int i => .int i
  | _, _, .str x => .str x
  | _, _, .lst h r => .lst (sq_mono e h) (DpAll.mono e r)
  | _, _, .tup h r => .tup (st_mono e h) (DpAll.mono e r)
theorem DpAll.mono {K : PySem.W.Frag} {H H' : Hp} (e : Same H H') : ∀ {ds : List PyData} {vs : List V}, DpAll K H vs ds → DpAll K H' vs ds
  | _, _, .nil => .nil
  | _, _, .cons a r => .cons (Dp.mono e a) (DpAll.mono e r)
end
def Dn (K : PySem.W.Frag) (d : PyData) : VP := fun v H => Dp K H v d
instance (K : PySem.W.Frag) (d : PyData) : Mon (Dn K d) := ⟨fun _ _ _ e h => Dp.mono e h⟩
theorem DpAll.length {K : PySem.W.Frag} {H : Hp} : ∀ {ds : List PyData} {vs : List V}, DpAll K H vs ds → vs.length = ds.length
  | _, _, .nil => rfl
  | _, _, .cons _ r => by simp [DpAll.length r]
theorem DpAll.get {K : PySem.W.Frag} {H : Hp} : ∀ {ds : List PyData} {vs : List V} {i : Nat} {v : V}, DpAll K H vs ds → vs[i]? = some v → ∃ d, ds[i]? = some d ∧ Dp K H v d
  | _, _, _, _, .nil, h => by simp at h
  | _, _, 0, v, .cons (d := d) a r, h => by
    have e := Option.some.inj (show some _ = some v from h)
    subst e
    exact ⟨d, rfl, a⟩
  | _, _, i + 1, v, .cons a r, h => by
    obtain ⟨d, h1, h2⟩ := DpAll.get (i := i) (v := v) r (by simpa using h)
    exact ⟨d, by simpa using h1, h2⟩
theorem DpAll.at_ {K : PySem.W.Frag} {H : Hp} : ∀ {ds : List PyData} {vs : List V} {i : Nat} {d : PyData}, DpAll K H vs ds → ds[i]? = some d → ∃ v, vs[i]? = some v ∧ Dp K H v d
  | _, _, _, _, .nil, h => by simp at h
  | _, _, 0, d, .cons (v := v) a r, h => by
    have e := Option.some.inj (show some _ = some d from h)
    subst e
    exact ⟨v, rfl, a⟩
  | _, _, i + 1, d, .cons a r, h => by
    obtain ⟨v, h1, h2⟩ := DpAll.at_ (i := i) (d := d) r (by simpa using h)
    exact ⟨v, by simpa using h1, h2⟩
theorem DpAll.strs {K : PySem.W.Frag} {H : Hp} : ∀ ss : List Str, DpAll K H (ss.map V.str) (ss.map PyData.str)
  | [] => .nil
  | s :: r => .cons (.str s) (DpAll.strs r)
theorem DpAll.ofStrs {K : PySem.W.Frag} {H : Hp} : ∀ {ss : List Str} {vs : List V}, DpAll K H vs (ss.map PyData.str) → vs = ss.map V.str
  | [], _, h => by cases h; rfl
  | s :: r, _, h => by
    cases h with
    | cons a b => cases a; rw [DpAll.ofStrs b]; rfl
/-! ### the judgements -/
structure XE (X : Cx) (e : Expr) (σ : St) (H : Hp) (R : VP) : Prop where
  run : ∀ (pins : List (Addr × Obj)) (s : Shared) (H1 : Hp) (Q : VK), Same H H1 → Inv X pins σ H1 s → (∀ v H2, Same H1 H2 → R v H2 → Q v H2) → wpAny (model X.prog X.w) X.A (eval e X.env) (EP X pins σ Q) X.xe s
abbrev XV (X : Cx) (e : Expr) (σ : St) (H : Hp) (v : V) : Prop := XE X e σ H (Is v)
abbrev XD (X : Cx) (e : Expr) (σ : St) (H : Hp) (d : PyData) : Prop := XE X e σ H (Dn X.K d)
def sE (X : Cx) (e : Expr) : TE := fun σ H Q => ∀ (pins : List (Addr × Obj)) (s : Shared), Inv X pins σ H s → wpAny (model X.prog X.w) X.A (eval e X.env) (EP X pins σ Q) X.xe s
section
variable {X : Cx} {e a b c : Expr} {σ : St} {H H' H1 : Hp} {R R' Ra Rb : VP} {v x y : V} {pos : Pos}
theorem pe_s : PE X e (sE X e) := ⟨fun pins s σ H Q I h => h pins s I⟩
theorem XE.s {Q : VK} (h : XE X e σ H R) (hs : Same H H1) (k : ∀ v H2, Same H1 H2 → R v H2 → Q v H2) : sE X e σ H1 Q := fun pins s I => h.run pins s H1 Q hs I k
theorem XE.of {t : TE} (h : PE X e t) (q : ∀ H1, Same H H1 → ∀ Q : VK, (∀ v H2, Same H1 H2 → R v H2 → Q v H2) → t σ H1 Q) : XE X e σ H R := ⟨fun pins s H1 Q e1 I k => h.run pins s σ H1 Q I (q H1 e1 Q k)⟩
theorem XE.mono (h : XE X e σ H R) (hs : Same H H') : XE X e σ H' R := ⟨fun pins s H1 Q e1 I k => h.run pins s H1 Q (hs.trans e1) I k⟩
theorem XE.imp (h : XE X e σ H R) (hr : ∀ v H2, Same H H2 → R v H2 → R' v H2) : XE X e σ H R' := ⟨fun pins s H1 Q e1 I k => h.run pins s H1 Q e1 I fun v H2 e2 r => k v H2 e2 (hr v H2 (e1.trans e2) r)⟩
theorem XE.is (h : XV X e σ H v) (hr : ∀ H2, Same H H2 → R v H2) : XE X e σ H R := h.imp fun u H2 e2 q => by cases q; exact hr H2 e2
theorem XE.cast (h : XV X e σ H v) (q : v = x) : XV X e σ H x := q ▸ h
theorem XE.toD {d : PyData} (h : XV X e σ H v) (hd : Dp X.K H v d) : XD X e σ H d := h.is fun H2 e2 => Dp.mono e2 hd
theorem XD.str {z : Str} (h : XD X e σ H (.str z)) : XV X e σ H (.str z) := h.imp fun v H2 _ q => by cases q; rfl
theorem XD.bl {z : Bool} (h : XD X e σ H (.bool z)) : XV X e σ H (.bl z) := h.imp fun v H2 _ q => by cases q; rfl
/-! leaves -/
theorem xe_var (i : Nat) {x : Str} (hv : σ[i]? = some (some v)) (hN : X.N[i]? = some x := by rfl) (hs : Vis X.env.scope x := by first | exact Or.inl rfl | exact Or.inr (Or.inl rfl) | exact Or.inr (Or.inr rfl)) (hd : (x == ("__debug__" : Str)) = false := by decide)
    (hcd : (x == ("__classdict__" : Str)) = false := by decide) : XV X (.Name x pos) σ H v := XE.of (pe_var hN hs hd hcd) fun H1 _ Q k => ⟨v, hv, k v H1 (Same.refl _) rfl⟩
theorem xe_int {i : Int} {j} : XV X (.Constant (.int i) j pos) σ H (.int i) := XE.of pe_int fun H1 _ Q k => k _ H1 (Same.refl _) rfl
theorem xe_bl {i : Bool} {j} : XV X (.Constant (.bool i) j pos) σ H (.bl i) := XE.of pe_bl fun H1 _ Q k => k _ H1 (Same.refl _) rfl
theorem xe_non {j} : XV X (.Constant .none j pos) σ H .non := XE.of pe_non fun H1 _ Q k => k _ H1 (Same.refl _) rfl
theorem xe_str {i : Str} {j} : XV X (.Constant (.str i) j pos) σ H (.str i) := XE.of pe_str fun H1 _ Q k => k _ H1 (Same.refl _) rfl
theorem xe_glob {x : Str} {u : Value} (hm : X.mg x = some u) (r : RelV v u) (hg : Gl X x := by rfl) (hd : (x == ("__debug__" : Str)) = false := by decide) : XV X (.Name x pos) σ H v := XE.of (pe_glob hg hm r hd) fun H1 _ Q k => k _ H1 (Same.refl _) rfl
/-! operators -/
/-- what an operation on values gives -/
def RV (r : R2) (x y : V) (H : Hp) (R : VP) : Prop := ∀ H1, Same H H1 → ∀ Q : VK, (∀ v H2, Same H1 H2 → R v H2 → Q v H2) → r x y H1 Q
def RC (r : List V → Hp → VK → Prop) (vs : List V) (H : Hp) (R : VP) : Prop := ∀ H1, Same H H1 → ∀ Q : VK, (∀ v H2, Same H1 H2 → R v H2 → Q v H2) → r vs H1 Q
theorem xe_op {op : Operator} {r : R2} (ho : OpR X (binaryOp op) r) (ha : XV X a σ H x) (hb : XV X b σ H y) (hr : RV r x y H R) : XE X (.BinOp a op b pos) σ H R :=
  XE.of (pe_op ho pe_s pe_s) fun H1 e Q k => ha.s e fun v H2 e2 q => by
    cases q
    exact hb.s (e.trans e2) fun u H3 e3 q => by
      cases q
      exact hr H3 ((e.trans e2).trans e3) Q fun v H4 e4 q => k v H4 ((e2.trans e3).trans e4) q
theorem xe_cmp {op : CmpOp} {r : R2} (ho : OpR X (compareOp op) r) (ha : XV X a σ H x) (hb : XV X b σ H y) (hr : RV r x y H R) (hm : behindInMarks op b = false) : XE X (.Compare a [op] [b] pos) σ H R :=
  XE.of (pe_cmpR ho pe_s pe_s hm) fun H1 e Q k => ha.s e fun v H2 e2 q => by
    cases q
    exact hb.s (e.trans e2) fun u H3 e3 q => by
      cases q
      exact hr H3 ((e.trans e2).trans e3) Q fun v H4 e4 q => k v H4 ((e2.trans e3).trans e4) q
/-- operands told by relations -/
theorem xe_cmpR [Mon Ra] {op : CmpOp} {r : R2} (ho : OpR X (compareOp op) r) (ha : XE X a σ H Ra) (hb : XE X b σ H Rb) (hr : ∀ x y H1, Same H H1 → Ra x H1 → Rb y H1 → RV r x y H1 R) (hm : behindInMarks op b = false) : XE X (.Compare a [op] [b] pos) σ H R :=
  XE.of (pe_cmpR ho pe_s pe_s hm) fun H1 e Q k => ha.s e fun v H2 e2 q => hb.s (e.trans e2) fun u H3 e3 q' =>
    hr v u H3 ((e.trans e2).trans e3) (Mon.mono v _ _ e3 q) q' H3 (Same.refl _) Q fun v H4 e4 q => k v H4 ((e2.trans e3).trans e4) q
theorem xe_opR [Mon Ra] {op : Operator} {r : R2} (ho : OpR X (binaryOp op) r) (ha : XE X a σ H Ra) (hb : XE X b σ H Rb) (hr : ∀ x y H1, Same H H1 → Ra x H1 → Rb y H1 → RV r x y H1 R) : XE X (.BinOp a op b pos) σ H R :=
  XE.of (pe_op ho pe_s pe_s) fun H1 e Q k => ha.s e fun v H2 e2 q => hb.s (e.trans e2) fun u H3 e3 q' =>
    hr v u H3 ((e.trans e2).trans e3) (Mon.mono v _ _ e3 q) q' H3 (Same.refl _) Q fun v H4 e4 q => k v H4 ((e2.trans e3).trans e4) q
theorem rv_I0 {g : Int → Int → V} {i j : Int} : RV (rI0 g) (.int i) (.int j) H (Is (g i j)) := fun H1 _ _ k => ⟨i, j, rfl, rfl, k _ H1 (Same.refl _) rfl⟩
theorem rv_I {C : Int → Int → Prop} {g : Int → Int → V} {i j : Int} (hc : C i j) : RV (rI C g) (.int i) (.int j) H (Is (g i j)) := fun H1 _ _ k => ⟨i, j, rfl, rfl, hc, k _ H1 (Same.refl _) rfl⟩
theorem rv_eq (h : scal x y = true) : RV rEq x y H (Is (.bl (decide (x = y)))) := fun H1 _ _ k => ⟨h, k _ H1 (Same.refl _) rfl⟩
theorem rv_ne (h : scal x y = true) : RV rNe x y H (Is (.bl (!decide (x = y)))) := fun H1 _ _ k => ⟨h, k _ H1 (Same.refl _) rfl⟩
theorem rv_in {K : PySem.W.Frag} {p : Addr} {xs : List V} (h : SqL K H p xs ∨ SqT K H p xs) (hx : flatV x = true) (ha : xs.all flatV = true) : RV (rIn K false) x (.ref p) H (Is (.bl (inV x xs))) := fun H1 e _ k => ⟨p, xs, rfl, h.imp (sq_mono e) (st_mono e), hx, ha, k _ H1 (Same.refl _) rfl⟩
theorem rv_nin {K : PySem.W.Frag} {p : Addr} {xs : List V} (h : SqL K H p xs ∨ SqT K H p xs) (hx : flatV x = true) (ha : xs.all flatV = true) : RV (rIn K true) x (.ref p) H (Is (.bl (!inV x xs))) := fun H1 e _ k => ⟨p, xs, rfl, h.imp (sq_mono e) (st_mono e), hx, ha, k _ H1 (Same.refl _) rfl⟩
/-- is None, is not None -/
theorem xe_isN {j pos'} (ha : XV X a σ H x) : XV X (.Compare a [.Is] [.Constant .none j pos'] pos) σ H (.bl (decide (x = .non))) :=
  XE.of (pe_cmp (pc_isN pe_s)) fun H1 e Q k => ha.s e fun v H2 e2 q => by cases q; exact k _ H2 e2 rfl
theorem xe_notN {j pos'} (ha : XV X a σ H x) : XV X (.Compare a [.IsNot] [.Constant .none j pos'] pos) σ H (.bl (!decide (x = .non))) :=
  XE.of (pe_cmp (pc_notN pe_s)) fun H1 e Q k => ha.s e fun v H2 e2 q => by cases q; exact k _ H2 e2 rfl
theorem xe_isNR {j pos'} {k0 : Bool} (ha : XE X a σ H Ra) (hk : ∀ x H1, Ra x H1 → decide (x = .non) = k0) : XV X (.Compare a [.Is] [.Constant .none j pos'] pos) σ H (.bl k0) :=
  XE.of (pe_cmp (pc_isN pe_s)) fun H1 e Q k => ha.s e fun v H2 e2 q => by rw [hk v H2 q]; exact k _ H2 e2 rfl
theorem xe_notNR {j pos'} {k0 : Bool} (ha : XE X a σ H Ra) (hk : ∀ x H1, Ra x H1 → decide (x = .non) = k0) : XV X (.Compare a [.IsNot] [.Constant .none j pos'] pos) σ H (.bl (!k0)) :=
  XE.of (pe_cmp (pc_notN pe_s)) fun H1 e Q k => ha.s e fun v H2 e2 q => by rw [hk v H2 q]; exact k _ H2 e2 rfl
/-! fields, items -/
theorem xe_fld {C dx p : Addr} {fs : List (Str × V)} {f : Str} (he : XV X e σ H (.ref p)) (hi : H p = some (.ins C dx fs)) (hc : Cls X.K C) (hn : NoAttr X.K C f) (hf : fs.lookup f = some v)
    (hb : attributeBase e f X.env (eval e X.env) = eval e X.env := by rfl) : XV X (.Attribute e f pos) σ H v :=
  XE.of (pe_fld pe_s hb) fun H1 s1 Q k => he.s s1 fun u H2 e2 q => by
    cases q
    exact ⟨p, C, dx, fs, v, rfl, (s1.trans e2) _ _ hi, hc, hn, hf, k _ H2 e2 rfl⟩
theorem xe_ixL {p : Addr} {xs : List V} {i : Int} (ha : XV X a σ H (.ref p)) (hb : XV X b σ H (.int i)) (h : SqL X.K H p xs) (hv : atI xs i = some v) (hs : PlainIx b := by exact fun _ _ => rfl) : XV X (.Subscript a b pos) σ H v :=
  XE.of (pe_ix ix_list pe_s pe_s hs) fun H1 s1 Q k => ha.s s1 fun u H2 e2 q => by
    cases q
    exact hb.s (s1.trans e2) fun u H3 e3 q => by
      cases q
      exact ⟨p, xs, i, v, rfl, rfl, sq_mono ((s1.trans e2).trans e3) h, hv, k _ H3 (e2.trans e3) rfl⟩
theorem xe_ixT {p : Addr} {xs : List V} {i : Int} (ha : XV X a σ H (.ref p)) (hb : XV X b σ H (.int i)) (h : SqT X.K H p xs) (hv : atI xs i = some v) (hs : PlainIx b := by exact fun _ _ => rfl) : XV X (.Subscript a b pos) σ H v :=
  XE.of (pe_ix ix_tup pe_s pe_s hs) fun H1 s1 Q k => ha.s s1 fun u H2 e2 q => by
    cases q
    exact hb.s (s1.trans e2) fun u H3 e3 q => by
      cases q
      exact ⟨p, xs, i, v, rfl, rfl, st_mono ((s1.trans e2).trans e3) h, hv, k _ H3 (e2.trans e3) rfl⟩
end
/-! ### arguments -/
def AllR : List VP → List V → Hp → Prop
  | [], [], _ => True
  | R :: Rs, v :: vs, H => R v H ∧ AllR Rs vs H
  | _, _, _ => False
theorem AllR.length : ∀ {Rs : List VP} {vs : List V} {H : Hp}, AllR Rs vs H → vs.length = Rs.length
  | [], [], _, _ => rfl
  | _ :: Rs, _ :: vs, H, h => by
    have := AllR.length (Rs := Rs) (vs := vs) (H := H) h.2
    simp [this]
  | [], _ :: _, _, h => h.elim
  | _ :: _, [], _, h => h.elim
theorem AllR.append : ∀ {Rs Rs' : List VP} {vs vs' : List V} {H : Hp}, AllR Rs vs H → AllR Rs' vs' H → AllR (Rs ++ Rs') (vs ++ vs') H
  | [], _, [], _, _, _, h => h
  | _ :: Rs, _, _ :: vs, _, _, h, h' => ⟨h.1, AllR.append h.2 h'⟩
  | [], _, _ :: _, _, _, h, _ => h.elim
  | _ :: _, _, [], _, _, h, _ => h.elim
theorem allR_data {K : PySem.W.Frag} {H : Hp} : ∀ {ds : List PyData} {vs : List V}, AllR (ds.map (Dn K)) vs H → DpAll K H vs ds
  | [], [], _ => .nil
  | _ :: _, _ :: _, h => .cons h.1 (allR_data h.2)
  | [], _ :: _, h => h.elim
  | _ :: _, [], h => h.elim
theorem allR_is {H : Hp} : ∀ {xs vs : List V}, AllR (xs.map Is) vs H → vs = xs
  | [], [], _ => rfl
  | x :: xs, v :: vs, h => by
    have h1 : v = x := h.1
    rw [h1, allR_is (xs := xs) (vs := vs) h.2]
  | [], _ :: _, h => h.elim
  | _ :: _, [], h => h.elim
theorem allR_isOf {H : Hp} : ∀ (xs : List V), AllR (xs.map Is) xs H
  | [] => trivial
  | x :: xs => ⟨rfl, allR_isOf xs⟩
inductive MonL : List VP → Prop
  | nil : MonL []
  | cons {R Rs} : Mon R → MonL Rs → MonL (R :: Rs)
theorem AllR.mono : ∀ {Rs : List VP} {vs : List V} {H H' : Hp}, MonL Rs → Same H H' → AllR Rs vs H → AllR Rs vs H'
  | [], [], _, _, _, _, h => h
  | R :: Rs, v :: vs, H, H', m, e, h => by
    cases m with
    | cons m1 m2 => exact ⟨m1.mono v H H' e h.1, AllR.mono m2 e h.2⟩
  | [], _ :: _, _, _, _, _, h => h.elim
  | _ :: _, [], _, _, _, _, h => h.elim
structure XA (X : Cx) (es : List Expr) (σ : St) (H : Hp) (Rs : List VP) : Prop where
  mon : MonL Rs
  run : ∀ (pos : Pos) (pins : List (Addr × Obj)) (s : Shared) (H1 : Hp) (Q : List V → Hp → Prop), Same H H1 → Inv X pins σ H1 s → (∀ vs H2, Same H1 H2 → AllR Rs vs H2 → Q vs H2) → wpAny (model X.prog X.w) X.A (spliced (backTo pos (starEach es X.env))) (AP X pins σ Q) X.xe s
def sA (X : Cx) (es : List Expr) : TA := fun σ H Q => ∀ (pos : Pos) (pins : List (Addr × Obj)) (s : Shared), Inv X pins σ H s → wpAny (model X.prog X.w) X.A (spliced (backTo pos (starEach es X.env))) (AP X pins σ Q) X.xe s
section
variable {X : Cx} {e : Expr} {es : List Expr} {σ : St} {H H1 : Hp} {R : VP} {Rs Rs' : List VP} {pos : Pos}
theorem pa_s : PA X es (sA X es) := ⟨fun pos pins s σ H Q I h => h pos pins s I⟩
theorem XA.s {Q : List V → Hp → Prop} (h : XA X es σ H Rs) (hs : Same H H1) (k : ∀ vs H2, Same H1 H2 → AllR Rs vs H2 → Q vs H2) : sA X es σ H1 Q := fun pos pins s I => h.run pos pins s H1 Q hs I k
theorem XA.of {t : TA} (h : PA X es t) (m : MonL Rs) (q : ∀ H1, Same H H1 → ∀ Q : List V → Hp → Prop, (∀ vs H2, Same H1 H2 → AllR Rs vs H2 → Q vs H2) → t σ H1 Q) : XA X es σ H Rs := ⟨m, fun pos pins s H1 Q e1 I k => h.run pos pins s σ H1 Q I (q H1 e1 Q k)⟩
theorem xa_nil : XA X [] σ H [] := XA.of pa_nil .nil fun H1 _ Q k => k [] H1 (Same.refl _) trivial
theorem xa_cons [m : Mon R] (h : XE X e σ H R) (hr : XA X es σ H Rs) (hs : starEach (e :: es) X.env = (false, eval e X.env) :: starEach es X.env := by rfl) : XA X (e :: es) σ H (R :: Rs) :=
  XA.of (pa_cons pe_s pa_s hs) (.cons m hr.mon) fun H1 s1 Q k => h.s s1 fun v H2 e2 q => hr.s (s1.trans e2) fun vs H3 e3 q' => k (v :: vs) H3 (e2.trans e3) ⟨m.mono v H2 H3 e3 q, q'⟩
/-- a starred list or tuple -/
def SeqR (K : PySem.W.Frag) (Rs : List VP) : VP := fun v H => ∃ a xs, v = .ref a ∧ (SqT K H a xs ∨ SqL K H a xs) ∧ AllR Rs xs H
theorem xa_star {p} (m : MonL Rs') (h : XE X e σ H (SeqR X.K Rs')) (hr : XA X es σ H Rs) (hs : starEach (.Starred e p :: es) X.env = (true, eval e X.env) :: starEach es X.env := by rfl) : XA X (.Starred e p :: es) σ H (Rs' ++ Rs) :=
  XA.of (StX.pa_star pe_s pa_s hs) (by
    clear h hs
    induction m with
    | nil => exact hr.mon
    | cons m1 _ ih => exact .cons m1 ih) fun H1 s1 Q k => h.s s1 fun v H2 e2 ⟨a, xs, hv, hq, hx⟩ => ⟨a, xs, hv, hq, hr.s (s1.trans e2) fun vs H3 e3 q' => k (xs ++ vs) H3 (e2.trans e3) ((AllR.mono m e3 hx).append q')⟩
theorem monL_is : ∀ xs : List V, MonL (xs.map Is)
  | [] => .nil
  | x :: xs => .cons inferInstance (monL_is xs)
theorem monL_dn {K : PySem.W.Frag} : ∀ ds : List PyData, MonL (ds.map (Dn K))
  | [] => .nil
  | x :: xs => .cons inferInstance (monL_dn xs)
/-- new tuples, lists -/
def TupR (Rs : List VP) : VP := fun v H => ∃ a xs, v = .ref a ∧ H a = some (.tup xs) ∧ AllR Rs xs H
def LstR (Rs : List VP) : VP := fun v H => ∃ a xs, v = .ref a ∧ H a = some (.lst xs) ∧ AllR Rs xs H
theorem sz_of {n : Nat} (h : n ≤ 1000000) : n ≤ sizeLine := Nat.le_trans h (by decide)
theorem sz_lt {n : Nat} (h : n < 1000000) : n < sizeLine := Nat.lt_of_lt_of_le h (by decide)
theorem xe_tup {k : Nat} (h : XA X es σ H Rs) (hl : Rs.length ≤ 1000000) : XE X (.Tuple es k pos) σ H (TupR Rs) :=
  XE.of (pe_tup pa_s) fun H1 s1 Q k => h.s s1 fun vs H2 e2 q => ⟨by rw [q.length]; exact sz_of hl, fun p hp => k (.ref p) _ (e2.trans (newS hp)) ⟨p, vs, rfl, upd_same, AllR.mono h.mon (newS hp) q⟩⟩
theorem xe_lst (h : XA X es σ H Rs) (hl : Rs.length ≤ 1000000) : XE X (.List es pos) σ H (LstR Rs) :=
  XE.of (pe_lst pa_s) fun H1 s1 Q k => h.s s1 fun vs H2 e2 q => ⟨by rw [q.length]; exact sz_of hl, fun p hp => k (.ref p) _ (e2.trans (newS hp)) ⟨p, vs, rfl, upd_same, AllR.mono h.mon (newS hp) q⟩⟩
/-- the same, as data -/
theorem xd_tup {k : Nat} {ds : List PyData} (h : XA X es σ H (ds.map (Dn X.K))) (hl : ds.length ≤ 1000000) : XD X (.Tuple es k pos) σ H (.tuple ds) :=
  (xe_tup h (by simpa using hl)).imp fun v H2 _ ⟨a, xs, hv, ha, hr⟩ => by subst hv; exact .tup (SqT.of ha) (allR_data hr)
theorem xd_lst {ds : List PyData} (h : XA X es σ H (ds.map (Dn X.K))) (hl : ds.length ≤ 1000000) : XD X (.List es pos) σ H (.list ds) :=
  (xe_lst h (by simpa using hl)).imp fun v H2 _ ⟨a, xs, hv, ha, hr⟩ => by subst hv; exact .lst (SqL.of ha) (allR_data hr)
end
/-! ### tests -/
structure XT (X : Cx) (e : Expr) (σ : St) (H : Hp) (b : Bool) : Prop where
  run : ∀ (pins : List (Addr × Obj)) (s : Shared) (H1 : Hp) (Q : Bool → Hp → Prop), Same H H1 → Inv X pins σ H1 s → (∀ H2, Same H1 H2 → Q b H2) → wpAny (model X.prog X.w) X.A (isTrue e X.env (eval e X.env)) (TP X pins σ Q) X.xe s
structure XW (X : Cx) (e : Expr) (σ : St) (H : Hp) (b : Bool) : Prop where
  run : ∀ (whole : Sem Value) (pins : List (Addr × Obj)) (s : Shared) (H1 : Hp) (Q : Bool → Hp → Prop), Same H H1 → Inv X pins σ H1 s → (∀ H2, Same H1 H2 → Q b H2) → wpAny (model X.prog X.w) X.A (isTrue e X.env whole) (TP X pins σ Q) X.xe s
def sT (X : Cx) (e : Expr) : TT := fun σ H Q => ∀ (pins : List (Addr × Obj)) (s : Shared), Inv X pins σ H s → wpAny (model X.prog X.w) X.A (isTrue e X.env (eval e X.env)) (TP X pins σ Q) X.xe s
def sW (X : Cx) (e : Expr) : TT := fun σ H Q => ∀ (whole : Sem Value) (pins : List (Addr × Obj)) (s : Shared), Inv X pins σ H s → wpAny (model X.prog X.w) X.A (isTrue e X.env whole) (TP X pins σ Q) X.xe s
section
variable {X : Cx} {e a b : Expr} {rest : List Expr} {σ : St} {H H1 : Hp} {R : VP} {p q : Bool} {pos : Pos}
theorem pt_s : PT X e (sT X e) := ⟨fun pins s σ H Q I h => h pins s I⟩
theorem pw_s : PW X e (sW X e) := ⟨fun wh pins s σ H Q I h => h wh pins s I⟩
theorem XT.s {Q : Bool → Hp → Prop} (h : XT X e σ H p) (hs : Same H H1) (k : ∀ H2, Same H1 H2 → Q p H2) : sT X e σ H1 Q := fun pins s I => h.run pins s H1 Q hs I k
theorem XT.of {t : TT} (h : PT X e t) (q : ∀ H1, Same H H1 → ∀ Q : Bool → Hp → Prop, (∀ H2, Same H1 H2 → Q p H2) → t σ H1 Q) : XT X e σ H p := ⟨fun pins s H1 Q e1 I k => h.run pins s σ H1 Q I (q H1 e1 Q k)⟩
theorem XW.s {Q : Bool → Hp → Prop} (h : XW X e σ H p) (hs : Same H H1) (k : ∀ H2, Same H1 H2 → Q p H2) : sW X e σ H1 Q := fun wh pins s I => h.run wh pins s H1 Q hs I k
theorem XW.of {t : TT} (h : PW X e t) (q : ∀ H1, Same H H1 → ∀ Q : Bool → Hp → Prop, (∀ H2, Same H1 H2 → Q p H2) → t σ H1 Q) : XW X e σ H p := ⟨fun wh pins s H1 Q e1 I k => h.run wh pins s σ H1 Q I (q H1 e1 Q k)⟩
theorem XW.t (h : XW X e σ H p) : XT X e σ H p := ⟨fun pins s H1 Q e1 I k => h.run _ pins s H1 Q e1 I k⟩
theorem XT.cast (h : XT X e σ H p) (e' : p = q) : XT X e σ H q := e' ▸ h
theorem XT.mono {H' : Hp} (h : XT X e σ H p) (hs : Same H H') : XT X e σ H' p := ⟨fun pins s H1 Q e1 I k => h.run pins s H1 Q (hs.trans e1) I k⟩
theorem xt_val (h : XV X e σ H (.bl p)) (he : ∀ whole, isTrue e X.env whole = (do let v ← whole; standAt e.pos; holding [v] (truthy v)) := by intro _; rfl) : XT X e σ H p :=
  XT.of (pt_val pe_s he) fun H1 e1 Q k => h.s e1 fun v H2 e2 q => by cases q; exact ⟨p, rfl, k H2 e2⟩
theorem xt_cmp {op : CmpOp} {r : R2} {x y : V} (ho : OpR X (compareOp op) r) (ha : XV X a σ H x) (hb : XV X b σ H y) (hr : RV r x y H (Is (.bl p))) (hm : behindInMarks op b = false) : XT X (.Compare a [op] [b] pos) σ H p :=
  XT.of (pt_cmpR ho pe_s pe_s hm) fun H1 e Q k => ha.s e fun v H2 e2 q => by
    cases q
    exact hb.s (e.trans e2) fun u H3 e3 q => by
      cases q
      exact hr H3 ((e.trans e2).trans e3) _ fun v H4 e4 q => by cases q; exact ⟨p, rfl, k H4 ((e2.trans e3).trans e4)⟩
theorem xt_cmpR {Ra Rb : VP} [Mon Ra] {op : CmpOp} {r : R2} (ho : OpR X (compareOp op) r) (ha : XE X a σ H Ra) (hb : XE X b σ H Rb) (hr : ∀ x y H1, Same H H1 → Ra x H1 → Rb y H1 → RV r x y H1 (Is (.bl p))) (hm : behindInMarks op b = false) : XT X (.Compare a [op] [b] pos) σ H p :=
  XT.of (pt_cmpR ho pe_s pe_s hm) fun H1 e Q k => ha.s e fun v H2 e2 q => hb.s (e.trans e2) fun u H3 e3 q' =>
    hr v u H3 ((e.trans e2).trans e3) (Mon.mono v _ _ e3 q) q' H3 (Same.refl _) _ fun v H4 e4 q => by cases q; exact ⟨p, rfl, k H4 ((e2.trans e3).trans e4)⟩
theorem xt_isN {j pos'} {x : V} (ha : XV X a σ H x) : XT X (.Compare a [.Is] [.Constant .none j pos'] pos) σ H (decide (x = .non)) :=
  XT.of (pt_cmp (pc_isN pe_s)) fun H1 e Q k => ha.s e fun v H2 e2 q => by cases q; exact ⟨_, rfl, k H2 e2⟩
theorem xt_notN {j pos'} {x : V} (ha : XV X a σ H x) : XT X (.Compare a [.IsNot] [.Constant .none j pos'] pos) σ H (!decide (x = .non)) :=
  XT.of (pt_cmp (pc_notN pe_s)) fun H1 e Q k => ha.s e fun v H2 e2 q => by cases q; exact ⟨_, rfl, k H2 e2⟩
theorem xt_isNR {j pos'} {k0 : Bool} {Ra : VP} (ha : XE X a σ H Ra) (hk : ∀ x H1, Ra x H1 → decide (x = .non) = k0) : XT X (.Compare a [.Is] [.Constant .none j pos'] pos) σ H k0 :=
  XT.of (pt_cmp (pc_isN pe_s)) fun H1 e Q k => ha.s e fun v H2 e2 q => ⟨_, rfl, by rw [hk v H2 q]; exact k H2 e2⟩
theorem xt_notNR {j pos'} {k0 : Bool} {Ra : VP} (ha : XE X a σ H Ra) (hk : ∀ x H1, Ra x H1 → decide (x = .non) = k0) : XT X (.Compare a [.IsNot] [.Constant .none j pos'] pos) σ H (!k0) :=
  XT.of (pt_cmp (pc_notN pe_s)) fun H1 e Q k => ha.s e fun v H2 e2 q => ⟨_, rfl, by rw [hk v H2 q]; exact k H2 e2⟩
theorem xt_not (h : XT X a σ H p) : XT X (.UnaryOp .Not a pos) σ H (!p) := XT.of (pt_not pt_s) fun H1 e1 Q k => h.s e1 fun H2 e2 => k H2 e2
theorem xw_and1 (h : XT X a σ H p) : XW X (.BoolOp .And [a] pos) σ H p := XW.of (pw_and1 pt_s) fun H1 e1 Q k => h.s e1 fun H2 e2 => k H2 e2
theorem xw_or1 (h : XT X a σ H p) : XW X (.BoolOp .Or [a] pos) σ H p := XW.of (pw_or1 pt_s) fun H1 e1 Q k => h.s e1 fun H2 e2 => k H2 e2
theorem xw_and (h : XT X a σ H p) (h2 : p = true → XW X (.BoolOp .And (b :: rest) pos) σ H q) : XW X (.BoolOp .And (a :: b :: rest) pos) σ H (p && q) := XW.of (pw_and pt_s pw_s) fun H1 e1 Q k => h.s e1 fun H2 e2 => by
  cases p with
  | true => exact iteT ((h2 rfl).s (e1.trans e2) fun H3 e3 => k H3 (e2.trans e3))
  | false => exact iteF (k H2 e2)
theorem xw_or (h : XT X a σ H p) (h2 : p = false → XW X (.BoolOp .Or (b :: rest) pos) σ H q) : XW X (.BoolOp .Or (a :: b :: rest) pos) σ H (p || q) := XW.of (pw_or pt_s pw_s) fun H1 e1 Q k => h.s e1 fun H2 e2 => by
  cases p with
  | true => exact iteT (k H2 e2)
  | false => exact iteF ((h2 rfl).s (e1.trans e2) fun H3 e3 => k H3 (e2.trans e3))
/-- as values -/
theorem xe_and1 {op} (h : XE X a σ H R) : XE X (.BoolOp op [a] pos) σ H R := XE.of (pe_one pe_s) fun H1 e1 Q k => h.s e1 fun v H2 e2 q => k v H2 e2 q
theorem xe_and (h : XV X a σ H (.bl p)) (h2 : p = true → XV X (.BoolOp .And (b :: rest) pos) σ H (.bl q)) : XV X (.BoolOp .And (a :: b :: rest) pos) σ H (.bl (p && q)) :=
  XE.of (pe_and pe_s pe_s) fun H1 e1 Q k => h.s e1 fun v H2 e2 q' => by
    cases q'
    refine ⟨p, rfl, ?_⟩
    cases p with
    | true => exact iteT ((h2 rfl).s (e1.trans e2) fun v H3 e3 q => k v H3 (e2.trans e3) q)
    | false => exact iteF (k _ H2 e2 rfl)
theorem xe_or (h : XV X a σ H (.bl p)) (h2 : p = false → XV X (.BoolOp .Or (b :: rest) pos) σ H (.bl q)) : XV X (.BoolOp .Or (a :: b :: rest) pos) σ H (.bl (p || q)) :=
  XE.of (pe_or pe_s pe_s) fun H1 e1 Q k => h.s e1 fun v H2 e2 q' => by
    cases q'
    refine ⟨p, rfl, ?_⟩
    cases p with
    | true => exact iteT (k _ H2 e2 rfl)
    | false => exact iteF ((h2 rfl).s (e1.trans e2) fun v H3 e3 q => k v H3 (e2.trans e3) q)
theorem xe_not (h : XV X a σ H (.bl p)) : XV X (.UnaryOp .Not a pos) σ H (.bl (!p)) := XE.of (pe_not pe_s) fun H1 e1 Q k => h.s e1 fun v H2 e2 q => by cases q; exact ⟨p, rfl, k _ H2 e2 rfl⟩
theorem xe_if {c : Expr} (h : XT X c σ H p) (h1 : p = true → XE X a σ H R) (h2 : p = false → XE X b σ H R) : XE X (.IfExp c a b pos) σ H R := XE.of (pe_ifExp pt_s pe_s pe_s) fun H1 e1 Q k => h.s e1 fun H2 e2 => by
  cases p with
  | true => exact iteT ((h1 rfl).s (e1.trans e2) fun v H3 e3 q => k v H3 (e2.trans e3) q)
  | false => exact iteF ((h2 rfl).s (e1.trans e2) fun v H3 e3 q => k v H3 (e2.trans e3) q)
end
/-! ### calls -/
structure Wd where
  P : Program
  w : World
  K : PySem.W.Frag
  mg : Str → Option Value
  base : Heap
abbrev wd (X : Cx) : Wd := ⟨X.prog, X.w, X.K, X.mg, X.base⟩
abbrev FnW (W : Wd) (k : Nat) (f : Addr) (fd : FuncData) (ps : List Str) (sp : Sp) : Prop := FnOk W.P W.w W.K W.mg W.base L2.CX0 k f fd ps sp
/-- a def that may be called by its name -/
structure Cal (W : Wd) (k : Nat) (x : Str) (sp : Sp) : Prop where
  ex : ∃ (f : Addr) (fd : FuncData) (ps : List Str), FnW W k f fd ps sp ∧ W.mg x = some (.ref f) ∧ PySem.W.keepIn W.K (.ref f) = true ∧ Binds W.K fd ps []
structure Met (W : Wd) (k : Nat) (C : Addr) (m : Str) (sp : Sp) : Prop where
  ex : ∃ (f : Addr) (fd : FuncData) (ps : List Str), Cls W.K C ∧ Meth W.K C m f ∧ FnW W k f fd ps sp ∧ Binds W.K fd ps []
structure Mak (W : Wd) (k : Nat) (x : Str) (C : Addr) (sp : Sp) : Prop where
  ex : ∃ (f : Addr) (fd : FuncData) (ps : List Str), Mk W.K C f ∧ FnW W k f fd ps sp ∧ W.mg x = some (.ref C) ∧ Binds W.K fd ps []
/-- a def that changes nothing that was there -/
def Pure (pre : List V → Hp → VP → Prop) : Sp := fun vs H Q _ => ∃ R, pre vs H R ∧ ∀ v H', Same H H' → R v H' → Q v H'
/-- an __init__: G what was known ahead of the instance -/
def Init (C : Addr) (pre : List V → Hp → (List (Str × V) → Hp → Prop) → Prop) : Sp := fun vs H Q _ => ∃ x dx as G F, vs = .ref x :: as ∧ G x = none ∧ Same G H ∧ H x = some (.ins C dx []) ∧ pre as G F ∧ ∀ H' fs, Same G H' → H' x = some (.ins C dx fs) → F fs H' → Q .non H'
section
variable {X : Cx} {k j : Nat} {x m : Str} {e o : Expr} {es : List Expr} {σ : St} {H : Hp} {R : VP} {Rs : List VP} {p pos apos : Pos} {C : Addr} {pre : List V → Hp → VP → Prop}
theorem xe_call (c : Cal (wd X) k x (Pure pre)) (hr : Room j X.A) (ha : XA X (e :: es) σ H Rs) (hp : ∀ vs H1, Same H H1 → AllR Rs vs H1 → pre vs H1 R) (hk : k ≤ j := by decide) (hg : Gl X x := by rfl)
    (hdb : (x == ("__debug__" : Str)) = false := by decide) (he : starEach (e :: es) X.env = (false, eval e X.env) :: starEach es X.env := by rfl) (hpl : (backTo pos (starEach es X.env)).any (·.1) = false := by rfl) : XE X (.Call (.Name x p) (e :: es) [] pos) σ H R := by
  obtain ⟨f, fd, ps, F, hm, kp, b⟩ := c.ex
  exact XE.of (pe_call F (hr.mono hk) hg hm kp b .nil pass0 pa_s hdb he hpl) fun H1 e1 Q k => ha.s e1 fun vs H2 e2 q => ⟨R, by rw [List.append_nil]; exact hp vs H2 (e1.trans e2) q, fun v H3 e3 r => k v H3 (e2.trans e3) r⟩
theorem xe_call0 (c : Cal (wd X) k x (Pure pre)) (hr : Room j X.A) (hp : ∀ H1, Same H H1 → pre [] H1 R) (hk : k ≤ j := by decide) (hg : Gl X x := by rfl) (hdb : (x == ("__debug__" : Str)) = false := by decide) : XE X (.Call (.Name x p) [] [] pos) σ H R := by
  obtain ⟨f, fd, ps, F, hm, kp, b⟩ := c.ex
  exact XE.of (pe_call0 F (hr.mono hk) hg hm kp b .nil pass0 hdb) fun H1 e1 Q k => ⟨R, hp H1 e1, fun v H3 e3 r => k v H3 e3 r⟩
theorem xe_meth {pl : Sem Bool} {a dx : Addr} {fs : List (Str × V)} (c : Met (wd X) k C m (Pure pre)) (hr : Room j X.A) (ho : XV X o σ H (.ref a)) (hi : H a = some (.ins C dx fs)) (hn : fs.lookup m = none) (ha : XA X (e :: es) σ H Rs)
    (hp : ∀ vs H1, Same H H1 → AllR Rs vs H1 → pre (.ref a :: vs) H1 R) (hk : k ≤ j := by decide) (hst : starEach (e :: es) X.env = (false, eval e X.env) :: starEach es X.env := by rfl) (hpl : (backTo pos (starEach es X.env)).any (·.1) = false := by rfl)
    (ht : eval (.Call (.Attribute o m apos) (e :: es) [] pos) X.env = (do
      let ov ← eval o X.env
      standAt apos.atName
      let (f, first) ← holding [ov] (getMethod ov m pl)
      callWith pos f first (backTo pos (starEach (e :: es) X.env)) (backToKw pos (keywordEach [] X.env))) := by rfl) : XE X (.Call (.Attribute o m apos) (e :: es) [] pos) σ H R := by
  obtain ⟨f, fd, ps, hc, hm, F, b⟩ := c.ex
  exact XE.of (pe_meth (pl := pl) pe_s hc hm F (hr.mono hk) b .nil pass0 pa_s hst hpl ht) fun H1 e1 Q k => ho.s e1 fun v H2 e2 q => by
    cases q
    exact ⟨a, dx, fs, rfl, (e1.trans e2) _ _ hi, hn, ha.s (e1.trans e2) fun vs H3 e3 q => ⟨R, by rw [List.append_nil]; exact hp vs H3 ((e1.trans e2).trans e3) q, fun v H4 e4 r => k v H4 ((e2.trans e3).trans e4) r⟩⟩
theorem xe_meth0 {pl : Sem Bool} {a dx : Addr} {fs : List (Str × V)} (c : Met (wd X) k C m (Pure pre)) (hr : Room j X.A) (ho : XV X o σ H (.ref a)) (hi : H a = some (.ins C dx fs)) (hn : fs.lookup m = none)
    (hp : ∀ H1, Same H H1 → pre [.ref a] H1 R) (hk : k ≤ j := by decide)
    (ht : eval (.Call (.Attribute o m apos) [] [] pos) X.env = (do
      let ov ← eval o X.env
      standAt apos.atName
      let (f, first) ← holding [ov] (getMethod ov m pl)
      callWith pos f first (backTo pos (starEach [] X.env)) (backToKw pos (keywordEach [] X.env))) := by rfl) : XE X (.Call (.Attribute o m apos) [] [] pos) σ H R := by
  obtain ⟨f, fd, ps, hc, hm, F, b⟩ := c.ex
  exact XE.of (pe_meth0 (pl := pl) pe_s hc hm F (hr.mono hk) b .nil pass0 ht) fun H1 e1 Q k => ho.s e1 fun v H2 e2 q => by
    cases q
    exact ⟨a, dx, fs, rfl, (e1.trans e2) _ _ hi, hn, R, hp H2 (e1.trans e2), fun v H4 e4 r => k v H4 (e2.trans e4) r⟩
/-- what a new instance is -/
def InsR (C : Addr) (F : List (Str × V) → Hp → Prop) : VP := fun v H => ∃ a dx fs, v = .ref a ∧ H a = some (.ins C dx fs) ∧ F fs H
theorem made_same {H : Hp} {x dx C : Addr} (nx : H x = none) (nd : H dx = none) : Same H (upd (upd H dx (.own x)) x (.ins C dx [])) := mutS (newS nd) nx
theorem xe_make {F : List (Str × V) → Hp → Prop} {ipre : List V → Hp → (List (Str × V) → Hp → Prop) → Prop} (c : Mak (wd X) k x C (Init C ipre)) (hr : Room j X.A) (ha : XA X (e :: es) σ H Rs) (hp : ∀ vs H1, Same H H1 → AllR Rs vs H1 → ipre vs H1 F)
    (hk : k + 1 ≤ j := by decide) (hg : Gl X x := by rfl)
    (hdb : (x == ("__debug__" : Str)) = false := by decide) (he : starEach (e :: es) X.env = (false, eval e X.env) :: starEach es X.env := by rfl) (hpl : (backTo pos (starEach es X.env)).any (·.1) = false := by rfl) : XE X (.Call (.Name x p) (e :: es) [] pos) σ H (InsR C F) := by
  obtain ⟨f, fd, ps, M, G, hm, b⟩ := c.ex
  exact XE.of (pe_make M G (hr.mono hk) hg hm b .nil pass0 pa_s hdb he hpl) fun H1 e1 Q k => ha.s e1 fun vs H2 e2 q => fun y dx ny nd ne =>
    ⟨y, dx, vs, H2, F, by rw [List.append_nil], ny, made_same ny nd, upd_same, hp vs H2 (e1.trans e2) q, fun H3 fs e3 h3 hf => ⟨rfl, k _ H3 (e2.trans e3) ⟨y, dx, fs, rfl, h3, hf⟩⟩⟩
/-- built-ins -/
theorem xe_callB {id : String} {r : List V → Hp → VK → Prop} (hc : CallR X (.builtin id) r) (hm : X.mg x = none) (ha : XA X (e :: es) σ H Rs) (hr : ∀ vs H1, Same H H1 → AllR Rs vs H1 → RC r vs H1 R) (hv : bootBuiltins x = some (.builtin id)) (hg : Gl X x := by rfl)
    (hn : x ≠ "__name__" := by decide) (hdb : (x == ("__debug__" : Str)) = false := by decide)
    (he : starEach (e :: es) X.env = (false, eval e X.env) :: starEach es X.env := by rfl) (hpl : (backTo pos (starEach es X.env)).any (·.1) = false := by rfl) : XE X (.Call (.Name x p) (e :: es) [] pos) σ H R :=
  XE.of (pe_callB hc hg hm hv pa_s hn hdb he hpl) fun H1 e1 Q k => ha.s e1 fun vs H2 e2 q => hr vs H2 (e1.trans e2) q H2 (Same.refl _) Q fun v H3 e3 q => k v H3 (e2.trans e3) q
theorem xe_callTy {T : String} {r : List V → Hp → VK → Prop} (hc : CallR X (.type T) r) (hm : X.mg x = none) (ha : XA X (e :: es) σ H Rs) (hr : ∀ vs H1, Same H H1 → AllR Rs vs H1 → RC r vs H1 R) (hv : bootBuiltins x = some (.type T)) (hg : Gl X x := by rfl)
    (hn : x ≠ "__name__" := by decide) (hdb : (x == ("__debug__" : Str)) = false := by decide)
    (he : starEach (e :: es) X.env = (false, eval e X.env) :: starEach es X.env := by rfl) (hpl : (backTo pos (starEach es X.env)).any (·.1) = false := by rfl) : XE X (.Call (.Name x p) (e :: es) [] pos) σ H R :=
  XE.of (pe_callTy hc hg hm hv pa_s hn hdb he hpl) fun H1 e1 Q k => ha.s e1 fun vs H2 e2 q => hr vs H2 (e1.trans e2) q H2 (Same.refl _) Q fun v H3 e3 q => k v H3 (e2.trans e3) q
end
/-! ### statements -/
structure XSs (X : Cx) (sts : List Stmt) (D : Ends) (σ : St) (H : Hp) : Prop where
  run : ∀ (pins : List (Addr × Obj)) (s : Shared) (H1 : Hp), Same H H1 → Inv X pins σ H1 s → wpAny (model X.prog X.w) X.A (execs sts X.env) (SP X pins D) X.xe s
def sS (X : Cx) (sts : List Stmt) : TS := fun D σ H => ∀ (pins : List (Addr × Obj)) (s : Shared), Inv X pins σ H s → wpAny (model X.prog X.w) X.A (execs sts X.env) (SP X pins D) X.xe s
section
variable {X : Cx} {st : Stmt} {sts rest body : List Stmt} {D : Ends} {σ : St} {H H' : Hp} {R : VP} {e o : Expr} {v : V} {pos pos' : Pos} {b : Bool}
theorem pss_s : PSs X sts (sS X sts) := ⟨fun pins s σ H D I h => h pins s I⟩
theorem XSs.s (h : XSs X sts D σ H) (hs : Same H H') : sS X sts D σ H' := fun pins s I => h.run pins s H' hs I
theorem XSs.mono (h : XSs X sts D σ H) (hs : Same H H') : XSs X sts D σ H' := ⟨fun pins s H1 e1 I => h.run pins s H1 (hs.trans e1) I⟩
theorem XSs.of {t : TS} (h : PSs X sts t) (q : ∀ H1, Same H H1 → t D σ H1) : XSs X sts D σ H := ⟨fun pins s H1 e1 I => h.run pins s σ H1 D I (q H1 e1)⟩
theorem xs_step {t : TS} (h : PS X st t) (q : ∀ H1, Same H H1 → t { D with nx := fun σ' H' => sS X rest D σ' H' } σ H1) : XSs X (st :: rest) D σ H := XSs.of (pss_cons h pss_s) q
theorem xs_nil (h : ∀ H1, Same H H1 → D.nx σ H1) : XSs X [] D σ H := XSs.of pss_nil h
theorem xs_doc {x j} (h : XSs X rest D σ H) : XSs X (.Expr (.Constant (.str x) j pos) pos' :: rest) D σ H := xs_step ps_doc fun H1 e1 => h.s e1
theorem xs_pass (h : XSs X rest D σ H) : XSs X (.Pass pos :: rest) D σ H := xs_step ps_pass fun H1 e1 => h.s e1
/-- name = e -/
theorem xs_set (i : Nat) {x : Str} (he : XE X e σ H R) (k : ∀ v H1, Same H H1 → R v H1 → XSs X rest D (σ.set i (some v)) H1) (hN : X.N.Nodup) (hi : X.N[i]? = some x := by rfl) (hx : Loc X.env.scope x := by first | exact Or.inl rfl | exact Or.inr rfl)
    (hs : swapsWith e (some (.Name x pos')) pos.line X.env = pure false := by rfl) (hf : X.fn x = true ∨ X.env.scope.names.lookup x = some .local := by first | exact .inl rfl | exact .inr rfl) : XSs X (.Assign [.Name x pos'] e pos :: rest) D σ H :=
  xs_step (ps_set hN hi hx pe_s hs hf) fun H1 e1 => he.s e1 fun v H2 e2 r => (k v H2 (e1.trans e2) r).s (Same.refl _)
theorem xs_setv (i : Nat) {x : Str} (he : XV X e σ H v) (k : XSs X rest D (σ.set i (some v)) H) (hN : X.N.Nodup) (hi : X.N[i]? = some x := by rfl) (hx : Loc X.env.scope x := by first | exact Or.inl rfl | exact Or.inr rfl)
    (hs : swapsWith e (some (.Name x pos')) pos.line X.env = pure false := by rfl) (hf : X.fn x = true ∨ X.env.scope.names.lookup x = some .local := by first | exact .inl rfl | exact .inr rfl) : XSs X (.Assign [.Name x pos'] e pos :: rest) D σ H :=
  xs_set i he (fun u H1 e1 q => by cases q; exact k.mono e1) hN hi hx hs hf
theorem xs_ret (he : XE X e σ H R) (k : ∀ v H1, Same H H1 → R v H1 → D.rt v H1) : XSs X (.Return (some e) pos :: rest) D σ H :=
  xs_step (ps_ret pe_s) fun H1 e1 => he.s e1 fun v H2 e2 r => k v H2 (e1.trans e2) r
theorem xs_retN (k : ∀ H1, Same H H1 → D.rt .non H1) : XSs X (.Return none pos :: rest) D σ H := xs_step ps_retN fun H1 e1 => k H1 e1
/-- an expression statement, pure -/
theorem xs_expr (he : XE X e σ H R) (k : ∀ v H1, Same H H1 → R v H1 → XSs X rest D σ H1) (hs : swapsWith e none pos.line X.env = pure false := by rfl) : XSs X (.Expr e pos :: rest) D σ H :=
  xs_step (ps_expr pe_s hs) fun H1 e1 => he.s e1 fun v H2 e2 r => (k v H2 (e1.trans e2) r).s (Same.refl _)
/-- if -/
theorem xs_if {a c : List Stmt} (ht : XT X e σ H b) (h1 : b = true → XSs X a { D with nx := fun σ' H' => XSs X rest D σ' H' } σ H) (h2 : b = false → XSs X c { D with nx := fun σ' H' => XSs X rest D σ' H' } σ H) : XSs X (.If e a c pos :: rest) D σ H := by
  refine XSs.of (pss_cons (ps_if pt_s (pss_s (sts := a)) (pss_s (sts := c))) (u := fun D' σ' H' => D' = D ∧ XSs X rest D σ' H') ⟨fun pins s σ' H' D' I h => by obtain ⟨rfl, h⟩ := h; exact h.run pins s H' (Same.refl _) I⟩) fun H1 e1 => ht.s e1 fun H2 e2 => ?_
  have eD : ({ D with nx := fun σ' H' => D = D ∧ XSs X rest D σ' H' } : Ends) = { D with nx := fun σ' H' => XSs X rest D σ' H' } := by
    congr 1
    funext σ' H'
    exact propext ⟨fun h => h.2, fun h => ⟨rfl, h⟩⟩
  show if b = true then sS X a { D with nx := fun σ' H' => D = D ∧ XSs X rest D σ' H' } σ H2 else sS X c { D with nx := fun σ' H' => D = D ∧ XSs X rest D σ' H' } σ H2
  rw [eD]
  cases b with
  | true => exact iteT ((h1 rfl).s (e1.trans e2))
  | false => exact iteF ((h2 rfl).s (e1.trans e2))
/-- if c: return/raise .., the test false -/
theorem xs_ifF {a : List Stmt} (ht : XT X e σ H false) (k : XSs X rest D σ H) : XSs X (.If e a [] pos :: rest) D σ H := xs_if ht (fun q => nomatch q) fun _ => xs_nil fun H1 e1 => k.mono e1
theorem xs_ifF' {a c : List Stmt} (ht : XT X e σ H false) (k : XSs X c { D with nx := fun σ' H' => XSs X rest D σ' H' } σ H) : XSs X (.If e a c pos :: rest) D σ H := xs_if ht (fun q => nomatch q) fun _ => k
theorem xs_ifT {a c : List Stmt} (ht : XT X e σ H true) (k : XSs X a { D with nx := fun σ' H' => XSs X rest D σ' H' } σ H) : XSs X (.If e a c pos :: rest) D σ H := xs_if ht (fun _ => k) fun q => nomatch q
/-- a step, the rest told by XSs at the very heap -/
theorem xs_stepX {t : TS} (h : PS X st t) (q : ∀ H1, Same H H1 → t { D with nx := fun σ' H' => XSs X rest D σ' H' } σ H1) : XSs X (st :: rest) D σ H := by
  refine XSs.of (pss_cons h (u := fun D' σ' H' => D' = D ∧ XSs X rest D σ' H') ⟨fun pins s σ' H' D' I h => by obtain ⟨rfl, h⟩ := h; exact h.run pins s H' (Same.refl _) I⟩) fun H1 e1 => ?_
  have eD : ({ D with nx := fun σ' H' => D = D ∧ XSs X rest D σ' H' } : Ends) = { D with nx := fun σ' H' => XSs X rest D σ' H' } := by
    congr 1
    funext σ' H'
    exact propext ⟨fun h => h.2, fun h => ⟨rfl, h⟩⟩
  show t { D with nx := fun σ' H' => D = D ∧ XSs X rest D σ' H' } σ H1
  rw [eD]
  exact q H1 e1
/-- target = e -/
theorem xs_asg {tg : Expr} {g : TG} (hg : PG X tg g) (he : XE X e σ H R) (k : ∀ v H1, Same H H1 → R v H1 → g v σ H1 (fun σ' H' => XSs X rest D σ' H'))
    (hs : swapsWithSole [tg] e pos.line X.env = pure false := by rfl) (hw : swappedStores [tg] e X.env = pure none := by rfl) (h1 : (assignEach [tg] X.env).map (·.2) = [assign tg X.env] := by rfl) : XSs X (.Assign [tg] e pos :: rest) D σ H :=
  xs_stepX (ps_asg pe_s hg hs hw h1) fun H1 e1 => he.s e1 fun v H2 e2 r => k v H2 (e1.trans e2) r
end
end LM

set_option maxHeartbeats 4000000
namespace LM
open PySem PySem.Spec PyProof.Rows L2
/-! ### a def's promise by its body -/
section
variable {X : Cx} {sts : List Stmt} {D D' : Ends} {σ : St} {H : Hp}
theorem XSs.ends (h : XSs X sts D σ H) (hn : ∀ σ' H', D.nx σ' H' → D'.nx σ' H') (hr : ∀ v H', D.rt v H' → D'.rt v H') (hb : ∀ σ' H', D.bk σ' H' → D'.bk σ' H') (hc : ∀ σ' H', D.ct σ' H' → D'.ct σ' H') : XSs X sts D' σ H := ⟨fun pins s H1 e1 I =>
  thn (h.run pins s H1 e1 I) fun f s' q => by
    cases f with
    | next => obtain ⟨σ', H', I', q⟩ := q; exact ⟨σ', H', I', hn _ _ q⟩
    | brk => obtain ⟨σ', H', I', q⟩ := q; exact ⟨σ', H', I', hb _ _ q⟩
    | cont => obtain ⟨σ', H', I', q⟩ := q; exact ⟨σ', H', I', hc _ _ q⟩
    | ret u => obtain ⟨v, σ', H', I', r, q⟩ := q; exact ⟨v, σ', H', I', r, hr _ _ q⟩⟩
end
def RetD (H0 : Hp) (R : VP) : Ends := { nx := fun _ H' => Same H0 H' ∧ R .non H', rt := fun v H' => Same H0 H' ∧ R v H' }
abbrev cx (W : Wd) (N : List Str) (qual : Str) (st : Stmt) (f : Addr) (cdv : Value) (A : Around) (outer : List Env) (s : Shared) (H : Hp) (E : XK) : Cx := (cxOf L2.CX0 W.P W.w W.K W.mg W.base N qual (defScope st) f cdv A outer s H E).nox
section
variable {W : Wd} {x qual : Str} {st : Stmt} {f C : Addr} {fd : FuncData} {N ps : List Str} {k : Nat}
theorem fn_raw {sp : Sp} (F : L2.Fun W.K x qual st f fd) (S : FnScope N ps (defScope st)) (len : ∀ vs H Q E, sp vs H Q E → vs.length = ps.length)
    (hb : ∀ (cdv : Value) (A : Around) (outer : List Env) (s : Shared) (H : Hp) (vs : List V) (Q : VK) (E : XK), Room k (A.deeper (envOfC qual (defScope st) s.heap.objs.size f cdv)) → sp vs H Q E →
      XSs (cx W N qual st f cdv A outer s H E) (defBody st) { nx := fun _ H' => Q .non H', rt := Q } (start N vs) H) : FnW W (k + 1) f fd ps sp :=
  F.ok S len fun cdv A outer s H vs Q E hr h => ⟨_, pss_s, (hb cdv A outer s H vs Q E hr h).s (Same.refl _)⟩
theorem fn_pure {pre : List V → Hp → VP → Prop} (F : L2.Fun W.K x qual st f fd) (S : FnScope N ps (defScope st)) (len : ∀ vs H R, pre vs H R → vs.length = ps.length)
    (hb : ∀ (cdv : Value) (A : Around) (outer : List Env) (s : Shared) (H : Hp) (vs : List V) (R : VP) (E : XK), Room k (A.deeper (envOfC qual (defScope st) s.heap.objs.size f cdv)) → pre vs H R →
      XSs (cx W N qual st f cdv A outer s H E) (defBody st) (RetD H R) (start N vs) H) : FnW W (k + 1) f fd ps (Pure pre) :=
  fn_raw F S (fun vs H Q E ⟨R, h, _⟩ => len vs H R h) fun cdv A outer s H vs Q E hr ⟨R, h, kq⟩ =>
    (hb cdv A outer s H vs R E hr h).ends (fun σ' H' ⟨e, r⟩ => kq _ _ e r) (fun v H' ⟨e, r⟩ => kq _ _ e r) (fun _ _ z => z) (fun _ _ z => z)
/-- a def, a method, a class of the text as they stand -/
structure DefAt (W : Wd) (x : Str) (st : Stmt) (ps : List Str) : Prop where
  ex : ∃ f fd, L2.Fun W.K x x st f fd ∧ W.mg x = some (.ref f) ∧ Binds W.K fd ps []
structure MethAt (W : Wd) (C : Addr) (m qual : Str) (st : Stmt) (ps : List Str) : Prop where
  ex : ∃ f fd, Cls W.K C ∧ Meth W.K C m f ∧ L2.Fun W.K m qual st f fd ∧ Binds W.K fd ps []
structure MakAt (W : Wd) (x : Str) (C : Addr) (qual : Str) (st : Stmt) (ps : List Str) : Prop where
  ex : ∃ f fd, Mk W.K C f ∧ L2.Fun W.K "__init__" qual st f fd ∧ W.mg x = some (.ref C) ∧ Binds W.K fd ps []
theorem cal_pure {pre : List V → Hp → VP → Prop} (A : DefAt W x st ps) (S : FnScope N ps (defScope st)) (len : ∀ vs H R, pre vs H R → vs.length = ps.length)
    (hb : ∀ (f : Addr) (cdv : Value) (A : Around) (outer : List Env) (s : Shared) (H : Hp) (vs : List V) (R : VP) (E : XK), Room k (A.deeper (envOfC x (defScope st) s.heap.objs.size f cdv)) → pre vs H R →
      XSs (cx W N x st f cdv A outer s H E) (defBody st) (RetD H R) (start N vs) H) : Cal W (k + 1) x (Pure pre) := by
  obtain ⟨f, fd, F, hm, b⟩ := A.ex
  exact ⟨f, fd, ps, fn_pure F S len (hb f), hm, F.kp, b⟩
theorem cal_raw {sp : Sp} (A : DefAt W x st ps) (S : FnScope N ps (defScope st)) (len : ∀ vs H Q E, sp vs H Q E → vs.length = ps.length)
    (hb : ∀ (f : Addr) (cdv : Value) (A : Around) (outer : List Env) (s : Shared) (H : Hp) (vs : List V) (Q : VK) (E : XK), Room k (A.deeper (envOfC x (defScope st) s.heap.objs.size f cdv)) → sp vs H Q E →
      XSs (cx W N x st f cdv A outer s H E) (defBody st) { nx := fun _ H' => Q .non H', rt := Q } (start N vs) H) : Cal W (k + 1) x sp := by
  obtain ⟨f, fd, F, hm, b⟩ := A.ex
  exact ⟨f, fd, ps, fn_raw F S len (hb f), hm, F.kp, b⟩
theorem met_pure {m : Str} {pre : List V → Hp → VP → Prop} (A : MethAt W C m qual st ps) (S : FnScope N ps (defScope st)) (len : ∀ vs H R, pre vs H R → vs.length = ps.length)
    (hb : ∀ (f : Addr) (cdv : Value) (A : Around) (outer : List Env) (s : Shared) (H : Hp) (vs : List V) (R : VP) (E : XK), Room k (A.deeper (envOfC qual (defScope st) s.heap.objs.size f cdv)) → pre vs H R →
      XSs (cx W N qual st f cdv A outer s H E) (defBody st) (RetD H R) (start N vs) H) : Met W (k + 1) C m (Pure pre) := by
  obtain ⟨f, fd, c, me, F, b⟩ := A.ex
  exact ⟨f, fd, ps, c, me, fn_pure F S len (hb f), b⟩
theorem met_raw {m : Str} {sp : Sp} (A : MethAt W C m qual st ps) (S : FnScope N ps (defScope st)) (len : ∀ vs H Q E, sp vs H Q E → vs.length = ps.length)
    (hb : ∀ (f : Addr) (cdv : Value) (A : Around) (outer : List Env) (s : Shared) (H : Hp) (vs : List V) (Q : VK) (E : XK), Room k (A.deeper (envOfC qual (defScope st) s.heap.objs.size f cdv)) → sp vs H Q E →
      XSs (cx W N qual st f cdv A outer s H E) (defBody st) { nx := fun _ H' => Q .non H', rt := Q } (start N vs) H) : Met W (k + 1) C m sp := by
  obtain ⟨f, fd, c, me, F, b⟩ := A.ex
  exact ⟨f, fd, ps, c, me, fn_raw F S len (hb f), b⟩
/-- what an __init__ is to reach -/
def InitD (C : Addr) (G : Hp) (x dx : Addr) (F : List (Str × V) → Hp → Prop) : Ends := { nx := fun _ H' => Same G H' ∧ ∃ fs, H' x = some (.ins C dx fs) ∧ F fs H', rt := fun _ _ => False }
theorem mak_init {pre : List V → Hp → (List (Str × V) → Hp → Prop) → Prop} (A : MakAt W x C qual st ps) (S : FnScope N ps (defScope st)) (len : ∀ as H F, pre as H F → as.length + 1 = ps.length)
    (hb : ∀ (f : Addr) (cdv : Value) (A : Around) (outer : List Env) (s : Shared) (H G : Hp) (y dx : Addr) (as : List V) (F : List (Str × V) → Hp → Prop) (E : XK), Room k (A.deeper (envOfC qual (defScope st) s.heap.objs.size f cdv)) →
      G y = none → Same G H → H y = some (.ins C dx []) → pre as G F → XSs (cx W N qual st f cdv A outer s H E) (defBody st) (InitD C G y dx F) (start N (.ref y :: as)) H) : Mak W (k + 1) x C (Init C pre) := by
  obtain ⟨f, fd, M, F, hm, b⟩ := A.ex
  refine ⟨f, fd, ps, M, fn_raw F S (fun vs H Q E ⟨y, dx, as, G, F, hv, _, _, _, h, _⟩ => by subst hv; simpa using len as G F h) fun cdv A outer s H vs Q E hr ⟨y, dx, as, G, F, hv, g0, sg, hy, h, kq⟩ => ?_, hm, b⟩
  subst hv
  exact (hb f cdv A outer s H G y dx as F E hr g0 sg hy h).ends (fun σ' H' ⟨e, fs, h1, h2⟩ => kq _ _ e h1 h2) (fun _ _ z => z.elim) (fun _ _ z => z) (fun _ _ z => z)
end
/-! ### sequences, loops -/
def SqLR (K : PySem.W.Frag) (Rs : List VP) : VP := fun v H => ∃ a xs, v = .ref a ∧ SqL K H a xs ∧ AllR Rs xs H
def SqTR (K : PySem.W.Frag) (Rs : List VP) : VP := fun v H => ∃ a xs, v = .ref a ∧ SqT K H a xs ∧ AllR Rs xs H
theorem AllR.get : ∀ {Rs : List VP} {xs : List V} {H : Hp} {i : Nat} {x : V}, AllR Rs xs H → xs[i]? = some x → ∃ R, Rs[i]? = some R ∧ R x H
  | [], [], _, _, _, _, h => by simp at h
  | R :: Rs, y :: xs, H, 0, x, h, e => by
    have e := Option.some.inj (show some y = some x from e)
    subst e
    exact ⟨R, rfl, h.1⟩
  | R :: Rs, y :: xs, H, i + 1, x, h, e => by
    obtain ⟨R', h1, h2⟩ := AllR.get (i := i) (x := x) h.2 (by simpa using e)
    exact ⟨R', by simpa using h1, h2⟩
  | [], _ :: _, _, _, _, h, _ => h.elim
  | _ :: _, [], _, _, _, h, _ => h.elim
section
variable {X : Cx} {iter tg e : Expr} {body rest : List Stmt} {g : TG} {D : Ends} {σ : St} {H : Hp} {a : Addr} {xs : List V} {pos : Pos} {R : VP}
/-- over a list that stays -/
theorem xs_forL (hl : XV X iter σ H (.ref a)) (hg : PG X tg g) (Pv : Nat → St → Hp → Prop) (h0 : ∀ H1, Same H H1 → Pv 0 σ H1) (hs : ∀ i σ' H', i ≤ xs.length → Pv i σ' H' → SqL X.K H' a xs)
    (ht : ∀ i x σ' H', xs[i]? = some x → Pv i σ' H' → g x σ' H' fun σ2 H2 => XSs X body { D with nx := Pv (i + 1), ct := Pv (i + 1), bk := fun σ' H' => XSs X rest D σ' H' } σ2 H2)
    (hd : ∀ σ' H', Pv xs.length σ' H' → XSs X rest D σ' H') (gm : ∀ v σ H (P P' : St → Hp → Prop), (∀ σ' H', P σ' H' → P' σ' H') → g v σ H P → g v σ H P') (hx : ∀ H1, Same H H1 → SqL X.K H1 a xs)
    (hp : PassesOwn (model X.prog X.w) X.A X.env X.xe := by exact PassesOwn.never) (hc : X.calm = true := by rfl) (hf : ∀ x, foldedSetIterable iter X.env x = pure x := by intro _; rfl) : XSs X (.For tg iter body [] pos :: rest) D σ H :=
  xs_stepX (ps_for hp hc (pi_list pe_s) hg pss_s hf) fun H1 e1 => hl.s e1 fun v H2 e2 q => by
    cases q
    exact ⟨a, rfl, ⟨xs, hx H2 (e1.trans e2)⟩, for_list (K := X.K) (a := a) (xs := xs) Pv (h0 H2 (e1.trans e2)) hs (fun i x σ' H' hi p => gm x σ' H' _ _ (fun _ _ h => h.s (Same.refl _)) (ht i x σ' H' hi p)) hd⟩
theorem xs_forT (hl : XV X iter σ H (.ref a)) (hg : PG X tg g) (Pv : Nat → St → Hp → Prop) (h0 : ∀ H1, Same H H1 → Pv 0 σ H1) (hs : ∀ i σ' H', i ≤ xs.length → Pv i σ' H' → SqT X.K H' a xs)
    (ht : ∀ i x σ' H', xs[i]? = some x → Pv i σ' H' → g x σ' H' fun σ2 H2 => XSs X body { D with nx := Pv (i + 1), ct := Pv (i + 1), bk := fun σ' H' => XSs X rest D σ' H' } σ2 H2)
    (hd : ∀ σ' H', Pv xs.length σ' H' → XSs X rest D σ' H') (gm : ∀ v σ H (P P' : St → Hp → Prop), (∀ σ' H', P σ' H' → P' σ' H') → g v σ H P → g v σ H P') (hx : ∀ H1, Same H H1 → SqT X.K H1 a xs)
    (hp : PassesOwn (model X.prog X.w) X.A X.env X.xe := by exact PassesOwn.never) (hc : X.calm = true := by rfl) (hf : ∀ x, foldedSetIterable iter X.env x = pure x := by intro _; rfl) : XSs X (.For tg iter body [] pos :: rest) D σ H :=
  xs_stepX (ps_for hp hc (pi_tup pe_s) hg pss_s hf) fun H1 e1 => hl.s e1 fun v H2 e2 q => by
    cases q
    exact ⟨a, rfl, ⟨xs, hx H2 (e1.trans e2)⟩, for_tup (K := X.K) (a := a) (xs := xs) Pv (h0 H2 (e1.trans e2)) hs (fun i x σ' H' hi p => gm x σ' H' _ _ (fun _ _ h => h.s (Same.refl _)) (ht i x σ' H' hi p)) hd⟩
theorem gm_name {i : Nat} : ∀ v σ H (P P' : St → Hp → Prop), (∀ σ' H', P σ' H' → P' σ' H') → gName i v σ H P → gName i v σ H P' := fun _ _ _ _ _ h q => h _ _ q
/-- over range(n) -/
theorem xs_forR {ar : Expr} {p : Pos} {n : Int} {i0 : Nat} (hm : X.mg "range" = none) (hn : XV X ar σ H (.int n)) (hb : -(2 ^ 62) ≤ n ∧ n < 2 ^ 62) (hg : PG X tg (gName i0)) (Pv : Nat → St → Hp → Prop) (h0 : ∀ H1, Same H H1 → Pv 0 σ H1)
    (ht : ∀ i σ' H', i < n.toNat → Pv i σ' H' → XSs X body { D with nx := Pv (i + 1), ct := Pv (i + 1), bk := fun σ' H' => XSs X rest D σ' H' } (σ'.set i0 (some (.int (i : Int)))) H')
    (hd : ∀ σ' H', Pv n.toNat σ' H' → XSs X rest D σ' H') (hgl : Gl X "range" := by rfl)
    (hp : PassesOwn (model X.prog X.w) X.A X.env X.xe := by exact PassesOwn.never) (hc : X.calm = true := by rfl) (hs : starEach [ar] X.env = [(false, eval ar X.env)] := by rfl) (hf : ∀ x, foldedSetIterable (.Call (.Name "range" p) [ar] [] pos) X.env x = pure x := by intro _; rfl) {fpos : Pos} :
    XSs X (.For tg (.Call (.Name "range" p) [ar] [] pos) body [] fpos :: rest) D σ H :=
  xs_stepX (ps_for hp hc (pi_range1 hgl hm (pa_cons pe_s pa_nil (by exact hs)) hs) hg pss_s hf) fun H1 e1 => hn.s e1 fun v H2 e2 q => by
    cases q
    refine ⟨n, rfl, hb.1, hb.2, for_range (lo := 0) (n := n.toNat) Pv (h0 H2 (e1.trans e2)) (fun i σ' H' hi p => ?_) hd⟩
    have z := ht i σ' H' hi p
    rw [show ((i : Int)) = 0 + (i : Int) from (Int.zero_add _).symm] at z
    exact z.s (Same.refl _)
/-- while -/
theorem xs_while {c : Expr} (Wv : Nat → St → Hp → Prop) (m0 : Nat) (h0 : ∀ H1, Same H H1 → Wv m0 σ H1)
    (ht : ∀ m σ' H', Wv m σ' H' → ∃ b, XT X c σ' H' b ∧ (b = true → ∀ H2, Same H' H2 → XSs X body { D with nx := fun σ2 H2 => ∃ m', m' < m ∧ Wv m' σ2 H2, ct := fun σ2 H2 => ∃ m', m' < m ∧ Wv m' σ2 H2, bk := fun σ' H' => XSs X rest D σ' H' } σ' H2) ∧ (b = false → ∀ H2, Same H' H2 → XSs X rest D σ' H2))
    (hp : PassesOwn (model X.prog X.w) X.A X.env X.xe := by exact PassesOwn.never) : XSs X (.While c body [] pos :: rest) D σ H :=
  xs_stepX (ps_while hp pt_s pss_s) fun H1 e1 => ⟨Wv, ⟨m0, h0 H1 e1⟩, fun m σ' H' hw => by
    obtain ⟨b, h1, h2, h3⟩ := ht m σ' H' hw
    refine h1.s (Same.refl _) fun H2 e2 => ?_
    cases b with
    | true =>
      rw [if_pos rfl]
      exact ⟨_, fun _ _ h => h, (h2 rfl H2 e2).s (Same.refl _)⟩
    | false =>
      rw [if_neg Bool.false_ne_true]
      exact h3 rfl H2 e2⟩
/-! list changes -/
theorem xs_append {apos cpos : Pos} {o : Expr} {l : Addr} {ys : List V} (ho : XV X o σ H (.ref l)) (he : XE X e σ H R) (hl : H l = some (.lst ys)) (hz : ys.length < 1000000)
    (k : ∀ v H1, Same H H1 → R v H1 → XSs X rest D σ (upd H1 l (.lst (ys ++ [v]))))
    (hbase : attributeBase o "append" X.env (eval o X.env) = eval o X.env := by rfl)
    (hfew : ((backTo cpos (starEach [e] X.env)).all (fun x => !x.1) && (backToKw cpos (keywordEach [] X.env)).all (fun x => x.1.isSome)
      && decide ([e].length + ([] : List Keyword).length + (if ([] : List Keyword).isEmpty then 0 else 1) < 30)) = true := by rfl)
    (hline : (apos.endLine == cpos.line) = true := by rfl) (hs1 : starEach [e] X.env = (false, eval e X.env) :: starEach [] X.env := by rfl) (hplain : (backTo cpos (starEach [] X.env)).any (·.1) = false := by rfl)
    (hs : swapsWith (.Call (.Attribute o "append" apos) [e] [] cpos) none pos.line X.env = pure false := by rfl) :
    XSs X (.Expr (.Call (.Attribute o "append" apos) [e] [] cpos) pos :: rest) D σ H :=
  xs_stepX (ps_expr (pe_bm PySem.F.plainAttrs_list PySem.F.slot_list_append PySem.F.type_list_append mt_append pe_s (pa_cons pe_s pa_nil hs1) hbase hfew hline hs1 hplain) hs) fun H1 e1 => ho.s e1 fun v H2 e2 q => by
    cases q
    refine ⟨Or.inl ⟨rfl, _, SqL.of ((e1.trans e2) _ _ hl)⟩, he.s (e1.trans e2) fun v H3 e3 r => ?_⟩
    exact ⟨l, ys, v, rfl, rfl, ((e1.trans e2).trans e3) _ _ hl, sz_lt hz, k v H3 ((e1.trans e2).trans e3) r⟩
/-- o.f = e -/
theorem xs_fld [m : Mon R] {o : Expr} {f : Str} {C dx : Addr} {fs : List (Str × V)} {pos' : Pos} (ho : XV X o σ H (.ref a)) (he : XE X e σ H R) (hi : H a = some (.ins C dx fs)) (hc : Cls X.K C) (hn : NoAttr X.K C f) (hz : fs.length < 1000)
    (k : ∀ v H1, Same H H1 → R v H1 → XSs X rest D σ (upd H1 a (.ins C dx (putF f v fs)))) (hs : swapsWith e (some (.Attribute o f pos')) pos.line X.env = pure false := by rfl) : XSs X (.Assign [.Attribute o f pos'] e pos :: rest) D σ H :=
  xs_stepX (ps_fld pe_s pe_s hs) fun H1 e1 => he.s e1 fun v H2 e2 r => (ho.mono (e1.trans e2)).s (Same.refl _) fun u H3 e3 q => by
    cases q
    exact ⟨a, C, dx, fs, rfl, ((e1.trans e2).trans e3) _ _ hi, hc, hn, hz, k v H3 ((e1.trans e2).trans e3) (m.mono v H2 H3 e3 r)⟩
end
end LM

set_option maxHeartbeats 4000000
namespace LM
open PySem PySem.Spec PyProof.Rows L2
/-! ### the frame: what changes (M) apart from what is known for good (G) -/
abbrev Mp := List (Addr × HO)
def Upds (G : Hp) : Mp → Hp
  | [] => G
  | (a, o) :: r => upd (Upds G r) a o
def Fresh (M : Mp) (G : Hp) : Prop := ∀ p ∈ M, G p.1 = none
/-- M's objects may be hidden: they lean on nothing but themselves (and each other) -/
def OkM (M : Mp) : Prop := (M.map (·.1)).Nodup ∧ ∀ p ∈ M, match p.2 with
  | .lst _ => True
  | .dK _ => True
  | .ext φ => ∀ h, φ h → ∃ o es ep, h.get? p.1 = some o ∧ o.data = .dict es ep
  | .own y => ∃ C fs, (y, HO.ins C p.1 fs) ∈ M
  | .ins _ dx _ => (dx, HO.own p.1) ∈ M
  | _ => False
theorem upds_out {G : Hp} : ∀ {M : Mp} {a : Addr}, a ∉ M.map (·.1) → Upds G M a = G a
  | [], _, _ => rfl
  | (b, o) :: r, a, h => by
    have h1 : a ≠ b := fun e => h (by simp [e])
    have h2 : a ∉ r.map (·.1) := fun e => h (by simp only [List.map_cons, List.mem_cons]; exact .inr e)
    show upd (Upds G r) b o a = G a
    rw [upd_ne h1, upds_out h2]
theorem upds_in {G : Hp} : ∀ {M : Mp} {a : Addr} {o : HO}, (M.map (·.1)).Nodup → (a, o) ∈ M → Upds G M a = some o
  | (b, u) :: r, a, o, nd, h => by
    have nd : b ∉ r.map (·.1) ∧ (r.map (·.1)).Nodup := List.nodup_cons.mp nd
    show upd (Upds G r) b u a = some o
    rcases List.mem_cons.mp h with e | e
    · cases e; exact upd_same
    · have hab : a ≠ b := fun z => nd.1 (z ▸ List.mem_map.mpr ⟨_, e, rfl⟩)
      rw [upd_ne hab]
      exact upds_in nd.2 e
theorem upds_mono {G G' : Hp} (e : Same G G') : ∀ {M : Mp}, Same (Upds G M) (Upds G' M)
  | [] => e
  | (b, o) :: r => fun a u h => by
    by_cases hab : a = b
    · subst hab
      have h' : upd (Upds G r) a o a = some u := h
      rw [upd_same] at h'
      show upd (Upds G' r) a o a = some u
      rw [upd_same]; exact h'
    · have h' : upd (Upds G r) b o a = some u := h
      rw [upd_ne hab] at h'
      show upd (Upds G' r) b o a = some u
      rw [upd_ne hab]
      exact upds_mono e a u h'
theorem upds_ge {G : Hp} {M : Mp} (fr : Fresh M G) : Same G (Upds G M) := fun a u h => by
  rw [upds_out]
  · exact h
  · intro hm
    obtain ⟨p, hp, e⟩ := List.mem_map.mp hm
    have := fr p hp
    rw [e, h] at this; cases this
def hide (M : Mp) (H : Hp) : Hp := fun a => if a ∈ M.map (·.1) then none else H a
theorem hide_fresh (M : Mp) (H : Hp) : Fresh M (hide M H) := fun p hp => by
  unfold hide
  rw [if_pos (List.mem_map.mpr ⟨p, hp, rfl⟩)]
theorem hide_ne {M : Mp} {H : Hp} {a : Addr} (h : a ∉ M.map (·.1)) : hide M H a = H a := by
  unfold hide
  rw [if_neg h]
theorem hide_some {M : Mp} {H : Hp} {a : Addr} {o : HO} (h : hide M H a = some o) : a ∉ M.map (·.1) ∧ H a = some o := by
  unfold hide at h
  split at h
  · cases h
  · exact ⟨by assumption, h⟩
theorem upds_hide {M : Mp} {H : Hp} (nd : (M.map (·.1)).Nodup) (h : ∀ p ∈ M, H p.1 = some p.2) : Upds (hide M H) M = H := by
  funext a
  by_cases ha : a ∈ M.map (·.1)
  · obtain ⟨p, hp, e⟩ := List.mem_map.mp ha
    subst e
    rw [upds_in nd (show (p.1, p.2) ∈ M from hp), h p hp]
  · rw [upds_out ha, hide_ne ha]
theorem same_hide {G H : Hp} {M : Mp} (nd : (M.map (·.1)).Nodup) (fr : Fresh M G) (e : Same (Upds G M) H) : Same G (hide M H) ∧ ∀ p ∈ M, H p.1 = some p.2 := by
  refine ⟨fun a o h => ?_, fun p hp => e _ _ (upds_in nd hp)⟩
  have ha : a ∉ M.map (·.1) := fun hm => by
    obtain ⟨p, hp, q⟩ := List.mem_map.mp hm
    have := fr p hp
    rw [q, h] at this; cases this
  rw [hide_ne ha]
  exact e _ _ (by rw [upds_out ha]; exact h)
section
variable {X : Cx} {pins : List (Addr × Obj)} {σ : St} {H : Hp} {s : Shared}
theorem tracked_frame (I : Inv X pins σ H s) {a : Addr} {o : HO} (h : H a = some o) : a ≠ X.env.locals ∧ a ∉ X.fs := by
  refine ⟨fun e => (by rw [e, I.free] at h; cases h), fun hb => ?_⟩
  obtain ⟨_, ob, ho, _⟩ := I.ok.funs.mem hb
  have := I.base.free a ob ho (I.ok.frf a hb) fun z => I.ok.exfs a z hb
  rw [this] at h; cases h
/-- the objects of M as they stand -/
def pinM (s : Shared) (M : Mp) : List (Addr × Obj) := M.filterMap fun p => (s.heap.get? p.1).map fun o => (p.1, o)
theorem mem_pinM {M : Mp} {a : Addr} {o : HO} {ob : Obj} (h : (a, o) ∈ M) (e : s.heap.get? a = some ob) : (a, ob) ∈ pinM s M := List.mem_filterMap.mpr ⟨(a, o), h, by rw [e]; rfl⟩
theorem of_pinM {M : Mp} {q : Addr × Obj} (h : q ∈ pinM s M) : ∃ o, (q.1, o) ∈ M ∧ s.heap.get? q.1 = some q.2 := by
  obtain ⟨p, hp, e⟩ := List.mem_filterMap.mp h
  cases g : s.heap.get? p.1 with
  | none => rw [g] at e; cases e
  | some ob =>
    rw [g] at e
    cases e
    exact ⟨p.2, hp, g⟩
theorem okM_there {M : Mp} (hM : OkM M) (I : Inv X pins σ H s) (h : ∀ p ∈ M, H p.1 = some p.2) {a : Addr} {o : HO} (hp : (a, o) ∈ M) : ∃ ob, s.heap.get? a = some ob ∧ ∀ v, ob.data ≠ .cell v := by
  have ok := I.hok a o (h _ hp)
  have k := hM.2 _ hp
  cases o with
  | lst xs => obtain ⟨_, its, n, _, e⟩ := ok; exact ⟨_, e, fun v z => nomatch z⟩
  | dK kvs => obtain ⟨_, _, vs, _, ob, es, ep, e, hx, hd, _⟩ := ok; exact ⟨_, e, fun v z => by rw [hd] at z; cases z⟩
  | ext φ => obtain ⟨ob, es, ep, e, hd⟩ := k s.heap ok.1; exact ⟨ob, e, fun v z => by rw [hd] at z; cases z⟩
  | own y =>
    obtain ⟨C, fs, hi⟩ := k
    obtain ⟨_, _, _, _, mA, ⟨ob, es, ep, e, hd, _⟩, _⟩ := I.hok y _ (h _ hi)
    exact ⟨ob, e, fun v z => by rw [hd] at z; cases z⟩
  | ins C dx fs => obtain ⟨_, _, _, e, _⟩ := ok; exact ⟨_, e, fun v z => nomatch z⟩
  | _ => exact k.elim
theorem okM_tup {M : Mp} (hM : OkM M) {a : Addr} {o : HO} (hp : (a, o) ∈ M) : (∀ xs, o ≠ .tup xs) ∧ (∀ ob u, o ≠ .frz ob u) ∧ ∀ ps, o ≠ .tbl ps := by
  have k := hM.2 _ hp
  cases o with
  | tup xs => exact k.elim
  | frz ob u => exact k.elim
  | tbl ps => exact k.elim
  | _ => exact ⟨fun _ z => (nomatch z), fun _ _ z => (nomatch z), fun _ z => nomatch z⟩
/-- hiding: M's objects become pins -/
theorem hideM_inv {M : Mp} (hM : OkM M) (I : Inv X pins σ H s) (h : ∀ p ∈ M, H p.1 = some p.2) : Inv X (pins ++ pinM s M) σ (hide M H) s := by
  have hn : ∀ b, H b = none → hide M H b = none := fun b e => by
    unfold hide
    split
    · rfl
    · exact e
  have inM : ∀ {b : Addr}, b ∈ M.map (·.1) → ∃ o, (b, o) ∈ M := fun {b} hb => by
    obtain ⟨p, hp, e⟩ := List.mem_map.mp hb
    subst e
    exact ⟨p.2, hp⟩
  have tupK : ∀ b xs, H b = some (.tup xs) → hide M H b = some (.tup xs) := fun b xs e => by
    rw [hide_ne]
    · exact e
    · intro hb
      obtain ⟨o, ho⟩ := inM hb
      have := h _ ho
      rw [e] at this; cases this
      exact (okM_tup hM ho).1 xs rfl
  refine ⟨I.ok, I.os, I.bare, ⟨I.base.keep, I.base.slot, fun b o e n hx => hn b (I.base.free b o e n hx), I.base.there, fun b xs e => tupK b xs (I.base.tups b xs e), fun b o u e => ?_, fun b ps e => ?_⟩, I.loc, I.cell, hn _ I.free, fun x c e => hn c (I.freeC x c e), fun p hp => ?_, fun a o e => ?_, I.len⟩
  · have q := I.base.frzs b o u e
    rw [hide_ne]
    · exact q
    · intro hb
      obtain ⟨o', ho⟩ := inM hb
      have := h _ ho
      rw [q] at this; cases this
      exact (okM_tup hM ho).2.1 _ _ rfl
  · obtain ⟨m, q⟩ := I.base.tbls b ps e
    refine ⟨m, ?_⟩
    rw [hide_ne]
    · exact q
    · intro hb
      obtain ⟨o', ho⟩ := inM hb
      have := h _ ho
      rw [q] at this; cases this
      exact (okM_tup hM ho).2.2 _ rfl
  · rw [← List.append_assoc] at hp
    rcases List.mem_append.mp hp with hp | hp
    · obtain ⟨q1, q2, q3⟩ := I.pin p hp
      exact ⟨q1, hn _ q2, q3⟩
    · obtain ⟨o, ho, e⟩ := of_pinM hp
      obtain ⟨f1, f2⟩ := tracked_frame I (h _ ho)
      obtain ⟨ob, e', c⟩ := okM_there hM I h ho
      rw [e] at e'; cases e'
      exact ⟨e, hide_fresh M H _ ho, f1, f2, c⟩
  · obtain ⟨ha, e'⟩ := hide_some e
    have ok := I.hok a o e'
    -- its own dict is not hidden unless it is
    cases o with
    | ins C dx fs =>
      obtain ⟨d, z, ne, e0, mA, hA, r⟩ := ok
      refine ⟨?_, z, ne, e0, mA, hA, r⟩
      rw [hide_ne]
      · exact d
      · intro hb
        obtain ⟨o', ho⟩ := inM hb
        have q := h _ ho
        rw [d] at q; cases q
        obtain ⟨C', fs', hi⟩ := hM.2 _ ho
        exact ha (List.mem_map.mpr ⟨_, hi, rfl⟩)
    | lst xs => exact ok
    | tup xs => exact ok
    | dK kvs => exact ok
    | dT kvs =>
      obtain ⟨z, y, xs, r, c⟩ := ok
      exact ⟨z, y, xs, Paired.mapP r fun p q w => ⟨w.1, tupK _ _ w.2.1, w.2.2⟩, c⟩
    | set S n => exact ok
    | own y => exact ok
    | xd fs => exact ok
    | met f y => exact ok
    | rng lo hi => exact ok
    | tbl ps => exact ok
    | ext φ => exact ok
    | frz ob u => exact ok.stay (fun b u' hb q => q) (fun b q => by
        rw [hide_ne]
        · exact q
        · intro hb
          obtain ⟨o', ho⟩ := inM hb
          have q' := h _ ho
          rw [q] at q'; cases q'
          obtain ⟨C', fs', hi⟩ := hM.2 _ ho
          exact ha (List.mem_map.mpr ⟨_, hi, rfl⟩)) tupK
/-- showing again -/
theorem showM_inv {M : Mp} (hM : OkM M) (I0 : Inv X pins σ H s) (h : ∀ p ∈ M, H p.1 = some p.2) {σ2 : St} {G : Hp} {s2 : Shared} (sg : Same (hide M H) G) (I : Inv X (pins ++ pinM s M) σ2 G s2) : Inv X pins σ2 (Upds G M) s2 := by
  have pinA : ∀ {a : Addr} {o : HO}, (a, o) ∈ M → ∃ ob, s.heap.get? a = some ob ∧ s2.heap.get? a = some ob ∧ G a = none := fun {a o} ho => by
    obtain ⟨ob, e, _⟩ := okM_there hM I0 h ho
    obtain ⟨q1, q2, _⟩ := I.pin (a, ob) (by rw [← List.append_assoc]; exact List.mem_append_right _ (mem_pinM ho e))
    exact ⟨ob, e, q1, q2⟩
  have fr : Fresh M G := fun p hp => (pinA (o := p.2) hp).choose_spec.2.2
  have up := upds_ge fr
  have cases_ : ∀ {b : Addr} {o : HO}, Upds G M b = some o → (b ∉ M.map (·.1) ∧ G b = some o) ∨ (b, o) ∈ M := fun {b o} e => by
    by_cases hb : b ∈ M.map (·.1)
    · obtain ⟨p, hp, q⟩ := List.mem_map.mp hb
      subst q
      rw [upds_in hM.1 (show (p.1, p.2) ∈ M from hp)] at e
      cases e
      exact .inr hp
    · exact .inl ⟨hb, by rw [upds_out hb] at e; exact e⟩
  have outM : ∀ {b : Addr}, G b = none → (∀ o, (b, o) ∉ M) → Upds G M b = none := fun {b} e hb => by
    rw [upds_out]
    · exact e
    · intro hm
      obtain ⟨p, hp, q⟩ := List.mem_map.mp hm
      subst q
      exact hb _ hp
  have notM : ∀ {b : Addr} {o : HO}, H b = none → (b, o) ∉ M := fun {b o} e hm => by
    have := h _ hm
    rw [e] at this; cases this
  refine ⟨I.ok, I.os, I.bare, ⟨fun b o e n hb hx => I.base.keep b o e n hb hx, fun b o e n hb hx => I.base.slot b o e n hb hx, fun b o e n hx => outM (I.base.free b o e n hx) fun u hm => notM (I0.base.free b o e n hx) hm, I.base.there, fun b xs e => up _ _ (I.base.tups b xs e), fun b o u e => up _ _ (I.base.frzs b o u e), fun b ps e => ?_⟩,
    I.loc, I.cell, outM I.free fun u hm => notM I0.free hm, fun x c e => outM (I.freeC x c e) fun u hm => notM (I0.freeC x c e) hm, fun p hp => ?_, fun a o e => ?_, I.len⟩
  · obtain ⟨m, q⟩ := I.base.tbls b ps e
    exact ⟨m, up _ _ q⟩
  · obtain ⟨q1, q2, q3⟩ := I.pin p (by rw [← List.append_assoc]; exact List.mem_append_left _ hp)
    exact ⟨q1, outM q2 fun u hm => notM (I0.pin p hp).2.1 hm, q3⟩
  · rcases cases_ e with ⟨_, e'⟩ | hm
    · exact (I.hok a o e').stay (fun _ _ _ q => q) (fun _ q => up _ _ q) fun _ _ q => up _ _ q
    · obtain ⟨ob, e1, e2, e3⟩ := pinA hm
      have ok := I0.hok a o (h _ hm)
      have k := hM.2 _ hm
      cases o with
      | lst xs => obtain ⟨z, its, n, r, q⟩ := ok; rw [q] at e1; cases e1; exact ⟨z, its, n, r, e2⟩
      | dK kvs => obtain ⟨z, y, vs, r, o', es, ep, q, c⟩ := ok; rw [q] at e1; cases e1; exact ⟨z, y, vs, r, _, es, ep, e2, c⟩
      | ext φ => obtain ⟨p, ⟨o', q⟩, st⟩ := ok; rw [q] at e1; cases e1; exact ⟨st _ _ p fun o'' q' => (by rw [q] at q'; cases q'; exact e2), ⟨_, e2⟩, st⟩
      | own y => exact ⟨_, e2⟩
      | ins C dx fs =>
        obtain ⟨d, z, ne, q, mA, ⟨od, es, ep, ed, c⟩, r⟩ := ok
        rw [q] at e1; cases e1
        obtain ⟨ob', f1, f2, f3⟩ := pinA k
        rw [ed] at f1; cases f1
        exact ⟨upds_in hM.1 k, z, ne, e2, mA, ⟨_, es, ep, f2, c⟩, r⟩
      | _ => exact k.elim
end
section
variable {X : Cx} {e : Expr} {es : List Expr} {σ : St} {G H1 : Hp} {R : VP} {Rs : List VP} {M : Mp} {b : Bool}
/-- the frame rule -/
theorem XE.fr {Q : VK} (h : XE X e σ G R) (hM : OkM M) (fr : Fresh M G) (hs : Same (Upds G M) H1) (k : ∀ v G2, Same G G2 → Fresh M G2 → Same H1 (Upds G2 M) → R v G2 → Q v (Upds G2 M)) : sE X e σ H1 Q := fun pins s I => by
  obtain ⟨sg, hp⟩ := same_hide hM.1 fr hs
  refine thn (h.run (pins ++ pinM s M) s (hide M H1) (fun v G2 => Same (hide M H1) G2 ∧ R v G2) sg (hideM_inv hM I hp) fun v G2 e2 r => ⟨e2, r⟩) fun u s2 ⟨v, G2, I2, rv, e2, r⟩ => ?_
  have fr2 : Fresh M G2 := fun p hp' => by
    obtain ⟨ob, e, _⟩ := okM_there hM I hp (show (p.1, p.2) ∈ M from hp')
    exact (I2.pin (p.1, ob) (by rw [← List.append_assoc]; exact List.mem_append_right _ (mem_pinM (show (p.1, p.2) ∈ M from hp') e))).2.1
  refine ⟨v, Upds G2 M, showM_inv hM I hp e2 I2, rv, k v G2 (sg.trans e2) fr2 ?_ r⟩
  have q := upds_mono (M := M) e2
  rw [upds_hide hM.1 hp] at q
  exact q
theorem XT.fr {Q : Bool → Hp → Prop} (h : XT X e σ G b) (hM : OkM M) (fr : Fresh M G) (hs : Same (Upds G M) H1) (k : ∀ G2, Same G G2 → Fresh M G2 → Same H1 (Upds G2 M) → Q b (Upds G2 M)) : sT X e σ H1 Q := fun pins s I => by
  obtain ⟨sg, hp⟩ := same_hide hM.1 fr hs
  refine thn (h.run (pins ++ pinM s M) s (hide M H1) (fun v G2 => Same (hide M H1) G2 ∧ v = b) sg (hideM_inv hM I hp) fun G2 e2 => ⟨e2, rfl⟩) fun u s2 ⟨G2, I2, e2, r⟩ => ?_
  have fr2 : Fresh M G2 := fun p hp' => by
    obtain ⟨ob, e, _⟩ := okM_there hM I hp (show (p.1, p.2) ∈ M from hp')
    exact (I2.pin (p.1, ob) (by rw [← List.append_assoc]; exact List.mem_append_right _ (mem_pinM (show (p.1, p.2) ∈ M from hp') e))).2.1
  subst r
  refine ⟨Upds G2 M, showM_inv hM I hp e2 I2, k G2 (sg.trans e2) fr2 ?_⟩
  have q := upds_mono (M := M) e2
  rw [upds_hide hM.1 hp] at q
  exact q
theorem XA.fr {Q : List V → Hp → Prop} (h : XA X es σ G Rs) (hM : OkM M) (fr : Fresh M G) (hs : Same (Upds G M) H1) (k : ∀ vs G2, Same G G2 → Fresh M G2 → Same H1 (Upds G2 M) → AllR Rs vs G2 → Q vs (Upds G2 M)) : sA X es σ H1 Q := fun pos pins s I => by
  obtain ⟨sg, hp⟩ := same_hide hM.1 fr hs
  refine thn (h.run pos (pins ++ pinM s M) s (hide M H1) (fun v G2 => Same (hide M H1) G2 ∧ AllR Rs v G2) sg (hideM_inv hM I hp) fun v G2 e2 r => ⟨e2, r⟩) fun u s2 ⟨v, G2, I2, rv, e2, r⟩ => ?_
  have fr2 : Fresh M G2 := fun p hp' => by
    obtain ⟨ob, e, _⟩ := okM_there hM I hp (show (p.1, p.2) ∈ M from hp')
    exact (I2.pin (p.1, ob) (by rw [← List.append_assoc]; exact List.mem_append_right _ (mem_pinM (show (p.1, p.2) ∈ M from hp') e))).2.1
  refine ⟨v, Upds G2 M, showM_inv hM I hp e2 I2, rv, k v G2 (sg.trans e2) fr2 ?_ r⟩
  have q := upds_mono (M := M) e2
  rw [upds_hide hM.1 hp] at q
  exact q
end
end LM

set_option maxHeartbeats 4000000
namespace LM
open PySem PySem.Spec PyProof.Rows L2
/-! ### what is walked -/
abbrev YY := Hp → Nat → Hp → V → Hp → Prop
structure XI (X : Cx) (tg iter : Expr) (σ : St) (H : Hp) (n : Nat) (Y : YY) : Prop where
  run : ∀ (pins : List (Addr × Obj)) (s : Shared) (H1 : Hp) (R : It → Hp → Prop), Same H H1 → Inv X pins σ H1 s → (∀ J H2, Same H1 H2 → Walk J n (fun H' => Same H2 H') (Y H2) → R J H2) →
    wpAny (model X.prog X.w) X.A (eval iter X.env) (fun v s1 => wpAny (model X.prog X.w) X.A (pyIter v) (PIE X pins σ tg R) X.xe s1) X.xe s
def sI (X : Cx) (tg iter : Expr) : TI := fun σ H R => ∀ (pins : List (Addr × Obj)) (s : Shared), Inv X pins σ H s → wpAny (model X.prog X.w) X.A (eval iter X.env) (fun v s1 => wpAny (model X.prog X.w) X.A (pyIter v) (PIE X pins σ tg R) X.xe s1) X.xe s
section
variable {X : Cx} {tg iter e : Expr} {σ : St} {H H1 G : Hp} {n : Nat} {Y Y' : YY} {Rs : List VP} {pos : Pos} {M : Mp}
theorem pi_s : PI X tg iter (sI X tg iter) := ⟨fun pins s σ H R I h => h pins s I⟩
theorem XI.of {wi : TI} (h : PI X tg iter wi) (q : ∀ H1, Same H H1 → ∀ R : It → Hp → Prop, (∀ J H2, Same H1 H2 → Walk J n (fun H' => Same H2 H') (Y H2) → R J H2) → wi σ H1 R) : XI X tg iter σ H n Y := ⟨fun pins s H1 R e1 I k => h.run pins s σ H1 R I (q H1 e1 R k)⟩
theorem XI.s {R : It → Hp → Prop} (h : XI X tg iter σ H n Y) (hs : Same H H1) (k : ∀ J H2, Same H1 H2 → Walk J n (fun H' => Same H2 H') (Y H2) → R J H2) : sI X tg iter σ H1 R := fun pins s I => h.run pins s H1 R hs I k
theorem XI.mono {H' : Hp} (h : XI X tg iter σ H n Y) (hs : Same H H') : XI X tg iter σ H' n Y := ⟨fun pins s H1 R e1 I k => h.run pins s H1 R (hs.trans e1) I k⟩
theorem XI.fr {R : It → Hp → Prop} (h : XI X tg iter σ G n Y) (hM : OkM M) (fr : Fresh M G) (hs : Same (Upds G M) H1) (k : ∀ J G2, Same G G2 → Fresh M G2 → Same H1 (Upds G2 M) → Walk J n (fun H' => Same G2 H') (Y G2) → R J (Upds G2 M)) : sI X tg iter σ H1 R := fun pins s I => by
  obtain ⟨sg, hp⟩ := same_hide hM.1 fr hs
  refine thn (h.run (pins ++ pinM s M) s (hide M H1) (fun J G2 => Same (hide M H1) G2 ∧ Walk J n (fun H' => Same G2 H') (Y G2)) sg (hideM_inv hM I hp) fun J G2 e2 r => ⟨e2, r⟩) fun u s1 h1 => thn h1 fun itv s2 ⟨it, fp, tn, J, G2, e, I2, T, st2, f2, e2, w⟩ => ?_
  have pinF : ∀ {a : Addr} {o : HO}, (a, o) ∈ M → ∃ ob, (a, ob) ∈ X.pn ++ (pins ++ pinM s M) ∧ G2 a = none := fun {a o} ho => by
    obtain ⟨ob, e, _⟩ := okM_there hM I hp ho
    have m : (a, ob) ∈ X.pn ++ (pins ++ pinM s M) := by rw [← List.append_assoc]; exact List.mem_append_right _ (mem_pinM ho e)
    exact ⟨ob, m, (I2.pin _ m).2.1⟩
  have fr2 : Fresh M G2 := fun p hp' => (pinF (o := p.2) hp').choose_spec.2
  refine ⟨it, fp, tn, J, Upds G2 M, e, showM_inv hM I hp e2 I2, T, st2, fun b hb => ?_, k J G2 (sg.trans e2) fr2 ?_ w⟩
  · obtain ⟨q1, q2, q3, q4, q5, q6⟩ := f2 b hb
    refine ⟨?_, q2, q3, q4, q5, fun p hp' => q6 p (by rw [← List.append_assoc]; exact List.mem_append_left _ hp')⟩
    rw [upds_out]
    · exact q1
    · intro hm
      obtain ⟨p, hp', ep⟩ := List.mem_map.mp hm
      obtain ⟨ob, m, _⟩ := pinF (o := p.2) hp'
      exact q6 _ m ep
  · have q := upds_mono (M := M) e2
    rw [upds_hide hM.1 hp] at q
    exact q
/-- items told by relations, the heap as it was -/
def YR (Rs : List VP) : YY := fun H2 i H' x H'' => H'' = H' ∧ ∃ R, Rs[i]? = some R ∧ R x H2
theorem xi_list (h : XE X e σ H (SqLR X.K Rs)) : XI X tg e σ H Rs.length (YR Rs) :=
  XI.of (pi_list pe_s) fun H1 e1 R k => h.s e1 fun v H2 e2 ⟨a, xs, hv, hq, hr⟩ => ⟨a, hv, ⟨xs, hq⟩, k _ H2 e2 (by
    rw [← hr.length]
    exact walk_list.mono (fun H' e => sq_mono e hq) fun i H' x H'' _ _ y => ⟨y.1, hr.get y.2⟩)⟩
theorem xi_tup (h : XE X e σ H (SqTR X.K Rs)) : XI X tg e σ H Rs.length (YR Rs) :=
  XI.of (pi_tup pe_s) fun H1 e1 R k => h.s e1 fun v H2 e2 ⟨a, xs, hv, hq, hr⟩ => ⟨a, hv, ⟨xs, hq⟩, k _ H2 e2 (by
    rw [← hr.length]
    exact walk_tup.mono (fun H' e => st_mono e hq) fun i H' x H'' _ _ y => ⟨y.1, hr.get y.2⟩)⟩
def YX (xs : List V) : YY := fun _ i H' x H'' => H'' = H' ∧ xs[i]? = some x
theorem xi_listX {a : Addr} {xs : List V} (h : XV X e σ H (.ref a)) (hq : SqL X.K H a xs) : XI X tg e σ H xs.length (YX xs) :=
  XI.of (pi_list pe_s) fun H1 e1 R k => h.s e1 fun v H2 e2 q => by
    cases q
    exact ⟨a, rfl, ⟨xs, sq_mono (e1.trans e2) hq⟩, k _ H2 e2 (walk_list.mono (fun H' e => sq_mono ((e1.trans e2).trans e) hq) fun i H' x H'' _ _ y => y)⟩
theorem xi_tupX {a : Addr} {xs : List V} (h : XV X e σ H (.ref a)) (hq : SqT X.K H a xs) : XI X tg e σ H xs.length (YX xs) :=
  XI.of (pi_tup pe_s) fun H1 e1 R k => h.s e1 fun v H2 e2 q => by
    cases q
    exact ⟨a, rfl, ⟨xs, st_mono (e1.trans e2) hq⟩, k _ H2 e2 (walk_tup.mono (fun H' e => st_mono ((e1.trans e2).trans e) hq) fun i H' x H'' _ _ y => y)⟩
def YI (lo : Int) : YY := fun _ i H' x H'' => H'' = H' ∧ x = .int (lo + (i : Nat))
theorem xi_range {n : Int} {p : Pos} (hm : X.mg "range" = none) (h : XV X e σ H (.int n)) (hb : -(2 ^ 62) ≤ n ∧ n < 2 ^ 62) (hg : Gl X "range" := by rfl) (hs : starEach [e] X.env = [(false, eval e X.env)] := by rfl) : XI X tg (.Call (.Name "range" p) [e] [] pos) σ H n.toNat (YI 0) :=
  XI.of (pi_range1 hg hm (pa_cons pe_s pa_nil (by exact hs)) hs) fun H1 e1 R k => h.s e1 fun v H2 e2 q => by
    cases q
    exact ⟨n, rfl, hb.1, hb.2, k _ H2 e2 (walk_range.mono (fun _ _ => trivial) fun i H' x H'' _ _ y => y)⟩
theorem xi_range2 {a b : Expr} {lo n : Int} {p : Pos} (hm : X.mg "range" = none) (ha : XV X a σ H (.int lo)) (h : XV X b σ H (.int n)) (hb : (-(2 ^ 62) ≤ lo ∧ lo < 2 ^ 62 ∧ -(2 ^ 62) ≤ n ∧ n < 2 ^ 62)) (hg : Gl X "range" := by rfl) (hs : starEach [a, b] X.env = [(false, eval a X.env), (false, eval b X.env)] := by rfl) (hs2 : starEach [b] X.env = [(false, eval b X.env)] := by rfl) :
    XI X tg (.Call (.Name "range" p) [a, b] [] pos) σ H (n - lo).toNat (YI lo) :=
  XI.of (pi_range2 hg hm (pa_cons pe_s (pa_cons pe_s pa_nil (by exact hs2)) (by rw [hs, hs2])) hs hs2) fun H1 e1 R k => ha.s e1 fun v H2 e2 q => by
    cases q
    exact h.s (e1.trans e2) fun v H3 e3 q => by
      cases q
      exact ⟨lo, n, rfl, hb, k _ H3 (e2.trans e3) (walk_range.mono (fun _ _ => trivial) fun i H' x H'' _ _ y => y)⟩
/-- a text, sign by sign -/
def YC (z : Str) : YY := fun _ i H' x H'' => H'' = H' ∧ ∃ c, z.cps[i]? = some c ∧ x = .str ⟨#[c]⟩
theorem XI.len {n' : Nat} (h : XI X tg iter σ H n Y) (q : n = n') : XI X tg iter σ H n' Y := q ▸ h
theorem xi_str {z : Str} (h : XV X e σ H (.str z)) : XI X tg e σ H z.cps.toList.length (YC z) := XI.len (n := z.cps.size) (XI.of (pi_str pe_s) fun H1 e1 R k => h.s e1 fun v H2 e2 q => by
    cases q
    exact ⟨z, rfl, k _ H2 e2 (walk_str.mono (fun _ _ => trivial) fun i H' x H'' _ _ y => y)⟩) (by simp)
end
/-! ### for, over anything -/
section
variable {X : Cx} {iter tg : Expr} {body rest : List Stmt} {g : TG} {D : Ends} {σ : St} {G : Hp} {n : Nat} {Y : YY} {M : Mp} {pos : Pos}
def GMon (g : TG) : Prop := ∀ v σ H (P P' : St → Hp → Prop), (∀ σ' H', P σ' H' → P' σ' H') → g v σ H P → g v σ H P'
theorem gmon_name {i : Nat} : GMon (gName i) := fun _ _ _ _ _ h q => h _ _ q
theorem xs_for (hi : XI X tg iter σ G n Y) (hM : OkM M) (fr : Fresh M G) (hg : PG X tg g) (gm : GMon g) (Pv : Hp → Nat → St → Hp → Prop) (h0 : ∀ G2, Same G G2 → Fresh M G2 → Pv G2 0 σ (Upds G2 M))
    (hG : ∀ G2 i σ' H', Pv G2 i σ' H' → Same G2 H')
    (ht : ∀ G2 i x σ' H' H'', Same G G2 → i < n → Pv G2 i σ' H' → Y G2 i H' x H'' → g x σ' H'' fun σ2 H2 => XSs X body { D with nx := Pv G2 (i + 1), ct := Pv G2 (i + 1), bk := fun σ' H' => XSs X rest D σ' H' } σ2 H2)
    (hd : ∀ G2 σ' H', Same G G2 → Pv G2 n σ' H' → XSs X rest D σ' H')
    (hp : PassesOwn (model X.prog X.w) X.A X.env X.xe := by exact PassesOwn.never) (hc : X.calm = true := by rfl) (hf : ∀ x, foldedSetIterable iter X.env x = pure x := by intro _; rfl) : XSs X (.For tg iter body [] pos :: rest) D σ (Upds G M) :=
  xs_stepX (ps_for hp hc pi_s hg pss_s hf) fun H1 e1 => hi.fr hM fr e1 fun J G2 e2 fr2 e3 w => for_it w (Pv G2) (h0 G2 e2 fr2) (fun i σ' H' _ p => hG G2 i σ' H' p)
    (fun i x σ' H' H'' hlt p y => gm x σ' H'' _ _ (fun _ _ h => h.s (Same.refl _)) (ht G2 i x σ' H' H'' e2 hlt p y)) (fun σ' H' p => hd G2 σ' H' e2 p)
end
/-! ### comprehensions -/
/-- a comprehension as a value, and stored at once -/
structure XL (X : Cx) (e : Expr) (σ : St) (H : Hp) (R : VP) : Prop where
  val : XE X e σ H R
  set : ∀ {i : Nat} {y : Str} {py spos : Pos} {rest : List Stmt} {D : Ends}, X.N[i]? = some y → X.env.scope.names.lookup y = some .local → swapsWith e (some (.Name y py)) spos.line X.env = pure true →
    (∀ v H1, Same H H1 → R v H1 → XSs X rest D (σ.set i (some v)) H1) → XSs X (.Assign [.Name y py] e spos :: rest) D σ H
theorem XL.imp {X : Cx} {e : Expr} {σ : St} {H : Hp} {R R' : VP} (h : XL X e σ H R) (hr : ∀ v H2, Same H H2 → R v H2 → R' v H2) : XL X e σ H R' := ⟨h.val.imp hr, fun a b c k => h.set a b c fun v H1 s r => k v H1 s (hr v H1 s r)⟩
abbrev bk (X : Cx) (scope : Scope) (s : Shared) (H : Hp) (C : Addr) (cl : List (Str × Addr)) (fp : List Addr) : Cx := X.blk s H scope (compEnvC scope cl C X.env) fp
/-- the block's expression, whatever the block's own context is -/
def sEB (X : Cx) (scope : Scope) (e : Expr) : TE := fun σ H Q => ∀ s0 H0 C cl fp, sE (bk X scope s0 H0 C cl fp) e σ H Q
def sTB (X : Cx) (scope : Scope) (e : Expr) : TT := fun σ H Q => ∀ s0 H0 C cl fp, sT (bk X scope s0 H0 C cl fp) e σ H Q
def XEB (X : Cx) (scope : Scope) (e : Expr) (σ : St) (H : Hp) (R : VP) : Prop := ∀ s0 H0 C cl fp, XE (bk X scope s0 H0 C cl fp) e σ H R
def XTB (X : Cx) (scope : Scope) (e : Expr) (σ : St) (H : Hp) (b : Bool) : Prop := ∀ s0 H0 C cl fp, XT (bk X scope s0 H0 C cl fp) e σ H b
def XTsB (X : Cx) (scope : Scope) : List Expr → St → Hp → Bool → Prop
  | [], _, _, b => b = true
  | [e], σ, H, b => XTB X scope e σ H b
  | _, _, _, _ => False
def sTsB (X : Cx) (scope : Scope) : List Expr → TT
  | [] => tYes
  | [e] => sTB X scope e
  | _ => fun _ _ _ => False
section
variable {X : Cx} {scope : Scope} {e : Expr} {σ : St} {H H' G : Hp} {R : VP} {M : Mp}
theorem pe_sB (s0 H0 C cl fp) : PE (bk X scope s0 H0 C cl fp) e (sEB X scope e) := ⟨fun pins s σ H Q I h => h s0 H0 C cl fp pins s I⟩
theorem pts_sB : ∀ (ifs : List Expr) (s0 H0 C cl fp), PTs (bk X scope s0 H0 C cl fp) ifs (sTsB X scope ifs)
  | [], s0, H0, C, cl, fp => pts_nil
  | [c], s0, H0, C, cl, fp => pts_one ⟨fun pins s σ H Q I h => h s0 H0 C cl fp pins s I⟩
  | _ :: _ :: _, s0, H0, C, cl, fp => ⟨fun pins s σ H Q I h => h.elim⟩
theorem XEB.fr {Q : VK} (h : XEB X scope e σ G R) (hM : OkM M) (fr : Fresh M G) (hs : Same (Upds G M) H') (k : ∀ v G2, Same G G2 → Fresh M G2 → Same H' (Upds G2 M) → R v G2 → Q v (Upds G2 M)) : sEB X scope e σ H' Q := fun s0 H0 C cl fp => (h s0 H0 C cl fp).fr hM fr hs k
theorem XTsB.fr {Q : Bool → Hp → Prop} {b : Bool} (hM : OkM M) (fr : Fresh M G) : ∀ {ifs : List Expr}, XTsB X scope ifs σ G b → (∀ G2, Same G G2 → Fresh M G2 → Q b (Upds G2 M)) → sTsB X scope ifs σ (Upds G M) Q
  | [], h, k => by
    cases (show b = true from h)
    exact k G (Same.refl _) fr
  | [c], h, k => fun s0 H0 C cl fp => XT.fr (h s0 H0 C cl fp) hM fr (Same.refl _) fun G2 e f _ => k G2 e f
  | _ :: _ :: _, h, _ => h.elim
end
theorem okM_lst (D : Addr) (ys : List V) : OkM [(D, .lst ys)] := ⟨by simp, fun p hp => by cases List.mem_singleton.mp hp; trivial⟩
theorem fresh1 {D : Addr} {o : HO} {G : Hp} (h : G D = none) : Fresh [(D, o)] G := fun p hp => by cases List.mem_singleton.mp hp; exact h
section
variable {X : Cx} {elt tg iter : Expr} {ifs : List Expr} {scope : Scope} {own : List (Str × Nat)} {pos : Pos} {g : TG} {σ : St} {H : Hp} {n : Nat} {Y : YY} {p : Nat → Bool} {f : Nat → VP}
def keptN (n : Nat) (p : Nat → Bool) (f : Nat → VP) : List VP := ((List.range n).filter p).map f
theorem keptN_succ (n : Nat) (p : Nat → Bool) (f : Nat → VP) : keptN (n + 1) p f = keptN n p f ++ (if p n = true then [f n] else []) := by
  unfold keptN
  rw [List.range_succ]
  cases hp : p n <;> simp [List.filter_append, List.filter_cons, hp]
theorem keptN_len (n : Nat) (p : Nat → Bool) (f : Nat → VP) : (keptN n p f).length ≤ n := by
  unfold keptN
  rw [List.length_map]
  exact Nat.le_trans (List.length_filter_le _ _) (by simp)
theorem monL_keptN {n : Nat} {p : Nat → Bool} {f : Nat → VP} (hm : ∀ i, Mon (f i)) : MonL (keptN n p f) := by
  unfold keptN
  generalize (List.range n).filter p = l
  induction l with
  | nil => exact .nil
  | cons a r ih => exact .cons (hm a) ih
/-- the invariant: a heap G without the new list at D; the list holds what was kept -/
def InvB (p : Nat → Bool) (f : Nat → VP) (G2 : Hp) (D : Addr) (i : Nat) (H : Hp) : Prop := ∃ G ys, H = Upds G [(D, .lst ys)] ∧ G D = none ∧ Same G2 G ∧ AllR (keptN i p f) ys G
/-- the comprehension: a turn is told from G (a heap without the new list): the item x that comes, the target's slots, the tests, the element -/
theorem xl_lc (hm : ∀ i, Mon (f i)) (hi : XI X tg iter σ H n Y) (hn : n ≤ 500000) (hN : X.N.Nodup) (ok : BlkOk X.N X.env.scope scope own)
    (hg : ∀ s0 H0 C cl fp, PG (bk X scope s0 H0 C cl fp) tg g)
    (ht : ∀ G2 i x G' H'' D ys, Same H G2 → i < n → Same G2 G' → G' D = none → Y G2 i (Upds G' [(D, .lst ys)]) x H'' →
      g x (wipe σ (own.map (·.2))) H'' fun σ2 H2 => ∃ G3, H2 = Upds G3 [(D, .lst ys)] ∧ G3 D = none ∧ Same G' G3 ∧ wipe σ2 (own.map (·.2)) = wipe σ (own.map (·.2)) ∧ XTsB X scope ifs σ2 G3 (p i) ∧ (p i = true → XEB X scope elt σ2 G3 (f i)))
    (gm : GMon g) (hc : X.calm = true := by rfl) (hs : ∀ x, foldedSetIterable iter X.env x = pure x := by intro _; rfl) : XL X (.ListComp elt [⟨tg, iter, ifs, 0⟩] scope pos) σ H (LstR (keptN n p f)) :=
  by
  have T : ∀ H1, Same H H1 → ∀ Q : VK, (∀ v H2, Same H1 H2 → LstR (keptN n p f) v H2 → Q v H2) → tLc (sI X tg iter) g (sTsB X scope ifs) (sEB X scope elt) (own.map (·.2)) σ H1 Q := fun H1 e1 Q k => hi.s e1 fun J H2 e2 w => fun D hD => by
      refine lc_it w (InvB p f H2 D) ⟨H2, [], rfl, hD, Same.refl _, trivial⟩ (fun i H' _ ⟨G, ys, hH, hGD, sG, _⟩ => by rw [hH]; exact sG.trans (upds_ge (fresh1 hGD))) (fun i x H' H'' hlt ⟨G, ys, hH, hGD, sG, hr⟩ y => ?_) fun H' ⟨G, ys, hH, hGD, sG, hr⟩ => ?_
      · subst hH
        refine gm x _ _ _ _ (fun σ2 H2' h => ?_) (ht H2 i x G H'' D ys (e1.trans e2) hlt sG hGD y)
        obtain ⟨G3, hH2, hG3, s3, hw, htt, hee⟩ := h
        subst hH2
        refine ⟨hw, htt.fr (okM_lst D ys) (fresh1 hG3) fun G4 s4 f4 => ?_⟩
        have g4 : G4 D = none := f4 (D, .lst ys) (by simp)
        cases hp : p i with
        | true =>
          rw [if_pos rfl]
          refine XEB.fr (G := G4) (fun s0 H0 C cl fp => (hee hp s0 H0 C cl fp).mono s4) (okM_lst D ys) (fresh1 g4) (Same.refl _) fun v G5 s5 f5 _ rv => ⟨ys, upd_same, ?_, G5, ys ++ [v], ?_, f5 (D, .lst ys) (by simp), ((sG.trans s3).trans s4).trans s5, ?_⟩
          · rw [hr.length]
            exact sz_lt (Nat.lt_of_le_of_lt (keptN_len i p f) (by omega))
          · show upd (upd G5 D (.lst ys)) D (.lst (ys ++ [v])) = upd G5 D (.lst (ys ++ [v]))
            exact upd_upd
          · rw [keptN_succ, if_pos hp]
            exact (AllR.mono (monL_keptN hm) ((s3.trans s4).trans s5) hr).append ⟨rv, trivial⟩
        | false =>
          rw [if_neg Bool.false_ne_true]
          refine ⟨G4, ys, rfl, g4, (sG.trans s3).trans s4, ?_⟩
          rw [keptN_succ, if_neg (by rw [hp]; exact Bool.false_ne_true), List.append_nil]
          exact AllR.mono (monL_keptN hm) (s3.trans s4) hr
      · subst hH
        refine k (.ref D) _ (e2.trans (sG.trans (upds_ge (fresh1 hGD)))) ⟨D, ys, rfl, upd_same, AllR.mono (monL_keptN hm) (upds_ge (fresh1 hGD)) hr⟩
  exact ⟨XE.of (pe_lc hc hN pi_s ok hg (pts_sB ifs) pe_sB hs) T, fun {i y py spos rest D} hy hyl hsw k => xs_stepX (t := tAsg (tLc (sI X tg iter) g (sTsB X scope ifs) (sEB X scope elt) (own.map Prod.snd)) (gName i)) (ps_setLc hc hN hy hyl hsw pi_s ok hg (pts_sB ifs) pe_sB hs) fun H1 e1 => T H1 e1 _ fun v H2 e2 r => k v H2 (e1.trans e2) r⟩
theorem xe_lc (hm : ∀ i, Mon (f i)) (hi : XI X tg iter σ H n Y) (hn : n ≤ 500000) (hN : X.N.Nodup) (ok : BlkOk X.N X.env.scope scope own)
    (hg : ∀ s0 H0 C cl fp, PG (bk X scope s0 H0 C cl fp) tg g)
    (ht : ∀ G2 i x G' H'' D ys, Same H G2 → i < n → Same G2 G' → G' D = none → Y G2 i (Upds G' [(D, .lst ys)]) x H'' →
      g x (wipe σ (own.map (·.2))) H'' fun σ2 H2 => ∃ G3, H2 = Upds G3 [(D, .lst ys)] ∧ G3 D = none ∧ Same G' G3 ∧ wipe σ2 (own.map (·.2)) = wipe σ (own.map (·.2)) ∧ XTsB X scope ifs σ2 G3 (p i) ∧ (p i = true → XEB X scope elt σ2 G3 (f i)))
    (gm : GMon g) (hc : X.calm = true := by rfl) (hs : ∀ x, foldedSetIterable iter X.env x = pure x := by intro _; rfl) : XE X (.ListComp elt [⟨tg, iter, ifs, 0⟩] scope pos) σ H (LstR (keptN n p f)) := (xl_lc hm hi hn hN ok hg ht gm hc hs).val
end
end LM

set_option maxHeartbeats 4000000
namespace LM
open PySem PySem.Spec PyProof.Rows L2
/-! ### comprehensions whose target is a name -/
section
variable {X : Cx} {elt iter : Expr} {ifs : List Expr} {scope : Scope} {own : List (Str × Nat)} {pos tpos : Pos} {tn : Str} {σ : St} {H : Hp} {Y : YY} {α : Type} {src : List α} {rel ff : α → VP} {pp : α → Bool} {j : Nat}
def pAt (src : List α) (pp : α → Bool) (i : Nat) : Bool := match src[i]? with
  | some a => pp a
  | none => false
def fAt (src : List α) (ff : α → VP) (i : Nat) : VP := match src[i]? with
  | some a => ff a
  | none => Is .non
theorem keptN_src (pp : α → Bool) (ff : α → VP) : ∀ (src : List α), keptN src.length (pAt src pp) (fAt src ff) = (src.filter pp).map ff := by
  intro src
  have key : ∀ k, k ≤ src.length → keptN k (pAt src pp) (fAt src ff) = ((src.take k).filter pp).map ff := by
    intro k
    induction k with
    | zero => intro _; simp [keptN]
    | succ k ih =>
      intro hk
      have hlt : k < src.length := by omega
      have e : src[k]? = some src[k] := by simp [hlt]
      have et : src.take (k + 1) = src.take k ++ [src[k]] := by rw [List.take_succ, e]; rfl
      rw [keptN_succ, ih (by omega), et, List.filter_append, List.map_append]
      have e1 : pAt src pp k = pp src[k] := by unfold pAt; rw [e]
      have e2 : fAt src ff k = ff src[k] := by unfold fAt; rw [e]
      rw [e1, e2]
      congr 1
      cases hp : pp src[k] <;> simp [List.filter_cons, hp]
  rw [key _ (Nat.le_refl _), List.take_length]
theorem mon_fAt (hm : ∀ a, Mon (ff a)) (i : Nat) : Mon (fAt src ff i) := by
  unfold fAt
  split
  · exact hm _
  · infer_instance
/-- the items of src, told by rel -/
def YS {α : Type} (src : List α) (rel : α → VP) (Y : YY) : Prop := ∀ G2 i H' x H'', Y G2 i H' x H'' → H'' = H' ∧ ∃ a, src[i]? = some a ∧ rel a x G2
theorem ys_R : YS src rel (YR (src.map rel)) := fun G2 i H' x H'' ⟨h1, R, h2, h3⟩ => by
  rw [List.getElem?_map] at h2
  cases q : src[i]? with
  | none => rw [q] at h2; cases h2
  | some a => rw [q] at h2; cases h2; exact ⟨h1, a, rfl, h3⟩
theorem ys_X (enc : α → V) : YS src (fun a => Is (enc a)) (YX (src.map enc)) := fun G2 i H' x H'' ⟨h1, h2⟩ => by
  rw [List.getElem?_map] at h2
  cases q : src[i]? with
  | none => rw [q] at h2; cases h2
  | some a => rw [q] at h2; cases h2; exact ⟨h1, a, rfl, rfl⟩
theorem ys_C (z : Str) : YS z.cps.toList (fun c => Is (.str ⟨#[c]⟩)) (YC z) := fun G2 i H' x H'' ⟨h1, c, h2, h3⟩ => ⟨h1, c, by rw [Array.getElem?_toList]; exact h2, h3⟩
theorem ys_I (n : Nat) (lo : Int) : ∀ G2 i H' x H'', i < n → YI lo G2 i H' x H'' → H'' = H' ∧ ∃ a, (List.range n)[i]? = some a ∧ Is (.int (lo + (a : Nat))) x G2 := fun G2 i H' x H'' hi ⟨h1, h2⟩ => ⟨h1, i, by simp [hi], h2⟩
theorem xl_lcS (hi : XI X (.Name tn tpos) iter σ H src.length Y) (hY : ∀ G2 i H' x H'', i < src.length → Y G2 i H' x H'' → H'' = H' ∧ ∃ a, src[i]? = some a ∧ rel a x G2) (hmr : ∀ a, Mon (rel a)) (hm : ∀ a, Mon (ff a)) (hn : src.length ≤ 500000) (hN : X.N.Nodup) (ok : BlkOk X.N X.env.scope scope own)
    (hg : ∀ s0 H0 C cl fp, PG (bk X scope s0 H0 C cl fp) (.Name tn tpos) (gName j))
    (ht : ∀ a x G', a ∈ src → Same H G' → rel a x G' → XTsB X scope ifs ((wipe σ (own.map (·.2))).set j (some x)) G' (pp a) ∧ (pp a = true → XEB X scope elt ((wipe σ (own.map (·.2))).set j (some x)) G' (ff a)))
    (hw : ∀ x, wipe ((wipe σ (own.map (·.2))).set j (some x)) (own.map (·.2)) = wipe σ (own.map (·.2)) := by intro _; rfl) (hc : X.calm = true := by rfl) (hs : ∀ x, foldedSetIterable iter X.env x = pure x := by intro _; rfl) :
    XL X (.ListComp elt [⟨.Name tn tpos, iter, ifs, 0⟩] scope pos) σ H (LstR ((src.filter pp).map ff)) := by
  rw [← keptN_src]
  refine xl_lc (mon_fAt hm) hi hn hN ok hg (fun G2 i x G' H'' D ys e1 hlt e2 hD y => ?_) gmon_name hc hs
  obtain ⟨hH, a, ha, hr⟩ := hY _ _ _ _ _ hlt y
  obtain ⟨t1, t2⟩ := ht a x G' (List.mem_of_getElem? ha) (e1.trans e2) ((hmr a).mono x _ _ e2 hr)
  have p1 : pAt src pp i = pp a := by unfold pAt; rw [ha]
  have p2 : fAt src ff i = ff a := by unfold fAt; rw [ha]
  exact ⟨G', hH, hD, Same.refl _, hw x, by rw [p1]; exact t1, by rw [p1, p2]; exact t2⟩
theorem xe_lcS (hi : XI X (.Name tn tpos) iter σ H src.length Y) (hY : ∀ G2 i H' x H'', i < src.length → Y G2 i H' x H'' → H'' = H' ∧ ∃ a, src[i]? = some a ∧ rel a x G2) (hmr : ∀ a, Mon (rel a)) (hm : ∀ a, Mon (ff a)) (hn : src.length ≤ 500000) (hN : X.N.Nodup) (ok : BlkOk X.N X.env.scope scope own)
    (hg : ∀ s0 H0 C cl fp, PG (bk X scope s0 H0 C cl fp) (.Name tn tpos) (gName j))
    (ht : ∀ a x G', a ∈ src → Same H G' → rel a x G' → XTsB X scope ifs ((wipe σ (own.map (·.2))).set j (some x)) G' (pp a) ∧ (pp a = true → XEB X scope elt ((wipe σ (own.map (·.2))).set j (some x)) G' (ff a)))
    (hw : ∀ x, wipe ((wipe σ (own.map (·.2))).set j (some x)) (own.map (·.2)) = wipe σ (own.map (·.2)) := by intro _; rfl) (hc : X.calm = true := by rfl) (hs : ∀ x, foldedSetIterable iter X.env x = pure x := by intro _; rfl) :
    XE X (.ListComp elt [⟨.Name tn tpos, iter, ifs, 0⟩] scope pos) σ H (LstR ((src.filter pp).map ff)) := (xl_lcS hi hY hmr hm hn hN ok hg ht hw hc hs).val
end
theorem filter_true {α : Type} (l : List α) : l.filter (fun _ => true) = l := by induction l <;> simp_all
/-! ### what lists say -/
theorem lstR_data {K : PySem.W.Frag} {H : Hp} {v : V} {ds : List PyData} (h : LstR (ds.map (Dn K)) v H) : Dp K H v (.list ds) := by
  obtain ⟨a, xs, rfl, ha, hr⟩ := h
  exact .lst (SqL.of ha) (allR_data hr)
theorem lstR_is {H : Hp} {v : V} {xs : List V} (h : LstR (xs.map Is) v H) : ∃ a, v = .ref a ∧ H a = some (.lst xs) := by
  obtain ⟨a, ys, rfl, ha, hr⟩ := h
  rw [allR_is hr] at ha
  exact ⟨a, rfl, ha⟩
theorem tupR_is {H : Hp} {v : V} {xs : List V} (h : TupR (xs.map Is) v H) : ∃ a, v = .ref a ∧ H a = some (.tup xs) := by
  obtain ⟨a, ys, rfl, ha, hr⟩ := h
  rw [allR_is hr] at ha
  exact ⟨a, rfl, ha⟩
/-- a new list of these values; a new tuple -/
def LstV (xs : List V) : VP := fun v H => ∃ a, v = .ref a ∧ H a = some (.lst xs)
def TupV (xs : List V) : VP := fun v H => ∃ a, v = .ref a ∧ H a = some (.tup xs)
instance (xs : List V) : Mon (LstV xs) := ⟨fun _ _ _ e ⟨a, h1, h2⟩ => ⟨a, h1, e _ _ h2⟩⟩
instance (xs : List V) : Mon (TupV xs) := ⟨fun _ _ _ e ⟨a, h1, h2⟩ => ⟨a, h1, e _ _ h2⟩⟩
section
variable {X : Cx} {e o : Expr} {es : List Expr} {σ : St} {H : Hp} {R : VP} {Rs : List VP} {pos apos : Pos} {xs : List V}
theorem XE.lstV (h : XE X e σ H (LstR (xs.map Is))) : XE X e σ H (LstV xs) := h.imp fun _ _ _ r => lstR_is r
theorem XE.tupV (h : XE X e σ H (TupR (xs.map Is))) : XE X e σ H (TupV xs) := h.imp fun _ _ _ r => tupR_is r
/-! ### built-in functions -/
variable {nm : Str} {p : Pos}
theorem rc_of {r : List V → Hp → VK → Prop} {vs : List V} (h : ∀ H1, Same H H1 → ∀ Q : VK, (∀ v H2, Same H1 H2 → R v H2 → Q v H2) → r vs H1 Q) : RC r vs H R := h
theorem xe_lenL {x : V} {n : Nat} (hm : X.mg "len" = none) (ha : XE X e σ H R) (h : ∀ v H1, Same H H1 → R v H1 → ∃ a ys, v = .ref a ∧ (SqL X.K H1 a ys ∨ SqT X.K H1 a ys) ∧ ys.length = n) [Mon R] (hg : Gl X "len" := by rfl)
    (he : starEach [e] X.env = (false, eval e X.env) :: starEach [] X.env := by rfl) (hpl : (backTo pos (starEach [] X.env)).any (·.1) = false := by rfl) : XV X (.Call (.Name "len" p) [e] [] pos) σ H (.int n) :=
  xe_callB call_len_seq hm (xa_cons ha xa_nil he) (fun vs H1 s1 hr H2 s2 Q k => by
    match vs, hr with
    | [v], hr =>
      obtain ⟨a, ys, rfl, hq, hl⟩ := h v H1 s1 hr.1
      subst hl
      exact ⟨a, ys, rfl, hq.imp (sq_mono s2) (st_mono s2), k _ H2 (Same.refl _) rfl⟩) PySem.boot_len hg (by decide) (by decide) he hpl
theorem xe_len {a : Addr} {ys : List V} (hm : X.mg "len" = none) (ha : XV X e σ H (.ref a)) (hq : SqL X.K H a ys ∨ SqT X.K H a ys) (hg : Gl X "len" := by rfl)
    (he : starEach [e] X.env = (false, eval e X.env) :: starEach [] X.env := by rfl) (hpl : (backTo pos (starEach [] X.env)).any (·.1) = false := by rfl) : XV X (.Call (.Name "len" p) [e] [] pos) σ H (.int ys.length) :=
  xe_lenL (x := .non) hm ha (fun v H1 s1 r => ⟨a, ys, r, hq.imp (sq_mono s1) (st_mono s1), rfl⟩) hg he hpl
theorem xe_lenS {z : Str} (hm : X.mg "len" = none) (ha : XV X e σ H (.str z)) (hz : z.length ≤ 1000000) (hg : Gl X "len" := by rfl)
    (he : starEach [e] X.env = (false, eval e X.env) :: starEach [] X.env := by rfl) (hpl : (backTo pos (starEach [] X.env)).any (·.1) = false := by rfl) : XV X (.Call (.Name "len" p) [e] [] pos) σ H (.int z.length) :=
  xe_callB call_len_str hm (xa_cons ha xa_nil he) (fun vs H1 s1 hr H2 s2 Q k => by
    match vs, hr with
    | [v], hr =>
      cases hr.1
      exact ⟨z, rfl, sz_of hz, k _ H2 (Same.refl _) rfl⟩) PySem.boot_len hg (by decide) (by decide) he hpl
theorem xe_all {bs : List Bool} (hm : X.mg "all" = none) (ha : XE X e σ H (LstV (bs.map V.bl))) (hc : X.calm = true := by rfl) (hg : Gl X "all" := by rfl)
    (he : starEach [e] X.env = (false, eval e X.env) :: starEach [] X.env := by rfl) (hpl : (backTo pos (starEach [] X.env)).any (·.1) = false := by rfl) : XV X (.Call (.Name "all" p) [e] [] pos) σ H (.bl (bs.all id)) :=
  xe_callB (cr_all hc) hm (xa_cons ha xa_nil he) (fun vs H1 s1 hr H2 s2 Q k => by
    match vs, hr with
    | [v], hr =>
      obtain ⟨a, rfl, h2⟩ := hr.1
      exact ⟨a, bs, rfl, SqL.of (s2 _ _ h2), k _ H2 (Same.refl _) rfl⟩) (by decide +kernel) hg (by decide) (by decide) he hpl
theorem xe_any {bs : List Bool} (hm : X.mg "any" = none) (ha : XE X e σ H (LstV (bs.map V.bl))) (hc : X.calm = true := by rfl) (hg : Gl X "any" := by rfl)
    (he : starEach [e] X.env = (false, eval e X.env) :: starEach [] X.env := by rfl) (hpl : (backTo pos (starEach [] X.env)).any (·.1) = false := by rfl) : XV X (.Call (.Name "any" p) [e] [] pos) σ H (.bl (bs.any id)) :=
  xe_callB (cr_any hc) hm (xa_cons ha xa_nil he) (fun vs H1 s1 hr H2 s2 Q k => by
    match vs, hr with
    | [v], hr =>
      obtain ⟨a, rfl, h2⟩ := hr.1
      exact ⟨a, bs, rfl, SqL.of (s2 _ _ h2), k _ H2 (Same.refl _) rfl⟩) (by decide +kernel) hg (by decide) (by decide) he hpl
/-- isinstance(x, T) -/
theorem xe_isi {cE : Expr} {x c : V} {t u : Value} {b : Bool} (hm : X.mg "isinstance" = none) (ha : XV X e σ H x) (hcl : XV X cE σ H c) (hcv : ClsV c u) (hty : ∀ H1, Same H H1 → TyX X.K H1 x t) (hk : PySem.W.kitOne X.K t u = some b) (hg : Gl X "isinstance" := by rfl)
    (he : starEach [e, cE] X.env = (false, eval e X.env) :: starEach [cE] X.env := by rfl) (he2 : starEach [cE] X.env = (false, eval cE X.env) :: starEach [] X.env := by rfl) (hpl : (backTo pos (starEach [cE] X.env)).any (·.1) = false := by rfl) : XV X (.Call (.Name "isinstance" p) [e, cE] [] pos) σ H (.bl b) :=
  xe_callB call_isi hm (xa_cons ha (xa_cons hcl xa_nil he2) he) (fun vs H1 s1 hr H2 s2 Q k => by
    match vs, hr with
    | [v, w], hr =>
      cases hr.1
      cases hr.2.1
      exact ⟨x, c, t, u, b, rfl, hcv, hty H2 (s1.trans s2), hk, k _ H2 (Same.refl _) rfl⟩) (by decide +kernel) hg (by decide) (by decide) he hpl
/-- a built-in type's name as a value -/
theorem xe_ty {nm : Str} {T : String} (hm : X.mg nm = none) (hv : bootBuiltins nm = some (.type T)) (hg : Gl X nm := by rfl) (hn : nm ≠ "__name__" := by decide) (hd : (nm == ("__debug__" : Str)) = false := by decide) : XV X (.Name nm pos) σ H (.ty T) :=
  XE.of (pe_bltn (v := .ty T) hg hm hv rfl hn hd) fun H1 _ Q k => k _ H1 (Same.refl _) rfl
/-- methods of built-in types -/
def RM (r : V → List V → Hp → VK → Prop) (x : V) (vs : List V) (H : Hp) (R : VP) : Prop := ∀ H1, Same H H1 → ∀ Q : VK, (∀ v H2, Same H1 H2 → R v H2 → Q v H2) → r x vs H1 Q
theorem xe_sm1 {id : String} {name : Str} {r : V → List V → Hp → VK → Prop} {a : Str} (slot : Slot "str" name id) (ty : typeOf (.builtin id) = pure (.type "method_descriptor")) (rule : MtR X id r) {arg : Expr} {Ra : VP} [Mon Ra] (ho : XV X o σ H (.str a)) (ha : XE X arg σ H Ra)
    (hr : ∀ y H1, Same H H1 → Ra y H1 → RM r (.str a) [y] H1 R)
    (hs : starEach [arg] X.env = [(false, eval arg X.env)] := by rfl) (hbase : attributeBase o name X.env (eval o X.env) = eval o X.env := by rfl) (hline : (apos.endLine == pos.line) = true := by rfl) : XE X (.Call (.Attribute o name apos) [arg] [] pos) σ H R :=
  XE.of (pe_m1 slot ty rule pe_s pe_s hs hbase hline) fun H1 e1 Q k => ho.s e1 fun v H2 e2 q => by
    cases q
    exact ⟨⟨a, rfl⟩, ha.s (e1.trans e2) fun y H3 e3 r => hr y H3 ((e1.trans e2).trans e3) r H3 (Same.refl _) Q fun v H4 e4 q => k v H4 ((e2.trans e3).trans e4) q⟩
theorem xe_split {a b : Str} {arg : Expr} (ho : XV X o σ H (.str a)) (ha : XV X arg σ H (.str b)) (hb : (b.length == 0) = false) (hz : a.length + 2 ≤ 1000000)
    (hs : starEach [arg] X.env = [(false, eval arg X.env)] := by rfl) (hbase : attributeBase o "split" X.env (eval o X.env) = eval o X.env := by rfl) (hline : (apos.endLine == pos.line) = true := by rfl) : XE X (.Call (.Attribute o "split" apos) [arg] [] pos) σ H (LstV ((Txt.split a b).map V.str)) :=
  xe_sm1 F.slot_str_split F.type_str_split mt_split ho ha (fun y H1 e1 r H2 e2 Q k => by
    cases r
    exact ⟨a, b, rfl, rfl, hb, sz_of hz, fun p hp => k _ _ (newS hp) ⟨p, rfl, upd_same⟩⟩) hs hbase hline
theorem xe_join {a : Str} {ys : List Str} {arg : Expr} {Ra : VP} [Mon Ra] (ho : XV X o σ H (.str a)) (ha : XE X arg σ H Ra) (hq : ∀ v H1, Same H H1 → Ra v H1 → ∃ p, v = .ref p ∧ (SqL X.K H1 p (ys.map V.str) ∨ SqT X.K H1 p (ys.map V.str))) (hz : (ys.map (·.length)).sum + ys.length * a.length ≤ 1000000)
    (hs : starEach [arg] X.env = [(false, eval arg X.env)] := by rfl) (hbase : attributeBase o "join" X.env (eval o X.env) = eval o X.env := by rfl) (hline : (apos.endLine == pos.line) = true := by rfl) : XV X (.Call (.Attribute o "join" apos) [arg] [] pos) σ H (.str (Txt.join a ys)) :=
  xe_sm1 F.slot_str_join F.type_str_join mt_join ho ha (fun y H1 e1 r H2 e2 Q k => by
    obtain ⟨p, rfl, h⟩ := hq y H1 e1 r
    exact ⟨a, p, ys, rfl, rfl, h.imp (sq_mono e2) (st_mono e2), Nat.le_trans hz (by decide), k _ H2 (Same.refl _) rfl⟩) hs hbase hline
theorem xe_removeprefix {a b : Str} {arg : Expr} (ho : XV X o σ H (.str a)) (ha : XV X arg σ H (.str b)) (hz : a.length ≤ 1000000)
    (hs : starEach [arg] X.env = [(false, eval arg X.env)] := by rfl) (hbase : attributeBase o "removeprefix" X.env (eval o X.env) = eval o X.env := by rfl) (hline : (apos.endLine == pos.line) = true := by rfl) : XV X (.Call (.Attribute o "removeprefix" apos) [arg] [] pos) σ H (.str (Txt.removeprefix a b)) :=
  xe_sm1 F.slot_str_removeprefix F.type_str_removeprefix mt_removeprefix ho ha (fun y H1 e1 r H2 e2 Q k => by
    cases r
    exact ⟨a, b, rfl, rfl, sz_of hz, k _ H2 (Same.refl _) rfl⟩) hs hbase hline
/-- t.index(x), t a tuple of texts of the module -/
theorem xe_tupIndex {arg : Expr} {a : Addr} {ys : List Str} {z : Str} {j : Nat} (ho : XV X o σ H (.ref a)) (ha : XV X arg σ H (.str z)) (hq : SqT X.K H a (ys.map V.str)) (hk : ∃ ob, X.K.lookup a = some ob ∧ ob.cls = .type "tuple" ∧ ob.dict = none) (hy : ys[j]? = some z) (hno : ∀ m, m < j → ys[m]? ≠ some z)
    (hbase : attributeBase o "index" X.env (eval o X.env) = eval o X.env := by rfl)
    (hfew : ((backTo pos (starEach [arg] X.env)).all (fun x => !x.1) && (backToKw pos (keywordEach [] X.env)).all (fun x => x.1.isSome)
      && decide ([arg].length + ([] : List Keyword).length + (if ([] : List Keyword).isEmpty then 0 else 1) < 30)) = true := by rfl)
    (hline : (apos.endLine == pos.line) = true := by rfl) (hs1 : starEach [arg] X.env = (false, eval arg X.env) :: starEach [] X.env := by rfl) (hplain : (backTo pos (starEach [] X.env)).any (·.1) = false := by rfl) :
    XV X (.Call (.Attribute o "index" apos) [arg] [] pos) σ H (.int j) :=
  XE.of (pe_bm PySem.F.plainAttrs_tuple PySem.F.slot_tuple_index PySem.F.type_tuple_index mt_tup_index pe_s (pa_cons pe_s pa_nil hs1) hbase hfew hline hs1 hplain) fun H1 e1 Q k => ho.s e1 fun v H2 e2 q => by
    cases q
    refine ⟨Or.inr (Or.inl ⟨rfl, hk⟩), ha.s (e1.trans e2) fun v H3 e3 q => ?_⟩
    cases q
    exact ⟨a, ys, z, j, rfl, rfl, st_mono ((e1.trans e2).trans e3) hq, hy, hno, k _ H3 (e2.trans e3) rfl⟩
end
end LM

set_option maxHeartbeats 4000000
namespace LM
open PySem PySem.Spec PyProof.Rows L2
section
variable {X : Cx} {a b c : Expr} {σ : St} {H : Hp} {pos : Pos} {x y z : V} {p q : Bool}
theorem xt_chain {op op' : CmpOp} {r r' : R2} (ho : OpR X (compareOp op) r) (ho' : OpR X (compareOp op') r') (ha : XV X a σ H x) (hb : XV X b σ H y) (hc : XV X c σ H z) (h1 : RV r x y H (Is (.bl p))) (h2 : p = true → RV r' y z H (Is (.bl q)))
    (hm : lastMarks [op, op'] [b, c] = false := by with_unfolding_all rfl) : XT X (.Compare a [op, op'] [b, c] pos) σ H (p && q) :=
  XT.of (pt_chain ho ho' pe_s pe_s pe_s hm) fun H1 e Q k => ha.s e fun v H2 e2 q' => by
    cases q'
    refine hb.s (e.trans e2) fun v H3 e3 q' => ?_
    cases q'
    refine h1 H3 ((e.trans e2).trans e3) _ fun v H4 e4 q' => ?_
    cases q'
    refine ⟨p, rfl, ?_⟩
    cases p with
    | false => exact iteF ⟨false, rfl, k H4 ((e2.trans e3).trans e4)⟩
    | true =>
      refine iteT (hc.s (((e.trans e2).trans e3).trans e4) fun v H5 e5 q' => ?_)
      cases q'
      refine h2 rfl H5 ((((e.trans e2).trans e3).trans e4).trans e5) _ fun v H6 e6 q' => ?_
      cases q'
      exact ⟨q, rfl, k H6 ((((e2.trans e3).trans e4).trans e5).trans e6)⟩
end
theorem inV_strs (z : Str) (ss : List Str) : inV (.str z) (ss.map V.str) = decide (z ∈ ss) := by
  unfold inV
  induction ss with
  | nil => simp
  | cons s r ih =>
    rw [List.map_cons, List.any_cons, ih]
    have : eqV (.str s) (.str z) = decide (z = s) := by
      show (s == z) = decide (z = s)
      by_cases h : z = s
      · subst h; simp
      · rw [decide_eq_false h]; exact beq_eq_false_iff_ne.mpr (fun e => h e.symm)
    rw [this]
    simp
theorem flat_strs (ss : List Str) : (ss.map V.str).all flatV = true := by
  rw [List.all_map]
  exact List.all_eq_true.mpr fun _ _ => rfl
theorem rv_inS {K : PySem.W.Frag} {H : Hp} {z : Str} {a : Addr} {ss : List Str} (h : SqL K H a (ss.map V.str) ∨ SqT K H a (ss.map V.str)) : RV (rIn K false) (.str z) (.ref a) H (Is (.bl (decide (z ∈ ss)))) := by
  have := rv_in (x := .str z) h rfl (flat_strs ss)
  rwa [inV_strs] at this
theorem rv_ninS {K : PySem.W.Frag} {H : Hp} {z : Str} {a : Addr} {ss : List Str} (h : SqL K H a (ss.map V.str) ∨ SqT K H a (ss.map V.str)) : RV (rIn K true) (.str z) (.ref a) H (Is (.bl (!decide (z ∈ ss)))) := by
  have := rv_nin (x := .str z) h rfl (flat_strs ss)
  rwa [inV_strs] at this
theorem dec_str' {i j : Str} : decide (V.str i = V.str j) = decide (i = j) := by
  by_cases h : i = j
  · subst h; simp
  · rw [decide_eq_false h, decide_eq_false (fun e => h (V.str.inj e))]
theorem rv_eqS {H : Hp} {i j : Str} : RV rEq (.str i) (.str j) H (Is (.bl (decide (i = j)))) := by
  have := rv_eq (H := H) (x := .str i) (y := .str j) rfl
  rwa [dec_str'] at this
theorem rv_neS {H : Hp} {i j : Str} : RV rNe (.str i) (.str j) H (Is (.bl (!decide (i = j)))) := by
  have := rv_ne (H := H) (x := .str i) (y := .str j) rfl
  rwa [dec_str'] at this
theorem dec_int' {i j : Int} : decide (V.int i = V.int j) = decide (i = j) := by
  by_cases h : i = j
  · subst h; simp
  · rw [decide_eq_false h, decide_eq_false (fun e => h (V.int.inj e))]
theorem rv_eqI {H : Hp} {i j : Int} : RV rEq (.int i) (.int j) H (Is (.bl (decide (i = j)))) := by
  have := rv_eq (H := H) (x := .int i) (y := .int j) rfl
  rwa [dec_int'] at this
theorem dec_bl' {i j : Bool} : decide (V.bl i = V.bl j) = (i == j) := by cases i <;> cases j <;> rfl
theorem rv_eqB {H : Hp} {i j : Bool} : RV rEq (.bl i) (.bl j) H (Is (.bl (i == j))) := by
  have := rv_eq (H := H) (x := .bl i) (y := .bl j) rfl
  rwa [dec_bl'] at this
theorem rv_neB {H : Hp} {i j : Bool} : RV rNe (.bl i) (.bl j) H (Is (.bl (!(i == j)))) := by
  have := rv_ne (H := H) (x := .bl i) (y := .bl j) rfl
  rwa [dec_bl'] at this
theorem rv_sign {H : Hp} {c : Nat} {z : Str} : RV (fun x y H Q => ∃ (c : Nat) (z : Str), x = .str ⟨#[c]⟩ ∧ y = .str z ∧ Q (.bl (decide (c ∈ z.cps.toList))) H) (.str ⟨#[c]⟩) (.str z) H (Is (.bl (decide (c ∈ z.cps.toList)))) := fun H1 _ Q k => ⟨c, z, rfl, rfl, k _ H1 (Same.refl _) rfl⟩
section
variable {X : Cx} {σ : St} {H : Hp} {pos : Pos}
theorem xe_globR {x : Str} {a : Addr} (hm : X.mg x = some (.ref a)) (hg : Gl X x := by rfl) (hd : (x == ("__debug__" : Str)) = false := by decide) : XV X (.Name x pos) σ H (.ref a) := xe_glob (v := .ref a) hm rfl hg hd
theorem xe_globS {x z : Str} (hm : ∃ t, X.mg x = some (.str z t)) (hg : Gl X x := by rfl) (hd : (x == ("__debug__" : Str)) = false := by decide) : XV X (.Name x pos) σ H (.str z) := by
  obtain ⟨t, h⟩ := hm
  exact xe_glob (v := .str z) h ⟨t, rfl⟩ hg hd
theorem XE.bools {e : Expr} {α : Type} {src : List α} {g : α → Bool} (h : XE X e σ H (LstR ((src.filter fun _ => true).map fun a => Is (.bl (g a))))) : XE X e σ H (LstV ((src.map g).map V.bl)) := by
  rw [filter_true] at h
  exact XE.lstV (h.imp fun v H2 _ r => by
    rw [List.map_map, List.map_map]
    exact r)
theorem XE.vals {e : Expr} {α : Type} {src : List α} {g : α → V} (h : XE X e σ H (LstR (src.map fun a => Is (g a)))) : XE X e σ H (LstV (src.map g)) :=
  XE.lstV (h.imp fun v H2 _ r => by
    rw [List.map_map]
    exact r)
end
section
variable {X : Cx} {elt iter : Expr} {ifs : List Expr} {scope : Scope} {own : List (Str × Nat)} {pos tpos : Pos} {tn : Str} {σ : St} {H : Hp} {α : Type} {src : List α} {enc : α → V} {ff : α → VP} {pp : α → Bool} {j : Nat} {ad : Addr}
/-- over a list or tuple whose items are known -/
theorem xe_lcV (hx : XV X iter σ H (.ref ad)) (hq : SqL X.K H ad (src.map enc) ∨ SqT X.K H ad (src.map enc)) (hm : ∀ a, Mon (ff a)) (hn : src.length ≤ 500000) (hN : X.N.Nodup) (ok : BlkOk X.N X.env.scope scope own)
    (hg : ∀ s0 H0 C cl fp, PG (bk X scope s0 H0 C cl fp) (.Name tn tpos) (gName j))
    (ht : ∀ a G', a ∈ src → Same H G' → XTsB X scope ifs ((wipe σ (own.map (·.2))).set j (some (enc a))) G' (pp a) ∧ (pp a = true → XEB X scope elt ((wipe σ (own.map (·.2))).set j (some (enc a))) G' (ff a)))
    (hw : ∀ x, wipe ((wipe σ (own.map (·.2))).set j (some x)) (own.map (·.2)) = wipe σ (own.map (·.2)) := by intro _; rfl) (hc : X.calm = true := by rfl) (hs : ∀ x, foldedSetIterable iter X.env x = pure x := by intro _; rfl) :
    XE X (.ListComp elt [⟨.Name tn tpos, iter, ifs, 0⟩] scope pos) σ H (LstR ((src.filter pp).map ff)) := by
  have t := fun (a : α) (x : V) (G' : Hp) (ha : a ∈ src) (e : Same H G') (hr : Is (enc a) x G') => show XTsB X scope ifs ((wipe σ (own.map (·.2))).set j (some x)) G' (pp a) ∧ (pp a = true → XEB X scope elt ((wipe σ (own.map (·.2))).set j (some x)) G' (ff a)) from by
    cases hr
    exact ht a G' ha e
  rcases hq with hq | hq
  · exact xe_lcS (rel := fun a => Is (enc a)) (XI.len (xi_listX hx hq) (by simp)) (fun _ _ _ _ _ _ => ys_X enc _ _ _ _ _) (fun _ => inferInstance) hm hn hN ok hg t hw hc hs
  · exact xe_lcS (rel := fun a => Is (enc a)) (XI.len (xi_tupX hx hq) (by simp)) (fun _ _ _ _ _ _ => ys_X enc _ _ _ _ _) (fun _ => inferInstance) hm hn hN ok hg t hw hc hs
/-- no tests: the values -/
theorem xe_lcVals {g : α → V} (hx : XV X iter σ H (.ref ad)) (hq : SqL X.K H ad (src.map enc) ∨ SqT X.K H ad (src.map enc)) (hn : src.length ≤ 500000) (hN : X.N.Nodup) (ok : BlkOk X.N X.env.scope scope own)
    (hg : ∀ s0 H0 C cl fp, PG (bk X scope s0 H0 C cl fp) (.Name tn tpos) (gName j))
    (ht : ∀ a G', a ∈ src → Same H G' → XEB X scope elt ((wipe σ (own.map (·.2))).set j (some (enc a))) G' (Is (g a)))
    (hw : ∀ x, wipe ((wipe σ (own.map (·.2))).set j (some x)) (own.map (·.2)) = wipe σ (own.map (·.2)) := by intro _; rfl) (hc : X.calm = true := by rfl) (hs : ∀ x, foldedSetIterable iter X.env x = pure x := by intro _; rfl) :
    XE X (.ListComp elt [⟨.Name tn tpos, iter, [], 0⟩] scope pos) σ H (LstV (src.map g)) := by
  have h := xe_lcV (pos := pos) (ifs := []) (pp := fun _ => true) (ff := fun a => Is (g a)) hx hq (fun _ => inferInstance) hn hN ok hg (fun a G' ha e => ⟨rfl, fun _ => ht a G' ha e⟩) hw hc hs
  rw [filter_true] at h
  exact XE.vals h
theorem xe_lcBools {g : α → Bool} (hx : XV X iter σ H (.ref ad)) (hq : SqL X.K H ad (src.map enc) ∨ SqT X.K H ad (src.map enc)) (hn : src.length ≤ 500000) (hN : X.N.Nodup) (ok : BlkOk X.N X.env.scope scope own)
    (hg : ∀ s0 H0 C cl fp, PG (bk X scope s0 H0 C cl fp) (.Name tn tpos) (gName j))
    (ht : ∀ a G', a ∈ src → Same H G' → XEB X scope elt ((wipe σ (own.map (·.2))).set j (some (enc a))) G' (Is (.bl (g a))))
    (hw : ∀ x, wipe ((wipe σ (own.map (·.2))).set j (some x)) (own.map (·.2)) = wipe σ (own.map (·.2)) := by intro _; rfl) (hc : X.calm = true := by rfl) (hs : ∀ x, foldedSetIterable iter X.env x = pure x := by intro _; rfl) :
    XE X (.ListComp elt [⟨.Name tn tpos, iter, [], 0⟩] scope pos) σ H (LstV ((src.map g).map V.bl)) := by
  rw [List.map_map]
  exact xe_lcVals (g := fun a => V.bl (g a)) hx hq hn hN ok hg ht hw hc hs
theorem xe_lcStrs {g : α → Str} (hx : XV X iter σ H (.ref ad)) (hq : SqL X.K H ad (src.map enc) ∨ SqT X.K H ad (src.map enc)) (hn : src.length ≤ 500000) (hN : X.N.Nodup) (ok : BlkOk X.N X.env.scope scope own)
    (hg : ∀ s0 H0 C cl fp, PG (bk X scope s0 H0 C cl fp) (.Name tn tpos) (gName j))
    (ht : ∀ a G', a ∈ src → Same H G' → XEB X scope elt ((wipe σ (own.map (·.2))).set j (some (enc a))) G' (Is (.str (g a))))
    (hw : ∀ x, wipe ((wipe σ (own.map (·.2))).set j (some x)) (own.map (·.2)) = wipe σ (own.map (·.2)) := by intro _; rfl) (hc : X.calm = true := by rfl) (hs : ∀ x, foldedSetIterable iter X.env x = pure x := by intro _; rfl) :
    XE X (.ListComp elt [⟨.Name tn tpos, iter, [], 0⟩] scope pos) σ H (LstV ((src.map g).map V.str)) := by
  rw [List.map_map]
  exact xe_lcVals (g := fun a => V.str (g a)) hx hq hn hN ok hg ht hw hc hs
/-- one test, the items themselves -/
theorem xe_lcKeep {t : Expr} (hx : XV X iter σ H (.ref ad)) (hq : SqL X.K H ad (src.map enc) ∨ SqT X.K H ad (src.map enc)) (hn : src.length ≤ 500000) (hN : X.N.Nodup) (ok : BlkOk X.N X.env.scope scope own)
    (hg : ∀ s0 H0 C cl fp, PG (bk X scope s0 H0 C cl fp) (.Name tn tpos) (gName j)) {epos : Pos} (hv : ∀ s0 H0 C cl fp x G', XV (bk X scope s0 H0 C cl fp) (.Name tn epos) ((wipe σ (own.map (·.2))).set j (some x)) G' x)
    (ht : ∀ a G', a ∈ src → Same H G' → XTB X scope t ((wipe σ (own.map (·.2))).set j (some (enc a))) G' (pp a))
    (hw : ∀ x, wipe ((wipe σ (own.map (·.2))).set j (some x)) (own.map (·.2)) = wipe σ (own.map (·.2)) := by intro _; rfl) (hc : X.calm = true := by rfl) (hs : ∀ x, foldedSetIterable iter X.env x = pure x := by intro _; rfl) :
    XE X (.ListComp (.Name tn epos) [⟨.Name tn tpos, iter, [t], 0⟩] scope pos) σ H (LstV ((src.filter pp).map enc)) :=
  XE.vals (xe_lcV (pos := pos) (ifs := [t]) (ff := fun a => Is (enc a)) hx hq (fun _ => inferInstance) hn hN ok hg (fun a G' ha e => ⟨ht a G' ha e, fun _ s0 H0 C cl fp => hv s0 H0 C cl fp _ _⟩) hw hc hs)
end
section
variable {X : Cx} {e : Expr} {σ : St} {H : Hp} {R : VP} {pos p : Pos} {xs : List V}
/-- tuple(e), e a new list -/
theorem xe_tupleL (hm : X.mg "tuple" = none) (ha : XE X e σ H (LstV xs)) (hg : Gl X "tuple" := by rfl)
    (he : starEach [e] X.env = (false, eval e X.env) :: starEach [] X.env := by rfl) (hpl : (backTo pos (starEach [] X.env)).any (·.1) = false := by rfl) : XE X (.Call (.Name "tuple" p) [e] [] pos) σ H (TupV xs) :=
  xe_callTy call_tuple_of hm (xa_cons ha xa_nil he) (fun vs H1 s1 hr H2 s2 Q k => by
    match vs, hr with
    | [v], hr =>
      obtain ⟨a, rfl, h2⟩ := hr.1
      exact ⟨a, xs, rfl, .inl ⟨SqL.of (s2 _ _ h2), fun l hl => k _ _ (newS hl) ⟨l, rfl, upd_same⟩⟩⟩) (by decide +kernel) hg (by decide) (by decide) he hpl
/-- tuple(e), e anything listed -/
theorem xe_tupleR {Rs : List VP} (hml : MonL Rs) (hm : X.mg "tuple" = none) (ha : XE X e σ H (LstR Rs)) (hg : Gl X "tuple" := by rfl)
    (he : starEach [e] X.env = (false, eval e X.env) :: starEach [] X.env := by rfl) (hpl : (backTo pos (starEach [] X.env)).any (·.1) = false := by rfl) : XE X (.Call (.Name "tuple" p) [e] [] pos) σ H (TupR Rs) := by
  haveI : Mon (LstR Rs) := ⟨fun v H H' e ⟨a, ys, h1, h2, h3⟩ => ⟨a, ys, h1, e _ _ h2, AllR.mono hml e h3⟩⟩
  exact xe_callTy call_tuple_of hm (xa_cons ha xa_nil he) (fun vs H1 s1 hr H2 s2 Q k => by
    match vs, hr with
    | [v], hr =>
      obtain ⟨a, ys, rfl, h2, h3⟩ := hr.1
      exact ⟨a, ys, rfl, .inl ⟨SqL.of (s2 _ _ h2), fun l hl => k _ _ (newS hl) ⟨l, ys, rfl, upd_same, AllR.mono hml (s2.trans (newS hl)) h3⟩⟩⟩) (by decide +kernel) hg (by decide) (by decide) he hpl
/-- slices of lists -/
inductive SlO (X : Cx) (σ : St) (H : Hp) : Option Expr → Option Int → Prop
  | none : SlO X σ H none none
  | some {e : Expr} {i : Int} (h : XV X e σ H (.int i)) : SlO X σ H (some e) (some i)
theorem SlO.po {lo : Option Expr} {i : Option Int} (h : SlO X σ H lo i) : ∃ t, PO X lo t ∧ ∀ H1, Same H H1 → ∀ Q : Option Int → Hp → Prop, (∀ H2, Same H1 H2 → Q i H2) → t σ H1 Q := by
  cases h with
  | none => exact ⟨_, po_none, fun H1 _ Q k => k H1 (Same.refl _)⟩
  | @some e i h => exact ⟨_, po_some pe_s, fun H1 s Q k => h.s s fun v H2 e2 q => by cases q; exact ⟨i, rfl, k H2 e2⟩⟩
theorem xe_sliceL {lo hi : Option Expr} {i j : Option Int} {a : Addr} {p2 : Pos} (he : XV X e σ H (.ref a)) (hq : SqL X.K H a xs) (h1 : SlO X σ H lo i) (h2 : SlO X σ H hi j) : XE X (.Subscript e (.Slice lo hi none p2) pos) σ H (LstV (cutV xs i j)) := by
  obtain ⟨t1, p1, q1⟩ := h1.po
  obtain ⟨t2, p2', q2⟩ := h2.po
  exact XE.of (pe_slice sl_list pe_s p1 p2') fun H1 s1 Q k => he.s s1 fun v H2 e2 q => by
    cases q
    exact q1 H2 (s1.trans e2) _ fun H3 e3 => q2 H3 ((s1.trans e2).trans e3) _ fun H4 e4 => ⟨a, xs, rfl, sq_mono (((s1.trans e2).trans e3).trans e4) hq, fun p hp => k _ _ (((e2.trans e3).trans e4).trans (newS hp)) ⟨p, rfl, upd_same⟩⟩
end
end LM

set_option maxHeartbeats 4000000
namespace LM
open PySem PySem.Spec PyProof.Rows L2
theorem okM_dK (D : Addr) (kvs : List (Key × V)) : OkM [(D, .dK kvs)] := ⟨by simp, fun p hp => by cases List.mem_singleton.mp hp; trivial⟩
section
variable {X : Cx} {kx vx iter tg : Expr} {scope : Scope} {own : List (Str × Nat)} {pos tpos : Pos} {tn : Str} {σ : St} {H : Hp} {j : Nat} {ad : Addr} {ss : List Str}
def InvD (ss : List Str) (G2 : Hp) (D : Addr) (i : Nat) (H : Hp) : Prop := ∃ G kvs, H = Upds G [(D, .dK kvs)] ∧ G D = none ∧ Same G2 G ∧ kvs.map (·.1) = (ss.take i).map Sum.inr
/-- {x: v for x in ss}, ss all different texts -/
theorem xe_dcKeys (hi : XI X (.Name tn tpos) iter σ H ss.length (YX (ss.map V.str))) (hnd : ss.Nodup) (hn : ss.length ≤ 500000) (hN : X.N.Nodup) (ok : BlkOk X.N X.env.scope scope own)
    (hg : ∀ s0 H0 C cl fp, PG (bk X scope s0 H0 C cl fp) (.Name tn tpos) (gName j))
    (hk : ∀ (z : Str) G', XEB X scope kx ((wipe σ (own.map (·.2))).set j (some (.str z))) G' (Is (.str z))) {v : V} (hv : ∀ (z : Str) G', XEB X scope vx ((wipe σ (own.map (·.2))).set j (some (.str z))) G' (Is v))
    (hw : ∀ x, wipe ((wipe σ (own.map (·.2))).set j (some x)) (own.map (·.2)) = wipe σ (own.map (·.2)) := by intro _; rfl) (hc : X.calm = true := by rfl) (hs : ∀ x, foldedSetIterable iter X.env x = pure x := by intro _; rfl) :
    XE X (.DictComp kx vx [⟨.Name tn tpos, iter, [], 0⟩] scope pos) σ H (fun u H' => ∃ d kvs, u = .ref d ∧ H' d = some (.dK kvs) ∧ kvs.length = ss.length) :=
  XE.of (pe_dc hc hN pi_s ok hg (fun _ _ _ _ _ => pts_nil) pe_sB pe_sB hs) fun H1 e1 Q k => hi.s e1 fun J H2 e2 w => fun D hD => by
    refine ⟨fun i m H => m = ss.length - i ∧ i ≤ ss.length ∧ InvD ss H2 D i H, ⟨ss.length, by simp, Nat.zero_le _, H2, [], rfl, hD, Same.refl _, rfl⟩, ?_⟩
    rintro i m H' ⟨rfl, hle, G, kvs, rfl, hGD, sG, hkv⟩
    have sH : Same H2 (Upds G [(D, .dK kvs)]) := sG.trans (upds_ge (fresh1 hGD))
    by_cases hlt : i < ss.length
    · refine .inr ⟨w.goes i _ hlt sH, InvD ss H2 D (i + 1), fun H' p' => ⟨ss.length - (i + 1), by omega, rfl, hlt, p'⟩, fun x H' y => ?_⟩
      obtain ⟨rfl, hx⟩ := w.yields i _ x H' hlt sH y
      rw [List.getElem?_map] at hx
      have hz : ss[i]? = some ss[i] := by simp [hlt]
      rw [hz] at hx
      cases hx
      refine ⟨hw _, ?_⟩
      unfold tYes
      dsimp only
      rw [if_pos rfl]
      refine XEB.fr (G := G) (hk _ _) (okM_dK D kvs) (fresh1 hGD) (Same.refl _) fun v1 G3 s3 f3 _ q => ?_
      cases q
      refine XEB.fr (G := G3) (hv _ _) (okM_dK D kvs) f3 (Same.refl _) fun v2 G4 s4 f4 _ q => ?_
      cases q
      have lk : kvs.length = i := by
        have := congrArg List.length hkv
        simpa [Nat.min_eq_left hle] using this
      refine ⟨kvs, .inr ss[i], rfl, upd_same, sz_lt (by omega), G4, putK kvs (.inr ss[i]) v, ?_, f4 (D, .dK kvs) (by simp), (sG.trans s3).trans s4, ?_⟩
      · show upd (upd G4 D (.dK kvs)) D _ = upd G4 D _
        exact upd_upd
      · have hno : valV kvs (Sum.inr ss[i]) = none := by
          cases hq : valV kvs (Sum.inr ss[i]) with
          | none => rfl
          | some u =>
            have hm := valV_in hq
            rw [hkv, List.mem_map] at hm
            obtain ⟨z, hz1, hz2⟩ := hm
            obtain ⟨k', hk'⟩ := List.mem_iff_getElem?.mp hz1
            have hk2 : k' < i := by
              by_cases hc : k' < i
              · exact hc
              · rw [List.getElem?_take, if_neg hc] at hk'; cases hk'
            rw [List.getElem?_take, if_pos hk2] at hk'
            have : k' = i := (List.getElem?_inj (by omega) hnd).mp (by rw [hk', Sum.inr.inj hz2, hz])
            omega
        have et : ss.take (i + 1) = ss.take i ++ [ss[i]] := by rw [List.take_succ, hz]; rfl
        rw [putK_new _ hno, List.map_append, hkv, et, List.map_append]
        rfl
    · have e : i = ss.length := by omega
      subst e
      refine .inl ⟨w.stops _ sH, k _ _ (e2.trans sH) ⟨D, kvs, rfl, upd_same, ?_⟩⟩
      have := congrArg List.length hkv
      simpa using this
end
end LM

set_option maxHeartbeats 4000000
namespace LM
open PySem PySem.Spec PyProof.Rows L2
section
variable {X : Cx} {k j : Nat} {x m : Str} {e e1 e2 e3 o : Expr} {es : List Expr} {σ : St} {H : Hp} {R R1 R2 R3 : VP} {p pos apos : Pos} {C a dx : Addr} {fs : List (Str × V)} {pre : List V → Hp → VP → Prop} {x1 x2 x3 : V}
theorem xe_call1 (c : Cal (wd X) k x (Pure pre)) (hr : Room j X.A) (h1 : XV X e1 σ H x1) (hp : ∀ H1, Same H H1 → pre [x1] H1 R) (hk : k ≤ j := by decide) (hg : Gl X x := by rfl)
    (hdb : (x == ("__debug__" : Str)) = false := by decide) (he : starEach [e1] X.env = (false, eval e1 X.env) :: starEach [] X.env := by rfl) (hpl : (backTo pos (starEach [] X.env)).any (·.1) = false := by rfl) : XE X (.Call (.Name x p) [e1] [] pos) σ H R :=
  xe_call c hr (xa_cons h1 xa_nil he) (fun vs H1 s hr => match vs, hr with | [v], hr => by cases hr.1; exact hp H1 s) hk hg hdb he hpl
theorem xe_call2 (c : Cal (wd X) k x (Pure pre)) (hr : Room j X.A) (h1 : XV X e1 σ H x1) (h2 : XV X e2 σ H x2) (hp : ∀ H1, Same H H1 → pre [x1, x2] H1 R) (hk : k ≤ j := by decide) (hg : Gl X x := by rfl)
    (hdb : (x == ("__debug__" : Str)) = false := by decide) (he : starEach [e1, e2] X.env = (false, eval e1 X.env) :: starEach [e2] X.env := by rfl) (he2 : starEach [e2] X.env = (false, eval e2 X.env) :: starEach [] X.env := by rfl) (hpl : (backTo pos (starEach [e2] X.env)).any (·.1) = false := by rfl) : XE X (.Call (.Name x p) [e1, e2] [] pos) σ H R :=
  xe_call c hr (xa_cons h1 (xa_cons h2 xa_nil he2) he) (fun vs H1 s hr => match vs, hr with | [v, w], hr => by cases hr.1; cases hr.2.1; exact hp H1 s) hk hg hdb he hpl
theorem xe_call3 (c : Cal (wd X) k x (Pure pre)) (hr : Room j X.A) (h1 : XV X e1 σ H x1) (h2 : XV X e2 σ H x2) (h3 : XV X e3 σ H x3) (hp : ∀ H1, Same H H1 → pre [x1, x2, x3] H1 R) (hk : k ≤ j := by decide) (hg : Gl X x := by rfl)
    (hdb : (x == ("__debug__" : Str)) = false := by decide) (he : starEach [e1, e2, e3] X.env = (false, eval e1 X.env) :: starEach [e2, e3] X.env := by rfl) (he2 : starEach [e2, e3] X.env = (false, eval e2 X.env) :: starEach [e3] X.env := by rfl) (he3 : starEach [e3] X.env = (false, eval e3 X.env) :: starEach [] X.env := by rfl) (hpl : (backTo pos (starEach [e2, e3] X.env)).any (·.1) = false := by rfl) : XE X (.Call (.Name x p) [e1, e2, e3] [] pos) σ H R :=
  xe_call c hr (xa_cons h1 (xa_cons h2 (xa_cons h3 xa_nil he3) he2) he) (fun vs H1 s hr => match vs, hr with | [v, w, u], hr => by cases hr.1; cases hr.2.1; cases hr.2.2.1; exact hp H1 s) hk hg hdb he hpl
/-- one argument, told by a relation -/
theorem xe_callR [Mon R1] (c : Cal (wd X) k x (Pure pre)) (hr : Room j X.A) (h1 : XE X e1 σ H R1) (hp : ∀ v H1, Same H H1 → R1 v H1 → pre [v] H1 R) (hk : k ≤ j := by decide) (hg : Gl X x := by rfl)
    (hdb : (x == ("__debug__" : Str)) = false := by decide) (he : starEach [e1] X.env = (false, eval e1 X.env) :: starEach [] X.env := by rfl) (hpl : (backTo pos (starEach [] X.env)).any (·.1) = false := by rfl) : XE X (.Call (.Name x p) [e1] [] pos) σ H R :=
  xe_call c hr (xa_cons h1 xa_nil he) (fun vs H1 s hr => match vs, hr with | [v], hr => hp v H1 s hr.1) hk hg hdb he hpl
theorem xe_callR2 [Mon R1] [Mon R2] (c : Cal (wd X) k x (Pure pre)) (hr : Room j X.A) (h1 : XE X e1 σ H R1) (h2 : XE X e2 σ H R2) (hp : ∀ v w H1, Same H H1 → R1 v H1 → R2 w H1 → pre [v, w] H1 R) (hk : k ≤ j := by decide) (hg : Gl X x := by rfl)
    (hdb : (x == ("__debug__" : Str)) = false := by decide) (he : starEach [e1, e2] X.env = (false, eval e1 X.env) :: starEach [e2] X.env := by rfl) (he2 : starEach [e2] X.env = (false, eval e2 X.env) :: starEach [] X.env := by rfl) (hpl : (backTo pos (starEach [e2] X.env)).any (·.1) = false := by rfl) : XE X (.Call (.Name x p) [e1, e2] [] pos) σ H R :=
  xe_call c hr (xa_cons h1 (xa_cons h2 xa_nil he2) he) (fun vs H1 s hr => match vs, hr with | [v, w], hr => hp v w H1 s hr.1 hr.2.1) hk hg hdb he hpl
theorem xe_meth1 {pl : Sem Bool} (c : Met (wd X) k C m (Pure pre)) (hr : Room j X.A) (ho : XV X o σ H (.ref a)) (hi : H a = some (.ins C dx fs)) (hn : fs.lookup m = none) (h1 : XV X e1 σ H x1)
    (hp : ∀ H1, Same H H1 → pre [.ref a, x1] H1 R) (hk : k ≤ j := by decide) (hst : starEach [e1] X.env = (false, eval e1 X.env) :: starEach [] X.env := by rfl) (hpl : (backTo pos (starEach [] X.env)).any (·.1) = false := by rfl)
    (ht : eval (.Call (.Attribute o m apos) [e1] [] pos) X.env = (do
      let ov ← eval o X.env
      standAt apos.atName
      let (f, first) ← holding [ov] (getMethod ov m pl)
      callWith pos f first (backTo pos (starEach [e1] X.env)) (backToKw pos (keywordEach [] X.env))) := by rfl) : XE X (.Call (.Attribute o m apos) [e1] [] pos) σ H R :=
  xe_meth c hr ho hi hn (xa_cons h1 xa_nil hst) (fun vs H1 s hr => match vs, hr with | [v], hr => by cases hr.1; exact hp H1 s) hk hst hpl ht
theorem xe_meth2 {pl : Sem Bool} (c : Met (wd X) k C m (Pure pre)) (hr : Room j X.A) (ho : XV X o σ H (.ref a)) (hi : H a = some (.ins C dx fs)) (hn : fs.lookup m = none) (h1 : XV X e1 σ H x1) (h2 : XV X e2 σ H x2)
    (hp : ∀ H1, Same H H1 → pre [.ref a, x1, x2] H1 R) (hk : k ≤ j := by decide) (hst : starEach [e1, e2] X.env = (false, eval e1 X.env) :: starEach [e2] X.env := by rfl) (hst2 : starEach [e2] X.env = (false, eval e2 X.env) :: starEach [] X.env := by rfl) (hpl : (backTo pos (starEach [e2] X.env)).any (·.1) = false := by rfl)
    (ht : eval (.Call (.Attribute o m apos) [e1, e2] [] pos) X.env = (do
      let ov ← eval o X.env
      standAt apos.atName
      let (f, first) ← holding [ov] (getMethod ov m pl)
      callWith pos f first (backTo pos (starEach [e1, e2] X.env)) (backToKw pos (keywordEach [] X.env))) := by rfl) : XE X (.Call (.Attribute o m apos) [e1, e2] [] pos) σ H R :=
  xe_meth c hr ho hi hn (xa_cons h1 (xa_cons h2 xa_nil hst2) hst) (fun vs H1 s hr => match vs, hr with | [v, w], hr => by cases hr.1; cases hr.2.1; exact hp H1 s) hk hst hpl ht
/-! f-strings -/
inductive XJ (X : Cx) (σ : St) (H : Hp) : List Expr → List Str → Prop
  | nil : XJ X σ H [] []
  | cons {e : Expr} {es : List Expr} {z : Str} {zs : List Str} (h : XV X e σ H (.str z)) (r : XJ X σ H es zs) : XJ X σ H (e :: es) (z :: zs)
theorem xj_run {es : List Expr} {zs : List Str} (h : XJ X σ H es zs) : ∃ ts, PJ X es ts ∧ ∀ (acc : Str) H1, Same H H1 → acc.length + (zs.map (·.length)).sum ≤ 1000000 → ∀ Q : Str → Hp → Prop, (∀ H2, Same H1 H2 → Q (zs.foldl (· ++ ·) acc) H2) → tJs ts acc σ H1 Q := by
  induction h with
  | nil => exact ⟨[], .nil, fun acc H1 _ _ Q k => k H1 (Same.refl _)⟩
  | @cons e es z zs hz r ih =>
    obtain ⟨ts, p, q⟩ := ih
    refine ⟨_, .cons pe_s p, fun acc H1 s hl Q k => hz.s s fun v H2 e2 r => ?_⟩
    cases r
    have hl2 : acc.length + (z.length + (zs.map (·.length)).sum) ≤ 1000000 := hl
    have hc : (acc ++ z).length = acc.length + z.length := by
      show (acc.cps ++ z.cps).size = _
      simp [Str.length]
    refine ⟨z, rfl, by rw [hc]; exact sz_of (by omega), q (acc ++ z) H2 (s.trans e2) (by rw [hc]; omega) Q fun H3 e3 => k H3 (e2.trans e3)⟩
theorem xe_fstr {v1 v2 : Expr} {rest : List Expr} {zs : List Str} (h : XJ X σ H (v1 :: v2 :: rest) zs) (hl : (zs.map (·.length)).sum ≤ 1000000) : XV X (.JoinedStr (v1 :: v2 :: rest) pos) σ H (.str (zs.foldl (· ++ ·) Str.empty)) := by
  obtain ⟨ts, p, q⟩ := xj_run h
  exact XE.of (pe_joined p) fun H1 s Q k => q Str.empty H1 s (by show 0 + _ ≤ _; omega) _ fun H2 e2 => k _ H2 e2 rfl
theorem xe_fmt {z : Str} (h : XV X e σ H (.str z)) (hz : z.length ≤ 1000000) : XV X (.FormattedValue e (-1) none pos) σ H (.str z) :=
  XE.of (pe_fmt pe_s) fun H1 s Q k => h.s s fun v H2 e2 q => by cases q; exact .inl ⟨z, rfl, sz_of hz, k _ H2 e2 rfl⟩
end
end LM

set_option maxHeartbeats 4000000
namespace LM
open PySem PySem.Spec PyProof.Rows L2
section
variable {X : Cx} {k : Nat} {C f : Addr} {fd : FuncData} {ps : List Str} {sp : Sp}
/-- a callee run where the interpreter itself calls it (n in-calls deep) -/
theorem run_at {A : Around} {pins : List (Addr × Obj)} {σ : St} {H : Hp} {s : Shared} {Q : VK} {us : List Value} {vs : List V} {E : Value → Shared → Prop} (F : FnW (wd X) k f fd ps sp) (hr : Room k A) (hA : A.frames = X.A.frames) (hb : Binds X.K fd ps [])
    (I : Inv X pins σ H s) (r : Vals vs us) (h : sp vs H Q L2.E0) : wpAny (model X.prog X.w) A (call (.ref f) us) (EP X pins σ Q) E s := by
  have hl : us.length = ps.length := by rw [← r.length]; exact F.len _ _ _ _ h
  have e := I.env0
  have e0 : Env0 X.prog X.w X.K X.mg X.base A X.stack s H := ⟨by rw [hA]; exact e.frames, e.mod, e.bs, e.bsz, e.funs, e.frf, e.hok, e.bare⟩
  refine wpAny_call (codeAny_mono (F.run A X.stack s H ⟨us, []⟩ us vs Q L2.E0 hr e0 (by have := hb s us I.kIn (by simpa using hl); simpa using this) r h) fun r s' hq => ?_)
  cases r with
  | error e => exact False.elim hq
  | ok fl =>
    cases fl with
    | ret u => exact I.after hq
    | next => exact False.elim hq
    | brk => exact False.elim hq
    | cont => exact False.elim hq
/-- str(o), o an own instance with __str__ -/
def rStrO (C : Addr) (pre : List V → Hp → VP → Prop) : List V → Hp → VK → Prop := fun xs H Q => ∃ a dx fs z, xs = [.ref a] ∧ H a = some (.ins C dx fs) ∧ pre [.ref a] H (Is (.str z)) ∧ ∀ H', Same H H' → Q (.str z) H'
theorem call_strO {pre : List V → Hp → VP → Prop} (c : Met (wd X) k C "__str__" (Pure pre)) (hr : Room (k + 2) X.A) : CallR X (.type "str") (rStrO C pre) := by
  intro pins s σ H xs us Q I r ⟨a, dx, fs, z, ex, ha, hp, hq⟩
  subst ex
  obtain ⟨f, fd, ps, _, hm, F, b⟩ := c.ex
  obtain rfl := Vals.ref1 r
  obtain ⟨mA, J, _⟩ := ins_get I.hok ha
  obtain ⟨od, J, _⟩ := J.look
  refine PySem.W.kso_call hr.in1.in1.units0 I.kIn J hm.at_ hm.fn ?_
  refine thn (run_at (vs := [.ref a]) (Q := fun v H' => v = .str z ∧ Same H H') F hr.in1.in1 rfl b I (.cons rfl .nil) ⟨_, hp, fun v H' e r => ⟨r, e⟩⟩) fun u s' ⟨v, H', I', rv, ev, eH⟩ => ?_
  subst ev
  obtain ⟨t, rfl⟩ := rv
  exact ⟨.str z, H', I', ⟨t, rfl⟩, hq H' eH⟩
/-- len(o), o an own instance with __len__ -/
def rLenO (C : Addr) (pre : List V → Hp → VP → Prop) : List V → Hp → VK → Prop := fun xs H Q => ∃ a dx fs, ∃ n : Nat, xs = [.ref a] ∧ H a = some (.ins C dx fs) ∧ n ≤ 1000000 ∧ pre [.ref a] H (Is (.int n)) ∧ ∀ H', Same H H' → Q (.int n) H'
theorem call_lenO {pre : List V → Hp → VP → Prop} (c : Met (wd X) k C "__len__" (Pure pre)) (hr : Room (k + 1) X.A) : CallR X (.builtin "len") (rLenO C pre) := by
  intro pins s σ H xs us Q I r ⟨a, dx, fs, n, ex, ha, hn, hp, hq⟩
  subst ex
  obtain ⟨f, fd, ps, _, hm, F, b⟩ := c.ex
  obtain rfl := Vals.ref1 r
  obtain ⟨mA, J, _⟩ := ins_get I.hok ha
  obtain ⟨od, J, _⟩ := J.look
  obtain ⟨m, hF⟩ := I.fr
  refine PySem.W.len_K hF I.ok.mod.kin J hm.at_ hm.fn ?_
  refine thn (run_at (vs := [.ref a]) (Q := fun v H' => v = .int n ∧ Same H H') F hr.in1 rfl b I (.cons rfl .nil) ⟨_, hp, fun v H' e r => ⟨r, e⟩⟩) fun u s' ⟨v, H', I', rv, ev, eH⟩ => ?_
  subst ev
  obtain ⟨t, rfl⟩ := rv
  exact ⟨⟨by omega, by omega⟩, .int n, H', I'.tok _, ⟨_, rfl⟩, hq H' eH⟩
end
section
variable {X : Cx} {k j : Nat} {C a dx : Addr} {fs : List (Str × V)} {e : Expr} {σ : St} {H : Hp} {p pos : Pos} {z : Str} {pre : List V → Hp → VP → Prop}
theorem xe_strO (c : Met (wd X) k C "__str__" (Pure pre)) (hr : Room j X.A) (hm : X.mg "str" = none) (h1 : XE X e σ H (fun v H' => ∃ a dx fs, v = .ref a ∧ H' a = some (.ins C dx fs) ∧ ∀ H1, Same H' H1 → pre [.ref a] H1 (Is (.str z)))) (hk : k + 2 ≤ j := by decide) (hg : Gl X "str" := by rfl)
    (he : starEach [e] X.env = (false, eval e X.env) :: starEach [] X.env := by rfl) (hpl : (backTo pos (starEach [] X.env)).any (·.1) = false := by rfl) : XV X (.Call (.Name "str" p) [e] [] pos) σ H (.str z) := by
  haveI : Mon (fun v H' => ∃ a dx fs, v = V.ref a ∧ H' a = some (.ins C dx fs) ∧ ∀ H1, Same H' H1 → pre [.ref a] H1 (Is (.str z))) := ⟨fun v H H' e ⟨a, dx, fs, h1, h2, h3⟩ => ⟨a, dx, fs, h1, e _ _ h2, fun H1 e1 => h3 H1 (e.trans e1)⟩⟩
  exact xe_callTy (call_strO c (hr.mono hk)) hm (xa_cons h1 xa_nil he) (fun vs H1 s1 hr H2 s2 Q k => by
    match vs, hr with
    | [v], hr =>
      obtain ⟨a, dx, fs, rfl, h2, h3⟩ := hr.1
      exact ⟨a, dx, fs, z, rfl, s2 _ _ h2, h3 H2 s2, fun H3 e3 => k _ H3 e3 rfl⟩) (by decide +kernel) hg (by decide) (by decide) he hpl
theorem xe_lenO {n : Nat} (c : Met (wd X) k C "__len__" (Pure pre)) (hr : Room j X.A) (hm : X.mg "len" = none) (h1 : XV X e σ H (.ref a)) (hi : H a = some (.ins C dx fs)) (hn : n ≤ 1000000) (hp : ∀ H1, Same H H1 → pre [.ref a] H1 (Is (.int n))) (hk : k + 1 ≤ j := by decide) (hg : Gl X "len" := by rfl)
    (he : starEach [e] X.env = (false, eval e X.env) :: starEach [] X.env := by rfl) (hpl : (backTo pos (starEach [] X.env)).any (·.1) = false := by rfl) : XV X (.Call (.Name "len" p) [e] [] pos) σ H (.int n) :=
  xe_callB (call_lenO c (hr.mono hk)) hm (xa_cons h1 xa_nil he) (fun vs H1 s1 hr H2 s2 Q k => by
    match vs, hr with
    | [v], hr =>
      cases hr.1
      exact ⟨a, dx, fs, n, rfl, (s1.trans s2) _ _ hi, hn, hp H2 (s1.trans s2), fun H3 e3 => k _ H3 e3 rfl⟩) PySem.boot_len hg (by decide) (by decide) he hpl
end
/-- try: body (that raises nothing) except .. -/
theorem xs_try {X : Cx} {body rest : List Stmt} {h0 : ExceptHandler} {hs : List ExceptHandler} {D : Ends} {σ : St} {H : Hp} {pos : Pos} (h : XSs X.nox body { D with nx := fun σ' H' => XSs X rest D σ' H' } σ H) : XSs X (.Try body (h0 :: hs) [] [] pos :: rest) D σ H :=
  xs_stepX (ps_try_thru0 pss_s) fun H1 e1 => h.s e1
end LM

set_option maxHeartbeats 4000000
namespace LM
open PySem PySem.Spec PyProof.Rows L2
/-! ### comprehensions of two clauses -/
def sIB (X : Cx) (scope : Scope) (tg iter : Expr) : TI := fun σ H R => ∀ s0 H0 C cl fp, sI (bk X scope s0 H0 C cl fp) tg iter σ H R
section
variable {X : Cx} {elt iter iter1 tg : Expr} {scope : Scope} {own : List (Str × Nat)} {vs1 : List Nat} {pos tpos1 : Pos} {tn1 : Str} {g : TG} {σ : St} {H : Hp} {Y : YY} {α β : Type} {src : List α} {src2 : α → List β} {rel : α → VP} {Y2 : α → YY} {rel2 : α → β → VP} {ff : α → β → VP} {j1 : Nat}
theorem xl_lc2 (hi : XI X tg iter σ H src.length Y) (hY : ∀ G2 i H' x H'', i < src.length → Y G2 i H' x H'' → H'' = H' ∧ ∃ a, src[i]? = some a ∧ rel a x G2) (hmr : ∀ a, Mon (rel a)) (hY2 : ∀ a G2 i H' x H'', i < (src2 a).length → Y2 a G2 i H' x H'' → H'' = H' ∧ ∃ b, (src2 a)[i]? = some b ∧ rel2 a b x G2)
    (hmr2 : ∀ a b, Mon (rel2 a b)) (hm : ∀ a b, Mon (ff a b)) (hn : (src.flatMap src2).length ≤ 500000) (hN : X.N.Nodup) (ok : BlkOk X.N X.env.scope scope own) (hv : ∀ i ∈ vs1, i ∈ own.map (·.2))
    (hg : ∀ s0 H0 C cl fp, PG (bk X scope s0 H0 C cl fp) tg g) (gm : GMon g) (hg1 : ∀ s0 H0 C cl fp, PG (bk X scope s0 H0 C cl fp) (.Name tn1 tpos1) (gName j1))
    (ht : ∀ a x G' D ys, a ∈ src → Same H G' → rel a x G' → G' D = none → g x (wipe σ (own.map (·.2))) (Upds G' [(D, .lst ys)]) fun σ2 H2 => H2 = Upds G' [(D, .lst ys)] ∧ wipe σ2 (own.map (·.2)) = wipe σ (own.map (·.2)) ∧
      (∀ s0 H0 C cl fp, XI (bk X scope s0 H0 C cl fp) (.Name tn1 tpos1) iter1 σ2 G' (src2 a).length (Y2 a)) ∧ (∀ x, wipe ((wipe σ2 vs1).set j1 (some x)) vs1 = wipe σ2 vs1) ∧
      ∀ b x1 G4, b ∈ src2 a → Same G' G4 → rel2 a b x1 G4 → XEB X scope elt ((wipe σ2 vs1).set j1 (some x1)) G4 (ff a b))
    (hc : X.calm = true := by rfl) (hs : ∀ x, foldedSetIterable iter X.env x = pure x := by intro _; rfl) (hs1 : ∀ env x, foldedSetIterable iter1 env x = pure x := by intro _ _; rfl) :
    XL X (.ListComp elt [⟨tg, iter, [], 0⟩, ⟨.Name tn1 tpos1, iter1, [], 0⟩] scope pos) σ H (LstR (src.flatMap fun a => (src2 a).map (ff a))) := by
  have T : ∀ H1, Same H H1 → ∀ Q : VK, (∀ v H2, Same H1 H2 → LstR (src.flatMap fun a => (src2 a).map (ff a)) v H2 → Q v H2) → tLc2 (sI X tg iter) g tYes (sIB X scope (.Name tn1 tpos1) iter1) (gName j1) tYes (sEB X scope elt) (own.map (·.2)) vs1 σ H1 Q := fun H1 e1 Q k => hi.s e1 fun J H2 e2 w => fun D hD => by
      have lenF : ∀ m, ((src.take m).flatMap src2).length ≤ (src.flatMap src2).length := fun m => by
        have : src.flatMap src2 = (src.take m).flatMap src2 ++ (src.drop m).flatMap src2 := by rw [← List.flatMap_append, List.take_append_drop]
        rw [this, List.length_append]; omega
      have lenE : ∀ l : List α, (l.flatMap fun a => (src2 a).map (ff a)).length = (l.flatMap src2).length := fun l => by simp [List.length_flatMap]
      have monF : ∀ l : List α, MonL (l.flatMap fun a => (src2 a).map (ff a)) := fun l => by
        have key : ∀ (l : List VP), (∀ R ∈ l, Mon R) → MonL l := fun l => by
          induction l with
          | nil => intro _; exact .nil
          | cons R r ih => intro h; exact .cons (h R (by simp)) (ih fun R' h' => h R' (by simp [h']))
        refine key _ fun R hR => ?_
        obtain ⟨a, _, h2⟩ := List.mem_flatMap.mp hR
        obtain ⟨b, _, rfl⟩ := List.mem_map.mp h2
        exact hm a b
      have monT : ∀ (a : α) (l : List β), MonL (l.map (ff a)) := fun a l => by
        induction l with
        | nil => exact .nil
        | cons b r ih => exact .cons (hm a b) ih
      let IO : Nat → Hp → Prop := fun i H => ∃ G ys, H = Upds G [(D, .lst ys)] ∧ G D = none ∧ Same H2 G ∧ AllR ((src.take i).flatMap fun a => (src2 a).map (ff a)) ys G
      refine ⟨fun i m H => m = src.length - i ∧ i ≤ src.length ∧ IO i H, ⟨src.length, by simp, Nat.zero_le _, H2, [], rfl, hD, Same.refl _, trivial⟩, ?_⟩
      rintro i m H' ⟨rfl, hle, G, ys, rfl, hGD, sG, hr⟩
      have sH : Same H2 (Upds G [(D, .lst ys)]) := sG.trans (upds_ge (fresh1 hGD))
      by_cases hlt : i < src.length
      · refine .inr ⟨w.goes i _ hlt sH, IO (i + 1), fun H' p' => ⟨src.length - (i + 1), by omega, rfl, hlt, p'⟩, fun x H' y => ?_⟩
        obtain ⟨rfl, a, ha, ra⟩ := hY _ _ _ _ _ hlt (w.yields i _ x H' hlt sH y)
        refine gm x _ _ _ _ (fun σ2 H2' h => ?_) (ht a x G D ys (List.mem_of_getElem? ha) ((e1.trans e2).trans sG) ((hmr a).mono x _ _ sG ra) hGD)
        obtain ⟨rfl, hw, hin, hw1, hel⟩ := h
        refine ⟨hw, ?_⟩
        unfold tYes
        dsimp only
        rw [if_pos rfl]
        intro s0 H0 C cl fp
        refine XI.fr (hin s0 H0 C cl fp) (okM_lst D ys) (fresh1 hGD) (Same.refl _) fun J1 G2 e3 fr3 _ w1 => ?_
        have g2 : G2 D = none := fr3 (D, .lst ys) (by simp)
        let II : Nat → Hp → Prop := fun j H => ∃ G4 zs, H = Upds G4 [(D, .lst (ys ++ zs))] ∧ G4 D = none ∧ Same G2 G4 ∧ AllR (((src2 a).take j).map (ff a)) zs G4
        refine ⟨fun j k H => k = (src2 a).length - j ∧ j ≤ (src2 a).length ∧ II j H, ⟨(src2 a).length, by simp, Nat.zero_le _, G2, [], by rw [List.append_nil], g2, Same.refl _, trivial⟩, ?_⟩
        have et : src.take (i + 1) = src.take i ++ [a] := by rw [List.take_succ, ha]; rfl
        rintro j kk H' ⟨rfl, hle1, G4, zs, rfl, hGD4, sG4, hr4⟩
        have sH4 : Same G2 (Upds G4 [(D, .lst (ys ++ zs))]) := sG4.trans (upds_ge (fresh1 hGD4))
        have sG0 : Same G G4 := e3.trans sG4
        by_cases hlt1 : j < (src2 a).length
        · refine .inr ⟨w1.goes j _ hlt1 sH4, II (j + 1), fun H' p' => ⟨(src2 a).length - (j + 1), by omega, rfl, hlt1, p'⟩, fun x1 H' y1 => ?_⟩
          obtain ⟨rfl, b, hb, rb⟩ := hY2 a _ _ _ _ _ hlt1 (w1.yields j _ x1 H' hlt1 sH4 y1)
          refine ⟨hw1 x1, ?_⟩
          rw [if_pos rfl]
          refine XEB.fr (G := G4) (hel b x1 G4 (List.mem_of_getElem? hb) sG0 ((hmr2 a b).mono x1 _ _ sG4 rb)) (okM_lst D _) (fresh1 hGD4) (Same.refl _) fun v G5 s5 f5 _ rv => ⟨ys ++ zs, upd_same, ?_, G5, zs ++ [v], ?_, f5 (D, HO.lst (ys ++ zs)) (List.mem_singleton.mpr rfl), sG4.trans s5, ?_⟩
          · have h1 := hr.length
            have h2 := hr4.length
            have h3 := lenF (i + 1)
            rw [et, List.flatMap_append, List.length_append] at h3
            rw [lenE] at h1
            have h4 : ([a].flatMap src2).length = (src2 a).length := by simp
            rw [h4] at h3
            rw [List.length_append, h1, h2, List.length_map, List.length_take]
            exact sz_lt (by omega)
          · show upd (upd G5 D (.lst (ys ++ zs))) D (.lst ((ys ++ zs) ++ [v])) = upd G5 D (.lst (ys ++ (zs ++ [v])))
            rw [upd_upd, List.append_assoc]
          · have : (src2 a).take (j + 1) = (src2 a).take j ++ [b] := by rw [List.take_succ, hb]; rfl
            rw [this, List.map_append]
            exact (AllR.mono (monT a _) s5 hr4).append ⟨rv, trivial⟩
        · have ej : j = (src2 a).length := by omega
          subst ej
          refine .inl ⟨w1.stops _ sH4, G4, ys ++ zs, rfl, hGD4, sG.trans sG0, ?_⟩
          rw [et, List.flatMap_append]
          refine (AllR.mono (monF _) sG0 hr).append ?_
          rw [List.take_length] at hr4
          simpa using hr4
      · have e : i = src.length := by omega
        subst e
        refine .inl ⟨w.stops _ sH, k _ _ (e2.trans sH) ⟨D, ys, rfl, upd_same, ?_⟩⟩
        rw [List.take_length] at hr
        exact AllR.mono (monF _) (upds_ge (fresh1 hGD)) hr
  exact ⟨XE.of (pe_lc2 hc hN pi_s ok hv hg (fun _ _ _ _ _ => pts_nil) (wi1 := sIB X scope (.Name tn1 tpos1) iter1) (fun s0 H0 C cl fp => ⟨fun pins s σ H R I h => h s0 H0 C cl fp pins s I⟩) hg1 (fun _ _ _ _ _ => pts_nil) pe_sB hs hs1) T, fun {i y py spos rest D} hy hyl hsw k => xs_stepX (t := tAsg (tLc2 (sI X tg iter) g tYes (sIB X scope (.Name tn1 tpos1) iter1) (gName j1) tYes (sEB X scope elt) (own.map Prod.snd) vs1) (gName i)) (ps_setLc2 hc hN hy hyl hsw pi_s ok hv hg (fun _ _ _ _ _ => pts_nil) (wi1 := sIB X scope (.Name tn1 tpos1) iter1) (fun s0 H0 C cl fp => ⟨fun pins s σ H R I h => h s0 H0 C cl fp pins s I⟩) hg1 (fun _ _ _ _ _ => pts_nil) pe_sB hs hs1) fun H1 e1 => T H1 e1 _ fun v H2 e2 r => k v H2 (e1.trans e2) r⟩
theorem xe_lc2 (hi : XI X tg iter σ H src.length Y) (hY : ∀ G2 i H' x H'', i < src.length → Y G2 i H' x H'' → H'' = H' ∧ ∃ a, src[i]? = some a ∧ rel a x G2) (hmr : ∀ a, Mon (rel a)) (hY2 : ∀ a G2 i H' x H'', i < (src2 a).length → Y2 a G2 i H' x H'' → H'' = H' ∧ ∃ b, (src2 a)[i]? = some b ∧ rel2 a b x G2)
    (hmr2 : ∀ a b, Mon (rel2 a b)) (hm : ∀ a b, Mon (ff a b)) (hn : (src.flatMap src2).length ≤ 500000) (hN : X.N.Nodup) (ok : BlkOk X.N X.env.scope scope own) (hv : ∀ i ∈ vs1, i ∈ own.map (·.2))
    (hg : ∀ s0 H0 C cl fp, PG (bk X scope s0 H0 C cl fp) tg g) (gm : GMon g) (hg1 : ∀ s0 H0 C cl fp, PG (bk X scope s0 H0 C cl fp) (.Name tn1 tpos1) (gName j1))
    (ht : ∀ a x G' D ys, a ∈ src → Same H G' → rel a x G' → G' D = none → g x (wipe σ (own.map (·.2))) (Upds G' [(D, .lst ys)]) fun σ2 H2 => H2 = Upds G' [(D, .lst ys)] ∧ wipe σ2 (own.map (·.2)) = wipe σ (own.map (·.2)) ∧
      (∀ s0 H0 C cl fp, XI (bk X scope s0 H0 C cl fp) (.Name tn1 tpos1) iter1 σ2 G' (src2 a).length (Y2 a)) ∧ (∀ x, wipe ((wipe σ2 vs1).set j1 (some x)) vs1 = wipe σ2 vs1) ∧
      ∀ b x1 G4, b ∈ src2 a → Same G' G4 → rel2 a b x1 G4 → XEB X scope elt ((wipe σ2 vs1).set j1 (some x1)) G4 (ff a b))
    (hc : X.calm = true := by rfl) (hs : ∀ x, foldedSetIterable iter X.env x = pure x := by intro _; rfl) (hs1 : ∀ env x, foldedSetIterable iter1 env x = pure x := by intro _ _; rfl) :
    XE X (.ListComp elt [⟨tg, iter, [], 0⟩, ⟨.Name tn1 tpos1, iter1, [], 0⟩] scope pos) σ H (LstR (src.flatMap fun a => (src2 a).map (ff a))) := (xl_lc2 hi hY hmr hY2 hmr2 hm hn hN ok hv hg gm hg1 ht hc hs hs1).val
end
/-! ### a loop that changes nothing: searches -/
section
variable {X : Cx} {iter tg : Expr} {body rest : List Stmt} {D : Ends} {σ : St} {G : Hp} {Y : YY} {pos tpos : Pos} {tn : Str} {j : Nat} {α : Type} {src : List α} {rel : α → VP}
theorem okM_nil : OkM [] := ⟨List.nodup_nil, fun p hp => by cases hp⟩
theorem fresh_nil {G : Hp} : Fresh [] G := fun p hp => by cases hp
theorem xs_each (hi : XI X (.Name tn tpos) iter σ G src.length Y) (hY : ∀ G2 i H' x H'', i < src.length → Y G2 i H' x H'' → H'' = H' ∧ ∃ a, src[i]? = some a ∧ rel a x G2) (hmr : ∀ a, Mon (rel a)) (hg : PG X (.Name tn tpos) (gName j)) (C : Nat → Prop) (h0 : C 0)
    (ht : ∀ i a x u G', src[i]? = some a → C i → Same G G' → rel a x G' → XSs X body { D with nx := fun σ' H' => C (i + 1) ∧ Same G' H' ∧ ∃ u, σ' = σ.set j u, ct := fun σ' H' => C (i + 1) ∧ Same G' H' ∧ ∃ u, σ' = σ.set j u, bk := fun σ' H' => XSs X rest D σ' H' } ((σ.set j u).set j (some x)) G')
    (hd : C src.length → ∀ u G', Same G G' → XSs X rest D (σ.set j u) G') (hself : ∃ u, σ = σ.set j u)
    (hp : PassesOwn (model X.prog X.w) X.A X.env X.xe := by exact PassesOwn.never) (hc : X.calm = true := by rfl) (hf : ∀ x, foldedSetIterable iter X.env x = pure x := by intro _; rfl) : XSs X (.For (.Name tn tpos) iter body [] pos :: rest) D σ G := by
  refine xs_for (M := []) hi okM_nil fresh_nil hg gmon_name (fun G2 i σ' H' => C i ∧ Same G2 H' ∧ ∃ u, σ' = σ.set j u) (fun G2 _ _ => ⟨h0, Same.refl _, hself⟩) (fun G2 i σ' H' p => p.2.1) (fun G2 i x σ' H' H'' e hlt p y => ?_) (fun G2 σ' H' e p => ?_) hp hc hf
  · obtain ⟨rfl, a, ha, ra⟩ := hY _ _ _ _ _ hlt y
    obtain ⟨hC, s2, u, rfl⟩ := p
    exact (ht i a x u H'' ha hC (e.trans s2) ((hmr a).mono x _ _ s2 ra)).ends (fun σ' H' ⟨q1, q2, q3⟩ => ⟨q1, s2.trans q2, q3⟩) (fun _ _ z => z) (fun _ _ z => z) (fun σ' H' ⟨q1, q2, q3⟩ => ⟨q1, s2.trans q2, q3⟩)
  · obtain ⟨hC, s2, u, rfl⟩ := p
    exact hd hC u H' (e.trans s2)
end
/-! ### a list or a tuple -/
def SeqV (K : PySem.W.Frag) (xs : List V) : VP := fun v H => ∃ a, v = .ref a ∧ (SqL K H a xs ∨ SqT K H a xs)
instance (K : PySem.W.Frag) (xs : List V) : Mon (SeqV K xs) := ⟨fun _ _ _ e ⟨a, h1, h2⟩ => ⟨a, h1, h2.imp (sq_mono e) (st_mono e)⟩⟩
section
variable {X : Cx} {e a b : Expr} {σ : St} {H : Hp} {pos p2 : Pos} {xs : List V} {v : V} {lo hi : Option Expr} {i j : Option Int} {ad : Addr}
theorem xe_ixLT {k : Int} (ha : XV X a σ H (.ref ad)) (hb : XV X b σ H (.int k)) (h : SqL X.K H ad xs ∨ SqT X.K H ad xs) (hv : atI xs k = some v) (hs : PlainIx b := by exact fun _ _ => rfl) : XV X (.Subscript a b pos) σ H v :=
  h.elim (fun h => xe_ixL ha hb h hv hs) fun h => xe_ixT ha hb h hv hs
theorem cut_whole {xs : List V} {lo hi : Option Int} (h : HT.sIx xs.length 0 lo = 0 ∧ HT.sIx xs.length xs.length hi = xs.length) : cutV xs lo hi = xs := by
  unfold cutV
  rw [h.1, h.2]
  simp
theorem xe_sliceT (he : XV X e σ H (.ref ad)) (hq : SqT X.K H ad xs) (h1 : SlO X σ H lo i) (h2 : SlO X σ H hi j) : XE X (.Subscript e (.Slice lo hi none p2) pos) σ H (SeqV X.K (cutV xs i j)) := by
  obtain ⟨t1, p1, q1⟩ := h1.po
  obtain ⟨t2, p2', q2⟩ := h2.po
  exact XE.of (pe_slice sl_tupA pe_s p1 p2') fun H1 s1 Q k => he.s s1 fun v H2 e2 q => by
    cases q
    refine q1 H2 (s1.trans e2) _ fun H3 e3 => q2 H3 ((s1.trans e2).trans e3) _ fun H4 e4 => ⟨ad, xs, rfl, st_mono (((s1.trans e2).trans e3).trans e4) hq, fun hw => ?_, fun _ p hp => ?_⟩
    · rw [cut_whole hw] at k
      exact k _ _ ((e2.trans e3).trans e4) ⟨ad, rfl, .inr (st_mono (((s1.trans e2).trans e3).trans e4) hq)⟩
    · exact k _ _ (((e2.trans e3).trans e4).trans (newS hp)) ⟨p, rfl, .inr (SqT.of upd_same)⟩
theorem xe_sliceLT (he : XV X e σ H (.ref ad)) (hq : SqL X.K H ad xs ∨ SqT X.K H ad xs) (h1 : SlO X σ H lo i) (h2 : SlO X σ H hi j) : XE X (.Subscript e (.Slice lo hi none p2) pos) σ H (SeqV X.K (cutV xs i j)) :=
  hq.elim (fun hq => (xe_sliceL he hq h1 h2).imp fun v H2 _ ⟨p, h1, h2⟩ => ⟨p, h1, .inl (SqL.of h2)⟩) fun hq => xe_sliceT he hq h1 h2
end
theorem cutV_from (xs : List V) (k : Nat) : cutV xs (some (k : Int)) none = xs.drop k := by
  unfold cutV
  rw [HT.sIx_nat]
  have : HT.sIx xs.length xs.length none = xs.length := rfl
  rw [this]
  by_cases h : k ≤ xs.length
  · rw [Nat.min_eq_left h, List.take_of_length_le (by rw [List.length_drop]; omega)]
  · rw [Nat.min_eq_right (by omega), List.drop_of_length_le (by omega), List.drop_of_length_le (by omega)]
    simp
theorem cutV_upto (xs : List V) (k : Nat) : cutV xs none (some (k : Int)) = xs.take k := by
  unfold cutV
  rw [HT.sIx_nat]
  have : HT.sIx xs.length 0 none = 0 := rfl
  rw [this, List.drop_zero, Nat.sub_zero]
  by_cases h : k ≤ xs.length
  · rw [Nat.min_eq_left h]
  · rw [Nat.min_eq_right (by omega), List.take_of_length_le (by omega), List.take_of_length_le (by omega)]
end LM

set_option maxHeartbeats 4000000
namespace LM
open PySem PySem.Spec PyProof.Rows L2
/-! ### a != b, by an own ==  -/
section
open PySem.W
variable {prog : Program} {w : World} {A : Around} {E : Value → Shared → Prop} {s : Shared} {K : PySem.W.Frag} {x C f : Addr} {h₀ : Heap} {L : Addr} {m : Str → Option Value} {ox : Obj} {od : Option Obj} {name : Str} {b tb : Value}
theorem ifBoundB_K {M : Model} {args : List Value} {id : String} {Q : Option Value → Shared → Prop} (X : K.In s.heap) (I : InstAt s.heap x ox C od) (hs : findIn K (.ref C) name = some (some (.builtin id)))
    (hb : ∀ self, bindSpecial (.builtin id) self = pure (.builtin id, [self])) (h : wpAny M A (call (.builtin id) (.ref x :: args)) (fun v => Q (some v)) E s) : wpAny M A (callSpecialIfBound? (.ref x) name args) Q E s := by
  simp only [callSpecialIfBound?, bindSpecialIfBound?]
  refine wpAny_holding (wpAny_bind (wpAny_bind (wpAny_bind (I.type.here ((looks_findIn X hs).here ?_)))))
  refine wpAny_bind (wpAny_askSetting (wpAny_ite ?_))
  have fin : wpAny M A (call (.builtin id) ([.ref x] ++ args) >>= fun v => pure (some v)) Q E s := wpAny_bind (wpAny_mono h (fun v s' h' => wpAny_pure h') fun _ _ h' => h')
  split
  · exact wpAny_bind ((Looks.of_pure (hb _)).here (wpAny_pure (by exact fin)))
  · exact wpAny_tryCatch (wpAny_bind ((Looks.of_pure (hb _)).here (wpAny_pure (by exact fin))))
open Builtin in
theorem ne_K {Q : Value → Shared → Prop} (hu : A.units < cLine) (hu1 : A.in1.units < cLine) (F : Fr h₀ L s.heap m) (X₀ : K.In h₀) (I : InstAt s.heap x ox C od) (hb : Looks (model prog w) s.heap (typeOf b) tb) (hn : notFirst K C tb = true)
    (hs : findIn K (.ref C) "__ne__" = some (some (.builtin "object.__ne__"))) (he : findIn K (.ref C) "__eq__" = some (some (.ref f))) (hf : isFn K (.ref f) = true) (hm : mroIn K C (.type "object") = some true)
    (h : wpAny (model prog w) A.in1 (call (.ref f) [.ref x, b]) (fun v s' => ∃ k, v = .bool k ∧ Q (.bool (!k)) s') E s) : wpAny (model prog w) A (richCompare .NotEq (.ref x) b) Q E s := by
  have X := X₀.keeps F.keep
  have one : wpAny (model prog w) A (tryCompare (.ref x) (cmpInfo .NotEq).2.1 b) (fun r s' => ∃ v, r = some v ∧ Q v s') E s := by
    unfold tryCompare
    refine wpAny_bind (ifBoundB_K X I hs PySem.F.slot_zip_ne.bind (wpAny_call (codeAny_call_builtin PySem.F.slot_zip_ne.plain PySem.F.cmpEntry_ne (check_slot (i := "object.__ne__") (owner := "object") (n := "__ne__") PySem.F.cmpKind_ne PySem.F.cmpSplit_ne (I.type.andThen (looks_mroIn X hm)) (PySem.F.cmpArgs_ne _ _) ?_))))
    unfold Builtin.«object.__ne__»
    refine wpAny_bind (m := slotArgs "__ne__" 1 _) (wpAny_pure ?_)
    refine wpAny_bind (m := cRoomFor _ _) (wpAny_cRoomFor hu1 ?_)
    refine wpAny_bind (m := callSpecialIfBound? (.ref x) (Str.ofString "__eq__") _) (ifBound_K X I he hf (wpAny_mono h (fun r s' hq => ?_) fun _ _ y => y))
    obtain ⟨k, rfl, hq⟩ := hq
    refine wpAny_bind (m := truthy (.bool _)) (wpAny_truthy_bool ?_)
    first
      | exact wpAny_pure (wpAny_pure ⟨_, rfl, hq⟩)
      | exact wpAny_pure ⟨_, rfl, hq⟩
  unfold richCompare
  simp only [oneThing_ref]
  refine wpAny_holding (wpAny_bind (wpAny_cRoomFor hu ?_))
  refine wpAny_bind (I.type.here (wpAny_bind (hb.here ?_)))
  split
  · rename_i q
    have e : subIn K tb (.ref C) = some false := by
      rcases Bool.or_eq_true_iff.mp hn with e | e
      · rw [beq_iff_eq.mp e] at q; simp at q
      · exact beq_iff_eq.mp e
    refine wpAny_bind ((looks_subIn X e).here ?_)
    simp only [Bool.false_eq_true, if_false]
    refine wpAny_bind (wpAny_mono one (fun r s' z => ?_) fun _ _ e => e)
    obtain ⟨v, rfl, hq⟩ := z
    exact wpAny_pure hq
  · refine wpAny_bind (wpAny_pure ?_)
    simp only [Bool.false_eq_true, if_false]
    refine wpAny_bind (wpAny_mono one (fun r s' z => ?_) fun _ _ e => e)
    obtain ⟨v, rfl, hq⟩ := z
    exact wpAny_pure hq
end
structure NeC (K : PySem.W.Frag) (C : Addr) : Prop where
  ne : PySem.W.findIn K (.ref C) "__ne__" = some (some (.builtin "object.__ne__"))
  mro : PySem.W.mroIn K C (.type "object") = some true
section
variable {X : Cx} {k : Nat} {C : Addr}
def rNeO (C : Addr) (pre : List V → Hp → VP → Prop) : R2 := fun x y H Q => ∃ a dx fs b dy gs v, x = .ref a ∧ y = .ref b ∧ H a = some (.ins C dx fs) ∧ H b = some (.ins C dy gs) ∧ pre [.ref a, .ref b] H (Is (.bl v)) ∧ ∀ H', Same H H' → Q (.bl (!v)) H'
theorem op_neO {pre : List V → Hp → VP → Prop} (N : NeC X.K C) (c : Met (wd X) k C "__eq__" (Pure pre)) (hr : Room (k + 1) X.A) : OpR X (compareOp .NotEq) (rNeO C pre) := by
  intro pins s σ H x y v u Q I rx ry ⟨a, dx, fs, b, dy, gs, kk, ex, ey, ha, hb, hp, hq⟩
  subst ex ey
  cases rx
  cases ry
  obtain ⟨f, fd, ps, _, hm, F, bd⟩ := c.ex
  obtain ⟨mA, J, _⟩ := ins_get I.hok ha
  obtain ⟨mB, J', _⟩ := ins_get I.hok hb
  obtain ⟨od, J, _⟩ := J.look
  obtain ⟨od', J', _⟩ := J'.look
  obtain ⟨m, hF⟩ := I.fr
  show wpAny (model X.prog X.w) X.A (richCompare .NotEq (.ref a) (.ref b)) (EP X pins σ Q) X.xe s
  refine ne_K (tb := .ref C) hr.units0 hr.in1.units0 hF I.ok.mod.kin J J'.type (by simp [PySem.W.notFirst]) N.ne hm.at_ hm.fn N.mro ?_
  refine thn (run_at (vs := [.ref a, .ref b]) (Q := fun v H' => v = .bl kk ∧ Same H H') F hr.in1 rfl bd I (.cons rfl (.cons rfl .nil)) ⟨_, hp, fun v H' e r => ⟨r, e⟩⟩) fun u s' ⟨v, H', I', rv, ev, eH⟩ => ?_
  subst ev
  cases rv
  exact ⟨kk, rfl, .bl (!kk), H', I', rfl, hq H' eH⟩
theorem rv_neO {pre : List V → Hp → VP → Prop} {H : Hp} {a b dx dy : Addr} {fs gs : List (Str × V)} {v : Bool} (ha : H a = some (.ins C dx fs)) (hb : H b = some (.ins C dy gs)) (hp : ∀ H1, Same H H1 → pre [.ref a, .ref b] H1 (Is (.bl v))) : RV (rNeO C pre) (.ref a) (.ref b) H (Is (.bl (!v))) :=
  fun H1 s1 Q k => ⟨a, dx, fs, b, dy, gs, v, rfl, rfl, s1 _ _ ha, s1 _ _ hb, hp H1 s1, fun H2 e2 => k _ H2 e2 rfl⟩
end
end LM

set_option maxHeartbeats 4000000
namespace LM
open PySem PySem.Spec PyProof.Rows L2
/-! ### targets of several names -/
def GMonL (t : TGs) : Prop := ∀ xs σ H (P P' : St → Hp → Prop), (∀ σ' H', P σ' H' → P' σ' H') → t xs σ H P → t xs σ H P'
theorem gmon_nil : GMonL gNil := fun _ _ _ _ _ h ⟨e, q⟩ => ⟨e, h _ _ q⟩
theorem gmon_cons {t : TG} {u : TGs} (h1 : GMon t) (h2 : GMonL u) : GMonL (gCons t u) := fun xs σ H P P' h ⟨v, r, e, q⟩ => ⟨v, r, e, h1 v σ H _ _ (fun σ' H' q' => h2 r σ' H' _ _ h q') q⟩
theorem gmon_tup {K : PySem.W.Frag} {n : Nat} {t : TGs} (h : GMonL t) : GMon (gTup K n t) := fun v σ H P P' hp ⟨a, xs, e, hq, hl, q⟩ => ⟨a, xs, e, hq, hl, h xs σ H _ _ hp q⟩
theorem gmon_unl {K : PySem.W.Frag} {n : Nat} {t : TGs} (h : GMonL t) : GMon (gUnl K n t) := fun v σ H P P' hp ⟨a, xs, e, hq, hl, q⟩ => ⟨a, xs, e, hq, hl, h xs σ H _ _ hp q⟩
/-- two names -/
abbrev g2 (K : PySem.W.Frag) (i j : Nat) : TG := gTup K 2 (gCons (gName i) (gCons (gName j) gNil))
theorem gmon_2 {K : PySem.W.Frag} {i j : Nat} : GMon (g2 K i j) := gmon_tup (gmon_cons gmon_name (gmon_cons gmon_name gmon_nil))
theorem g2_ok {K : PySem.W.Frag} {i j : Nat} {a : Addr} {u v : V} {σ : St} {H : Hp} {Q : St → Hp → Prop} (hq : SqT K H a [u, v]) (h : Q ((σ.set i (some u)).set j (some v)) H) : g2 K i j (.ref a) σ H Q :=
  ⟨a, [u, v], rfl, hq, rfl, u, [v], rfl, v, [], rfl, rfl, h⟩
theorem pg_2 {X : Cx} {i j : Nat} {x y : Str} {p1 p2 pos : Pos} {kk : Nat} (hc : X.calm = true) (hN : X.N.Nodup) (hi : X.N[i]? = some x) (hj : X.N[j]? = some y) (hx : Loc X.env.scope x) (hy : Loc X.env.scope y) (hfx : X.fn x = true ∨ X.env.scope.names.lookup x = some .local) (hfy : X.fn y = true ∨ X.env.scope.names.lookup y = some .local) :
    PG X (.Tuple [.Name x p1, .Name y p2] kk pos) (g2 X.K i j) := pg_tup hc (pgs_cons (pg_name hN hi hx hfx) (pgs_cons (pg_name hN hj hy hfy) pgs_nil))
/-! ### walks that give pairs -/
/-- the i-th item is a pair (new, or there) told by rel -/
def YP (K : PySem.W.Frag) (n : Nat) (rel : Nat → V → V → VP) (Y : YY) : Prop := ∀ G2 i H' x H'', i < n → Y G2 i H' x H'' → ∃ T u v, x = .ref T ∧ rel i u v x G2 ∧ ((H' T = none ∧ H'' = upd H' T (.tup [u, v])) ∨ (H'' = H' ∧ SqT K G2 T [u, v]))
def YE (xs : List V) : YY := fun _ i H' x H'' => ∃ T v, x = .ref T ∧ H' T = none ∧ H'' = upd H' T (.tup [.int (i : Nat), v]) ∧ xs[i]? = some v
section
variable {X : Cx} {e : Expr} {σ : St} {H : Hp} {p pos tpos : Pos} {elts : List Expr} {kk : Nat} {a : Addr} {xs : List V}
theorem xi_enum (hm : X.mg "enumerate" = none) (h : XV X e σ H (.ref a)) (hq : SqL X.K H a xs) (hg : Gl X "enumerate" := by rfl) (hs : starEach [e] X.env = [(false, eval e X.env)] := by rfl) : XI X (.Tuple elts kk tpos) (.Call (.Name "enumerate" p) [e] [] pos) σ H xs.length (YE xs) :=
  XI.of (pi_enum hg hm (pa_cons pe_s pa_nil (by exact hs)) hs) fun H1 e1 R k => h.s e1 fun v H2 e2 q => by
    cases q
    exact ⟨a, xs, rfl, sq_mono (e1.trans e2) hq, k _ H2 e2 (walk_enum.mono (fun H' e => sq_mono ((e1.trans e2).trans e) hq) fun i H' x H'' _ _ ⟨T, u, v, h1, h2, h3, h4, h5⟩ => ⟨T, v, h1, h2, by cases h4; exact h3, h5⟩)⟩
theorem yp_enum {K : PySem.W.Frag} : YP K xs.length (fun i u v _ _ => u = .int (i : Nat) ∧ xs[i]? = some v) (YE xs) := fun G2 i H' x H'' _ ⟨T, v, h1, h2, h3, h4⟩ => ⟨T, _, v, h1, ⟨rfl, h4⟩, .inl ⟨h2, h3⟩⟩
end
section
variable {X : Cx} {elt iter : Expr} {ifs : List Expr} {scope : Scope} {own : List (Str × Nat)} {pos tpos : Pos} {tgs : List Expr} {kk : Nat} {σ : St} {H : Hp} {n : Nat} {Y : YY} {pp : Nat → Bool} {ff : Nat → VP} {rel : Nat → V → V → VP} {ja jb : Nat}
/-- a comprehension over pairs -/
theorem xl_lcP (hm : ∀ i, Mon (ff i)) (hi : XI X (.Tuple tgs kk tpos) iter σ H n Y) (hY : YP X.K n rel Y) (hn : n ≤ 500000) (hN : X.N.Nodup) (ok : BlkOk X.N X.env.scope scope own)
    (hg : ∀ s0 H0 C cl fp, PG (bk X scope s0 H0 C cl fp) (.Tuple tgs kk tpos) (g2 X.K ja jb))
    (ht : ∀ i u v x G2 G', i < n → Same H G2 → Same G2 G' → rel i u v x G2 → XTsB X scope ifs (((wipe σ (own.map (·.2))).set ja (some u)).set jb (some v)) G' (pp i) ∧ (pp i = true → XEB X scope elt (((wipe σ (own.map (·.2))).set ja (some u)).set jb (some v)) G' (ff i)))
    (hw : ∀ x y, wipe (((wipe σ (own.map (·.2))).set ja (some x)).set jb (some y)) (own.map (·.2)) = wipe σ (own.map (·.2)) := by intro _ _; rfl) (hc : X.calm = true := by rfl) (hs : ∀ x, foldedSetIterable iter X.env x = pure x := by intro _; rfl) :
    XL X (.ListComp elt [⟨.Tuple tgs kk tpos, iter, ifs, 0⟩] scope pos) σ H (LstR (keptN n pp ff)) := by
  refine xl_lc hm hi hn hN ok hg (fun G2 i x G' H'' D ys e1 hlt e2 hD y => ?_) gmon_2 hc hs
  obtain ⟨T, u, v, rfl, hr, hh⟩ := hY _ _ _ _ _ hlt y
  rcases hh with ⟨hT, rfl⟩ | ⟨rfl, hq⟩
  · have hTD : T ≠ D := fun e => by
      subst e
      have : Upds G' [(T, .lst ys)] T = some (.lst ys) := upd_same
      rw [this] at hT; cases hT
    have hG' : G' T = none := by
      have : Upds G' [(D, .lst ys)] T = G' T := upd_ne hTD
      rw [← this]; exact hT
    have eH : upd (Upds G' [(D, .lst ys)]) T (.tup [u, v]) = Upds (upd G' T (.tup [u, v])) [(D, .lst ys)] := by
      show upd (upd G' D (.lst ys)) T _ = upd (upd G' T _) D _
      funext b
      by_cases h1 : b = T
      · subst h1; rw [upd_same, upd_ne hTD, upd_same]
      · by_cases h2 : b = D
        · subst h2; rw [upd_ne h1, upd_same, upd_same]
        · rw [upd_ne h1, upd_ne h2, upd_ne h2, upd_ne h1]
    have s3 : Same G' (upd G' T (.tup [u, v])) := newS hG'
    obtain ⟨t1, t2⟩ := ht i u v (.ref T) G2 (upd G' T (.tup [u, v])) hlt e1 (e2.trans s3) hr
    exact g2_ok (SqT.of upd_same) ⟨upd G' T (.tup [u, v]), eH, by rw [upd_ne hTD.symm]; exact hD, s3, hw u v, t1, t2⟩
  · obtain ⟨t1, t2⟩ := ht i u v (.ref T) G2 G' hlt e1 e2 hr
    exact g2_ok (st_mono (e2.trans (upds_ge (fresh1 hD))) hq) ⟨G', rfl, hD, Same.refl _, hw u v, t1, t2⟩
end
end LM

set_option maxHeartbeats 4000000
namespace LM
open PySem PySem.Spec PyProof.Rows L2
/-! ### items: a mark, and a bool or a mark -/
abbrev It2 := Str × (Bool ⊕ Str)
def itV (x : It2) : List V := [.str x.1, match x.2 with
  | .inl b => .bl b
  | .inr z => .str z]
def itK (x : It2) : List Leaf := [.text x.1, match x.2 with
  | .inl b => .num (if b = true then 1 else 0)
  | .inr z => .text z]
theorem itK_inj {x y : It2} (h : itK x = itK y) : x = y := by
  obtain ⟨a, b⟩ := x
  obtain ⟨c, d⟩ := y
  unfold itK at h
  have h1 := (List.cons.inj h).1
  have h2 := (List.cons.inj (List.cons.inj h).2).1
  have e1 : a = c := Leaf.text.inj h1
  subst e1
  cases b with
  | inl b =>
    cases d with
    | inl d =>
      have h3 := Leaf.num.inj h2
      cases b <;> cases d <;> first | rfl | exact absurd h3 (by decide)
    | inr d => cases h2
  | inr b =>
    cases d with
    | inl d => cases h2
    | inr d => rw [Leaf.text.inj h2]
theorem itK_eq {x y : It2} : itK x = itK y ↔ x = y := ⟨itK_inj, fun h => h ▸ rfl⟩
abbrev Ent := It2 × Addr × V
instance memIt2 (x : It2) (l : List It2) : Decidable (x ∈ l) := @List.instDecidableMemOfLawfulBEq It2 instBEqOfDecidableEq inferInstance x l
def keysT (es : List Ent) : List It2 := es.map (·.1)
theorem keysT_cons {p : Ent} {l : List Ent} : keysT (p :: l) = p.1 :: keysT l := rfl
abbrev XsL := List (List Leaf × Addr × Value)
def EntR (p : Ent) (q : List Leaf × Addr × Value) : Prop := q.1 = itK p.1 ∧ q.2.1 = p.2.1 ∧ RelV p.2.2 q.2.2
/-- a dict with such keys: its entries -/
def tdF (P : Program) (w : World) (d : Addr) (es : List Ent) : Heap → Prop := fun h => es.length ≤ sizeLine ∧ (d == sysModules) = false ∧ (keysT es).Nodup ∧
  ∃ xs : XsL, Paired EntR es xs ∧ ∃ o ents ep, h.get? d = some o ∧ o.ExactDict ∧ o.data = .dict ents ep ∧ ents.toList = xs.map (entryOfKey (tupleKind (leafKind P w)))
def TD (P : Program) (w : World) (d : Addr) (es : List Ent) : HO := .ext (tdF P w d es)
def TKs (K : PySem.W.Frag) (H : Hp) (es : List Ent) : Prop := ∀ e ∈ es, SqT K H e.2.1 (itV e.1)
theorem TKs.mono {K : PySem.W.Frag} {H H' : Hp} {es : List Ent} (e : Same H H') (h : TKs K H es) : TKs K H' es := fun x hx => st_mono e (h x hx)
theorem tdF_stay {P : Program} {w : World} {d : Addr} {es : List Ent} : ∀ h1 h2 : Heap, tdF P w d es h1 → (∀ o, h1.get? d = some o → h2.get? d = some o) → tdF P w d es h2 :=
  fun h1 h2 ⟨a, b, c, xs, p, o, ents, ep, e, r⟩ k => ⟨a, b, c, xs, p, o, ents, ep, k o e, r⟩
theorem tdF_obj {P : Program} {w : World} {d : Addr} {es : List Ent} {h : Heap} (t : tdF P w d es h) : ∃ o, h.get? d = some o := let ⟨_, _, _, _, _, o, _, _, e, _⟩ := t; ⟨o, e⟩
theorem td_ok {P : Program} {w : World} {H : Hp} {h : Heap} {d : Addr} {es : List Ent} (t : tdF P w d es h) : ObjOk P w H h d (TD P w d es) := ⟨t, tdF_obj t, tdF_stay⟩
theorem okM_td {P : Program} {w : World} {d : Addr} {es : List Ent} : ∀ h, tdF P w d es h → ∃ o ents ep, h.get? d = some o ∧ o.data = .dict ents ep := fun h ⟨_, _, _, _, _, o, ents, ep, e, _, hd, _⟩ => ⟨o, ents, ep, e, hd⟩
theorem paired_len {α β : Type} {F : α → β → Prop} : ∀ {l : List α} {m : List β}, Paired F l m → l.length = m.length
  | _, _, .nil => rfl
  | _, _, .cons _ r => by rw [List.length_cons, List.length_cons, paired_len r]
theorem paired_keys : ∀ {es : List Ent} {xs : XsL}, Paired EntR es xs → xs.map (·.1) = (keysT es).map itK
  | _, _, .nil => rfl
  | _, _, .cons r t => by rw [List.map_cons, keysT_cons, List.map_cons, paired_keys t, r.1]
theorem nodup_itK {l : List It2} (h : l.Nodup) : (l.map itK).Nodup := by
  induction l with
  | nil => exact List.nodup_nil
  | cons a r ih =>
    obtain ⟨h1, h2⟩ := List.nodup_cons.mp h
    rw [List.map_cons]
    refine List.nodup_cons.mpr ⟨fun hm => ?_, ih h2⟩
    obtain ⟨b, hb, e⟩ := List.mem_map.mp hm
    rw [itK_inj e] at hb
    exact h1 hb
section
variable {X : Cx} {pins : List (Addr × Obj)} {σ : St} {H : Hp} {s : Shared} {d a : Addr} {es : List Ent} {x : It2} {A : Around} {E : Value → Shared → Prop}
theorem leaf_items {y : It2} {its : List Value} (r : Vals (itV y) its) : ItemsAre (leafKind X.prog X.w) (itK y) its := by
  obtain ⟨m, b⟩ := y
  cases r with
  | cons r1 r =>
    cases r with
    | cons r2 r =>
      cases r
      obtain ⟨t1, e1⟩ := (show ∃ t, _ = Value.str m t from r1)
      subst e1
      refine .cons ?_ (.cons ?_ .nil)
      · show Value.isStrOf m (.str m t1) = true
        simp [Value.isStrOf]
      · cases b with
        | inl b =>
          cases (show _ = Value.bool b from r2)
          show decide _ = true
          simp
        | inr z =>
          obtain ⟨t2, e2⟩ := (show ∃ t, _ = Value.str z t from r2)
          subst e2
          show Value.isStrOf z (.str z t2) = true
          simp [Value.isStrOf]
/-- a tuple that is such a key -/
theorem key_td (I : Inv X pins σ H s) (h : SqT X.K H a (itV x)) : (tupleKind (leafKind X.prog X.w)).is s.heap (itK x) a := by
  obtain ⟨its, rv, ⟨o, h1, h2, n, h3⟩, _⟩ := I.tuple h
  exact ⟨o, its.toArray, n, h1, h2, h3, by simpa using leaf_items (X := X) rv⟩
/-- what may be read as the dict -/
def RdT (X : Cx) (H : Hp) (d : Addr) (es : List Ent) : Prop := Rd H d (TD X.prog X.w d es)
theorem td_at (I : Inv X pins σ H s) (h : RdT X H d es) : tdF X.prog X.w d es s.heap := (h.ok I.hok).1
theorem td_dict (I : Inv X pins σ H s) (t : tdF X.prog X.w d es s.heap) (k : TKs X.K H es) : ∃ xs : XsL, Paired EntR es xs ∧ s.heap.DictOfH (tupleKind (leafKind X.prog X.w)) d xs := by
  obtain ⟨hl, hd, hn, xs, pr, o, ents, ep, e1, e2, e3, e4⟩ := t
  refine ⟨xs, pr, o, ents, ep, e1, e2, e3, e4, fun y hy => ?_, by rw [paired_keys pr]; exact nodup_itK hn⟩
  have key : ∀ {es : List Ent} {xs : XsL}, Paired EntR es xs → TKs X.K H es → ∀ y ∈ xs, (tupleKind (leafKind X.prog X.w)).is s.heap y.1 y.2.1 := by
    intro es xs pr
    induction pr with
    | nil => intro _ y hy; cases hy
    | @cons p q l m r t ih =>
      intro k y hy
      rcases List.mem_cons.mp hy with rfl | hy
      · rw [r.1, r.2.1]
        exact key_td I (k p (by simp))
      · exact ih (fun z hz => k z (by simp [hz])) y hy
  exact key pr k y hy
theorem at_none {es : List Ent} {xs : XsL} (p : Paired EntR es xs) (h : x ∉ keysT es) : atKey xs (itK x) = none := by
  unfold atKey
  induction p with
  | nil => rfl
  | @cons p q l m r t ih =>
    have h1 : x ≠ p.1 := fun e => h (by rw [keysT_cons, e]; exact List.mem_cons_self)
    have h2 : x ∉ l.map (·.1) := fun e => h (by rw [keysT_cons]; exact List.mem_cons_of_mem _ e)
    rw [List.find?_cons, r.1]
    rw [decide_eq_false (fun e => h1 (itK_inj e).symm)]
    exact ih h2
theorem at_some {es : List Ent} {xs : XsL} (p : Paired EntR es xs) (h : x ∈ keysT es) : ∃ b u v, atKey xs (itK x) = some (b, u) ∧ (x, b, v) ∈ es ∧ RelV v u := by
  unfold atKey
  induction p with
  | nil => cases h
  | @cons p q l m r t ih =>
    rw [List.find?_cons, r.1]
    by_cases hx : p.1 = x
    · rw [decide_eq_true (by rw [hx])]
      refine ⟨q.2.1, q.2.2, p.2.2, rfl, ?_, r.2.2⟩
      rw [r.2.1, ← hx]
      exact List.mem_cons_self
    · rw [decide_eq_false (fun e => hx (itK_inj e))]
      have h2 : x ∈ l.map (·.1) := by
        rw [keysT_cons] at h
        rcases List.mem_cons.mp h with e | e
        · exact absurd e.symm hx
        · exact e
      obtain ⟨b, u, v, h1, h3, h4⟩ := ih h2
      exact ⟨b, u, v, h1, List.mem_cons_of_mem _ h3, h4⟩
theorem nodup_val {es : List Ent} (hn : (keysT es).Nodup) {b b' : Addr} {v v' : V} (h : (x, b, v) ∈ es) (h' : (x, b', v') ∈ es) : b = b' ∧ v = v' := by
  induction es with
  | nil => cases h
  | cons e r ih =>
    rw [keysT_cons] at hn
    obtain ⟨h1, h2⟩ := List.nodup_cons.mp hn
    rcases List.mem_cons.mp h with q | q
    · rcases List.mem_cons.mp h' with q' | q'
      · rw [← q] at q'; cases q'; exact ⟨rfl, rfl⟩
      · exact absurd (List.mem_map.mpr ⟨_, q', by rw [← q]⟩) h1
    · rcases List.mem_cons.mp h' with q' | q'
      · exact absurd (List.mem_map.mpr ⟨_, q, by rw [← q']⟩) h1
      · exact ih h2 q q'
theorem isSome_in {es : List Ent} {xs : XsL} (p : Paired EntR es xs) : (atKey xs (itK x)).isSome = decide (x ∈ keysT es) := by
  by_cases h : x ∈ keysT es
  · obtain ⟨b, u, v, e, _⟩ := at_some p h
    rw [e, decide_eq_true h]; rfl
  · rw [at_none p h, decide_eq_false h]; rfl
end
section
variable {X : Cx}
/-- x in d, x not in d -/
def rTdIn (X : Cx) (b : Bool) : R2 := fun u v H Q => ∃ a d x es, u = .ref a ∧ v = .ref d ∧ SqT X.K H a (itV x) ∧ RdT X H d es ∧ TKs X.K H es ∧ Q (.bl (b ^^ decide (x ∈ keysT es))) H
theorem op_tdIn (hu : X.A.units + 1 < cLine) : OpR X (compareOp .In) (rTdIn X false) := by
  intro pins s σ H y z v u Q I ry rz ⟨a, d, x, es, ey, ez, hq, hd, hk, q⟩
  subst ey ez
  cases ry; cases rz
  obtain ⟨xs, pr, dd⟩ := td_dict I (td_at I hd) hk
  refine wpAny_in_heap (tupleKind_room_in1 hu) (key_td I hq) (td_at I hd).2.1 dd ?_
  rw [isSome_in pr]
  rw [Bool.false_xor] at q
  exact ⟨.bl _, H, I.tok _, rfl, q⟩
theorem op_tdNin (hu : X.A.units + 1 < cLine) : OpR X (compareOp .NotIn) (rTdIn X true) := by
  intro pins s σ H y z v u Q I ry rz ⟨a, d, x, es, ey, ez, hq, hd, hk, q⟩
  subst ey ez
  cases ry; cases rz
  obtain ⟨xs, pr, dd⟩ := td_dict I (td_at I hd) hk
  refine wpAny_notIn_heap (tupleKind_room_in1 hu) (key_td I hq) (td_at I hd).2.1 dd ?_
  rw [isSome_in pr]
  rw [Bool.true_xor] at q
  exact ⟨.bl _, H, I.tok _, rfl, q⟩
end
end LM

set_option maxHeartbeats 4000000
namespace LM
open PySem PySem.Spec PyProof.Rows L2
theorem paired_snoc {α β : Type} {F : α → β → Prop} {a : α} {b : β} (h : F a b) : ∀ {l : List α} {m : List β}, Paired F l m → Paired F (l ++ [a]) (m ++ [b])
  | _, _, .nil => .cons h .nil
  | _, _, .cons r t => .cons r (paired_snoc h t)
theorem keysT_snoc {es : List Ent} {e : Ent} : keysT (es ++ [e]) = keysT es ++ [e.1] := by unfold keysT; rw [List.map_append]; rfl
theorem nodup_snoc {α : Type} {l : List α} {x : α} (h : l.Nodup) (hx : x ∉ l) : (l ++ [x]).Nodup := by
  rw [List.nodup_append]
  exact ⟨h, by simp, fun a ha b hb => by rw [List.mem_singleton.mp hb]; exact fun e => hx (e ▸ ha)⟩
section
variable {X : Cx} {pins : List (Addr × Obj)} {σ : St} {H : Hp} {s : Shared} {d a : Addr} {es : List Ent} {x : It2} {A : Around} {E : Value → Shared → Prop} {v : V} {u : Value}
theorem td_snoc {h' : Heap} {xs : XsL} (hl : es.length < sizeLine) (t : tdF X.prog X.w d es s.heap) (pr : Paired EntR es xs) (hn : x ∉ keysT es) (rv : RelV v u) (dd : h'.DictOfH (tupleKind (leafKind X.prog X.w)) d (storedH xs (itK x) a u)) : tdF X.prog X.w d (es ++ [(x, a, v)]) h' := by
  rw [storedH_new (at_none pr hn)] at dd
  obtain ⟨o, ents, ep, e1, e2, e3, e4, _⟩ := dd
  exact ⟨by rw [List.length_append]; exact hl, t.2.1, by rw [keysT_snoc]; exact nodup_snoc t.2.2.1 hn, _, paired_snoc ⟨rfl, rfl, rv⟩ pr, o, ents, ep, e1, e2, e3, e4⟩
theorem td_write {h' : Heap} {t' : Nat} {es' : List Ent} (I : Inv X pins σ H s) (hd : H d = some (TD X.prog X.w d es)) (hs : Heap.SameBut d s.heap h') (t : tdF X.prog X.w d es' h') : Inv X pins σ (upd H d (TD X.prog X.w d es')) { s with heap := h', toks := t' } :=
  d_write I (by rw [hd]; exact True.intro) hs (tdF_obj t) (td_ok t)
theorem td_setItem {Q : Unit → Shared → Prop} (hu : A.units + 1 < cLine) (I : Inv X pins σ H s) (hd : H d = some (TD X.prog X.w d es)) (hk : TKs X.K H es) (hq : SqT X.K H a (itV x)) (hn : x ∉ keysT es) (hl : es.length < sizeLine) (rv : RelV v u)
    (h : ∀ s', Inv X pins σ (upd H d (TD X.prog X.w d (es ++ [(x, a, v)]))) s' → Q () s') : wpAny (model X.prog X.w) A (setItem (.ref d) (.ref a) u) Q E s := by
  have t := td_at I (.inl hd)
  obtain ⟨xs, pr, dd⟩ := td_dict I t hk
  exact wpAny_setItem_heap (hsz := by rw [← paired_len pr]; exact t.1) (tupleKind_room_in1 hu) (key_td I hq) dd fun h' dd' hs => h _ (td_write I hd hs (td_snoc hl t pr hn rv dd'))
/-- d.setdefault(k, z) -/
theorem td_setdefault {Q : Value → Shared → Prop} (hu : A.units + 1 < cLine) (I : Inv X pins σ H s) (hd : H d = some (TD X.prog X.w d es)) (hk : TKs X.K H es) (hq : SqT X.K H a (itV x)) (hl : es.length < sizeLine) (rv : RelV v u)
    (h1 : x ∈ keysT es → ∀ s' w' v', Inv X pins σ H s' → RelV v' w' → Q w' s') (h2 : x ∉ keysT es → ∀ s', Inv X pins σ (upd H d (TD X.prog X.w d (es ++ [(x, a, v)]))) s' → Q u s') : wpAny (model X.prog X.w) A (call (.builtin "dict.setdefault") [.ref d, .ref a, u]) Q E s := by
  have t := td_at I (.inl hd)
  obtain ⟨xs, pr, dd⟩ := td_dict I t hk
  by_cases hx : x ∈ keysT es
  · obtain ⟨b, u', v', e1, e2, e3⟩ := at_some pr hx
    refine call_setdefault_heap (hsz := by rw [← paired_len pr]; exact t.1) (tupleKind_room_in1 hu) (key_td I hq) t.2.1 dd (fun p hp => ?_) fun hn => ?_
    · rw [e1] at hp; cases hp
      exact h1 hx _ _ v' (I.tok _) e3
    · rw [e1] at hn; cases hn
  · refine call_setdefault_heap (hsz := by rw [← paired_len pr]; exact t.1) (tupleKind_room_in1 hu) (key_td I hq) t.2.1 dd (fun p hp => ?_) fun hn h' dd' hs => ?_
    · rw [at_none pr hx] at hp; cases hp
    · exact h2 hx _ (td_write I hd hs (td_snoc hl t pr hx rv dd'))
theorem td_getItem {Q : Value → Shared → Prop} (hu : A.units + 1 < cLine) (I : Inv X pins σ H s) (hd : RdT X H d es) (hk : TKs X.K H es) (hq : SqT X.K H a (itV x)) {b : Addr} (hm : (x, b, v) ∈ es) (h : ∀ s' w', Inv X pins σ H s' → RelV v w' → Q w' s') : wpAny (model X.prog X.w) A (getItem (.ref d) (.ref a)) Q E s := by
  have t := td_at I hd
  obtain ⟨xs, pr, dd⟩ := td_dict I t hk
  obtain ⟨b', u', v', e1, e2, e3⟩ := at_some pr (x := x) (List.mem_map.mpr ⟨_, hm, rfl⟩)
  obtain ⟨rfl, rfl⟩ := nodup_val t.2.2.1 hm e2
  exact wpAny_getItem_heap (tupleKind_room_in1 hu) (key_td I hq) dd e1 (h _ _ (I.tok _) e3)
theorem td_type (t : tdF X.prog X.w d es s.heap) : s.TypeIs (.ref d) "dict" ∧ ∀ b, Value.ref d = .ref b → ∃ ob, s.heap.get? b = some ob ∧ ob.dict = none := by
  obtain ⟨_, _, _, _, _, o, _, _, e1, e2, _⟩ := t
  exact ⟨⟨o, e1, e2.1⟩, fun b q => by cases q; exact ⟨o, e1, e2.2.1⟩⟩
end
section
variable {X : Cx} {o i e f value : Expr} {pos pos' apos cpos : Pos} {td ty tv tx : TE}
def sTdPut (X : Cx) (td ty tv : TE) : TS := fun D σ H => tv σ H fun v H1 => td σ H1 fun u H2 => ty σ H2 fun y H3 => ∃ a d x es, u = .ref d ∧ y = .ref a ∧ H3 d = some (TD X.prog X.w d es) ∧ TKs X.K H3 es ∧ SqT X.K H3 a (itV x) ∧ x ∉ keysT es ∧ es.length < sizeLine ∧ D.nx σ (upd H3 d (TD X.prog X.w d (es ++ [(x, a, v)])))
theorem ps_tdput (hu : X.A.units + 1 < cLine) (ho : PE X o td) (hi : PE X i ty) (hv : PE X value tv) (hs : swapsWith value (some (.Subscript o i pos')) pos.line X.env = pure false) : PS X (.Assign [.Subscript o i pos'] value pos) (sTdPut X td ty tv) := by
  refine ⟨fun pins s σ H D I h => ?_⟩
  refine wpAny_Assign_Subscript (thn (hv.run pins s σ H _ I h) fun r s1 ⟨v, H1, I1, rv, q1⟩ => thn (ho.run pins s1 σ H1 _ I1 q1) fun u s2 ⟨x, H2, I2, rx, q2⟩ => thn (hi.run pins s2 σ H2 _ I2 q2) fun iv s3 ⟨y, H3, I3, ry, a, d, it, es, ex, ey, hd, hk, hq, hn, hl, q3⟩ => ?_) hs
  subst ex ey
  obtain rfl : u = Value.ref d := rx
  obtain rfl : iv = Value.ref a := ry
  exact td_setItem hu I3 hd hk hq hn hl rv fun s4 I4 => ⟨σ, _, I4, q3⟩
def tTdDef (X : Cx) (td ty tx : TE) : TE := fun σ H Q => td σ H fun u H1 => ∃ d, u = .ref d ∧ (∃ es0, H1 d = some (TD X.prog X.w d es0)) ∧ ty σ H1 fun y H2 => tx σ H2 fun z H3 => ∃ a x es, y = .ref a ∧ H3 d = some (TD X.prog X.w d es) ∧ TKs X.K H3 es ∧ SqT X.K H3 a (itV x) ∧ es.length < sizeLine ∧
  (x ∈ keysT es → ∀ v, Q v H3) ∧ (x ∉ keysT es → Q z (upd H3 d (TD X.prog X.w d (es ++ [(x, a, z)]))))
theorem pe_tddef (hu : X.A.units + 1 < cLine) (ho : PE X o td) (he : PE X e ty) (hf : PE X f tx) (m : M2 X o "setdefault" apos e f cpos) : PE X (.Call (.Attribute o "setdefault" apos) [e, f] [] cpos) (tTdDef X td ty tx) := by
  refine ⟨fun pins s σ H Q I h => ?_⟩
  refine wpAny_Call_method m.base m.few m.line PySem.F.plainAttrs_dict PySem.F.slot_dict_setdefault PySem.F.type_dict_setdefault (thn (ho.run pins s σ H _ I h) fun u s1 ⟨x, H1, I1, rx, d, ex, ⟨es0, hd0⟩, q1⟩ => ?_)
  subst ex
  obtain rfl : u = Value.ref d := rx
  obtain ⟨t1, t2⟩ := td_type (td_at I1 (.inl hd0))
  refine ⟨t1, t2, ?_⟩
  rw [m.trees]
  refine Calls.callWith_builtin rfl (Calls.evalArgs_plain (Calls.spliced_cons (thn (he.run pins s1 σ H1 _ I1 q1) fun iv s2 ⟨y, H2, I2, ry, q2⟩ =>
    Calls.spliced_cons (thn (hf.run pins s2 σ H2 _ I2 q2) fun fv s3 ⟨z, H3, I3, rz, a, it, es, ey, hd, hk, hq, hl, k1, k2⟩ => Calls.spliced_nil ?_))))
  subst ey
  obtain rfl : iv = Value.ref a := ry
  exact td_setdefault hu I3 hd hk hq hl rz (fun hx s4 w' v' I4 r4 => ⟨v', H3, I4, r4, k1 hx v'⟩) fun hx s4 I4 => ⟨z, _, I4, rz, k2 hx⟩
def tTdGet (X : Cx) (td ty : TE) : TE := fun σ H Q => td σ H fun u H1 => ty σ H1 fun y H2 => ∃ a d x es b v, u = .ref d ∧ y = .ref a ∧ RdT X H2 d es ∧ TKs X.K H2 es ∧ SqT X.K H2 a (itV x) ∧ (x, b, v) ∈ es ∧ Q v H2
theorem pe_tdget (hu : X.A.units + 1 < cLine) (ho : PE X o td) (hi : PE X i ty) (hs : NoSl i) : PE X (.Subscript o i pos) (tTdGet X td ty) := by
  refine ⟨fun pins s σ H Q I h => ?_⟩
  refine subD_of PySem.F.slot_dict_getitem.lookup hs (thn (ho.run pins s σ H _ I h) fun u s1 ⟨x, H1, I1, rx, q1⟩ => thn (hi.run pins s1 σ H1 _ I1 q1) fun iv s2 ⟨y, H2, I2, ry, a, d, it, es, b, v, ex, ey, hd, hk, hq, hm, q⟩ => ?_)
  subst ex ey
  obtain rfl : u = Value.ref d := rx
  obtain rfl : iv = Value.ref a := ry
  exact ⟨(td_type (td_at I2 hd)).1, td_getItem hu I2 hd hk hq hm fun s3 w' I3 r => ⟨v, H2, I3, r, q⟩⟩
/-- {} -/
def tTdNew (X : Cx) : TE := fun _ H Q => ∀ p, H p = none → Q (.ref p) (upd H p (TD X.prog X.w p []))
theorem td_empty {P : Program} {w : World} (h : Heap) (hb : sysModules < h.objs.size) : tdF P w h.objs.size [] (h.push { cls := .type "dict", data := .dict #[] }) :=
  ⟨Nat.zero_le _, beq_eq_false_iff_ne.mpr (Ne.symm (Nat.ne_of_lt hb)), List.nodup_nil, [], .nil, _, #[], 0, Heap.get?_push_size _ rfl, ⟨rfl, rfl, rfl⟩, rfl, rfl⟩
theorem pe_tdnew : PE X (.Dict [] [] pos) (tTdNew X) := ⟨fun pins s σ H Q I h =>
  wpAny_Dict_empty ⟨.ref s.heap.objs.size, _, I.laid (a := s.heap.objs.size) (o := TD X.prog X.w s.heap.objs.size []) (t' := s.toks) (fun _ _ q => Heap.get?_push_of_some _ q) (Nat.le_refl _) (td_ok (td_empty s.heap I.big)), rfl, h _ (I.hok.fresh (Nat.le_refl _))⟩⟩
/-- {k: v} -/
def TdOneP (X : Cx) (p : Addr) (Q : VK) (ps : List (V × V)) (H2 : Hp) : Prop := ∃ a x v, ps = [(.ref a, v)] ∧ SqT X.K H2 a (itV x) ∧ H2 p = some (TD X.prog X.w p []) ∧ Q (.ref p) (upd H2 p (TD X.prog X.w p [(x, a, v)]))
def tTdOne (X : Cx) (ty tv : TE) : TE := fun σ H Q => ∀ p, H p = none → ty σ (upd H p (TD X.prog X.w p [])) fun y H1 => tv σ H1 fun v H2 => TdOneP X p Q [(y, v)] H2
theorem pe_tdone (hu : X.A.units < cLine) (hk : PE X e ty) (hv : PE X value tv) : PE X (.Dict [some e] [value] pos) (tTdOne X ty tv) := by
  refine ⟨fun pins s σ H Q I q => ?_⟩
  have hn := I.hok.fresh (Nat.le_refl s.heap.objs.size)
  have I1 := I.laid (a := s.heap.objs.size) (o := TD X.prog X.w s.heap.objs.size []) (h' := s.heap.push { cls := .type "dict", data := .dict #[] }) (t' := s.toks) (fun _ _ q => Heap.get?_push_of_some _ q) (Nat.le_refl _) (td_ok (td_empty s.heap I.big))
  have hall : ([some e] : List (Option Expr)).all (·.isSome) = true := rfl
  have hlen := pairTrees_length [some e] [value] X.env pos hall rfl
  rw [arm_eval_Dict, zip_pairTrees [some e] [value] X.env pos hall rfl, dictDisplay_pairs _ (by intro z; rw [z] at hlen; cases hlen) (by rw [hlen]; show 1 < 17; omega)]
  refine wpAny_bind (wpAny_standAt (wpAny_bind (wpAny_subDictH (knd := tupleKind (leafKind X.prog X.w)) (Q := fun d s' => wpAny (model X.prog X.w) X.A (pure (Value.ref d)) (EP X pins σ Q) X.xe s') hu (by rw [hlen]; show 1 ≤ 15; omega) ?_)))
  refine thn ((pps_cons (pos := pos) hk hv pps_nil).run pins _ σ _ (TdOneP X s.heap.objs.size Q) I1 (q _ hn)) fun ws s2 ⟨ps, H2, I2, rel, a, x, v, ep, hq, hd, q2⟩ => ?_
  subst ep
  cases rel with
  | @cons p b l m r rr =>
    cases rr
    obtain ⟨b1, b2⟩ := b
    obtain rfl : b1 = Value.ref a := r.1
    have t := td_at I2 (.inl hd)
    obtain ⟨xs, pr, dd⟩ := td_dict I2 t (fun e he => by cases he)
    cases pr
    refine ⟨[(itK x, a, b2)], ⟨rfl, rfl, key_td I2 hq, trivial⟩, dd, fun h' tk dd' hs => wpAny_pure ⟨.ref s.heap.objs.size, _, ?_, rfl, q2⟩⟩
    have dd2 : h'.DictOfH (tupleKind (leafKind X.prog X.w)) s.heap.objs.size (storedH [] (itK x) a b2) := dd'
    exact td_write I2 hd hs (td_snoc (es := []) (by show 0 < _; decide) t .nil (by intro z; cases z) r.2 dd2)
end
end LM

set_option maxHeartbeats 4000000
namespace LM
open PySem PySem.Spec PyProof.Rows L2
/-! ### such a dict walked, once it is locked -/
def ItTk (P : Program) (w : World) (d : Addr) (o : Obj) (es : List Ent) : It :=
  ⟨fun i H => H d = some (.frz o (TD P w d es)) ∧ i < es.length, fun i H x H' => H' = H ∧ ∃ e, es[i]? = some e ∧ x = .ref e.2.1, fun i H => H d = some (.frz o (TD P w d es)) ∧ es.length ≤ i⟩
def ItTi (P : Program) (w : World) (d : Addr) (o : Obj) (es : List Ent) : It :=
  ⟨fun i H => H d = some (.frz o (TD P w d es)) ∧ i < es.length, fun i H x H' => ∃ T e, es[i]? = some e ∧ x = .ref T ∧ H T = none ∧ H' = upd H T (.tup [.ref e.2.1, e.2.2]), fun i H => H d = some (.frz o (TD P w d es)) ∧ es.length ≤ i⟩
section
variable {X : Cx} {pins : List (Addr × Obj)} {σ : St} {H : Hp} {s : Shared} {d : Addr} {o : Obj} {es : List Ent}
theorem frzTD (I : Inv X pins σ H s) (h : H d = some (.frz o (TD X.prog X.w d es))) : (d == sysModules) = false ∧ s.heap.get? d = some o ∧ o.ExactDict ∧ ∃ (ents : Array DictEntry) (ep : Nat), o.data = .dict ents ep ∧ ents.size = es.length ∧
    ∀ (i : Nat) (e : Ent), es[i]? = some e → ∃ en : DictEntry, ents[i]? = some en ∧ en.key = .ref e.2.1 ∧ RelV e.2.2 en.val := by
  obtain ⟨hg, t, _⟩ := I.hok d _ h
  obtain ⟨hl, hd, hn, xs, pr, o', ents, ep, e1, e2, e3, e4⟩ := t
  rw [hg] at e1
  cases e1
  refine ⟨hd, hg, e2, ents, ep, e3, ?_, fun i e he => ?_⟩
  · have := congrArg List.length e4
    rw [Array.length_toList, List.length_map, ← paired_len pr] at this
    exact this
  · obtain ⟨b, hb, h1, h2, h3⟩ := paired_get pr he
    have q := entry_at e4 i
    rw [hb] at q
    exact ⟨_, q, by show Value.ref b.2.1 = _; rw [h2], h3⟩
end
section
variable {P : Program} {w : World} {K : PySem.W.Frag} {tg : Expr} {d : Addr} {o : Obj} {ents : Array DictEntry} {ep : Nat} {es : List Ent}
theorem turn_tk (it : Addr) (hod : o.data = .dict ents ep) : Turn P w K tg (ItTk P w d o es) [it] it (fun i h => h.IsKeyIter it d i es.length ep) where
  mem := by simp
  obj := fun i h st b hb => by
    have e : b = it := by simpa using hb
    subst e
    obtain ⟨oi, e, c, dd⟩ := st
    exact ⟨oi, e, fun v z => by rw [dd] at z; cases z⟩
  keep := fun i h h' st k => st.at fun oi e => k it (by simp) oi e
  item := by
    intro X hP hw hK hc i pins s σ H E I hf st hg
    subst hP hw hK
    obtain ⟨hd, hi⟩ := hg
    obtain ⟨f0, f1, f2, f3, f4, f5⟩ := hf it (by simp)
    obtain ⟨hs, hgd, hx, es', ep', hdt, hsz, ent⟩ := frzTD I hd
    obtain ⟨rfl, rfl⟩ := dict_ep hod hdt
    obtain ⟨e, he⟩ : ∃ p, es[i]? = some p := ⟨es[i], List.getElem?_eq_getElem hi⟩
    obtain ⟨en, hen, hkey, _⟩ := ent i e he
    refine next_key_item st hgd hdt hsz hen fun h' st' sb => ?_
    have I1 : Inv X pins σ H { s with heap := h' } := I.turned (t' := s.toks) (fun b ob hb e => (sb.2 b hb).trans e) f0 f1 f3 f4 f5
    obtain ⟨oi, e', c, dd⟩ := id st'
    exact ⟨en.key, rfl, go_of (s := { s with heap := h' }) e' c dd (by decide) ⟨.ref e.2.1, H, I1, hkey, ⟨rfl, e, he, rfl⟩, st', fun b hb => (hf b hb).1⟩⟩
  done := by
    intro X hP hw hK hc i pins s σ H E I hf st hg
    subst hP hw hK
    obtain ⟨hd, hi⟩ := hg
    obtain ⟨f0, f1, f2, f3, f4, f5⟩ := hf it (by simp)
    obtain ⟨hs, hgd, hx, es', ep', hdt, hsz, ent⟩ := frzTD I hd
    obtain ⟨rfl, rfl⟩ := dict_ep hod hdt
    exact next_key_end (I.ok.hd hc) st hgd hdt hsz hi fun h' eb => ⟨rfl, I.turned (t' := s.toks) (fun b ob hb e => eb b ob hb e) f0 f1 f3 f4 f5⟩
  self := fun A i s Q E st h => by
    refine wpAny_pyIter_slot st.typeIs F.slot_dict_keyiterator_iter (wpAny_call_entry F.slot_dict_keyiterator_iter st.typeIs F.entry_dict_keyiterator_iter ?_ (F.args_dict_keyiterator_iter_1 _))
    show wpAny _ _ (ret (.ref it)) _ _ s
    exact wpAny_pure ⟨_, rfl, "dict_keyiterator", _, st.typeIs, F.slot_dict_keyiterator_next.lookup, h⟩
theorem turn_ti {elts : List Expr} {kk : Nat} {tpos : Pos} (it : Addr) (hod : o.data = .dict ents ep) :
    Turn P w K (.Tuple elts kk tpos) (ItTi P w d o es) [it] it (fun i h => ∃ ok ov, IsItemIter h it d i es.length ep ok ov) where
  mem := by simp
  obj := fun i h st b hb => by
    have e : b = it := by simpa using hb
    subst e
    obtain ⟨ok, ov, e⟩ := st
    exact ⟨_, e, fun v z => nomatch z⟩
  keep := fun i h h' st k => let ⟨ok, ov, e⟩ := st; ⟨ok, ov, k it (by simp) _ e⟩
  item := by
    intro X hP hw hK hc i pins s σ H E I hf st hg
    subst hP hw hK
    obtain ⟨hd, hi⟩ := hg
    obtain ⟨hs, hgd, hx, es', ep', hdt, hsz, ent⟩ := frzTD I hd
    obtain ⟨rfl, rfl⟩ := dict_ep hod hdt
    obtain ⟨e, he⟩ : ∃ p, es[i]? = some p := ⟨es[i], List.getElem?_eq_getElem hi⟩
    obtain ⟨en, hen, hkey, hval⟩ := ent i e he
    obtain ⟨ok, ov, hit⟩ := st
    rw [← hsz] at hit
    have hlt : it < s.heap.objs.size := Heap.lt_size hit
    have hi' : i < es'.size := by rw [hsz]; exact hi
    have hen' : es'[i] = en := by
      have := Array.getElem?_eq_getElem hi'
      rw [hen] at this
      exact (Option.some.inj this).symm
    refine wpAny_pyNext_items_item_raw hit ⟨o, hgd, hx, hdt⟩ hi' fun h' ho hT hz hk => ?_
    rw [hen'] at ho hT
    refine ⟨_, rfl, wpAny_letOwnedTupleGo_items (s := { s with heap := h' }) ho fun h'' he' sb => ?_⟩
    have hT2 : h''.get? s.heap.objs.size = some { cls := .type "tuple", data := .seq #[en.key, en.val] } := (sb.2 _ (Nat.ne_of_gt hlt)).trans hT
    have new : ObjOk X.prog X.w (upd H s.heap.objs.size (.tup [.ref e.2.1, e.2.2])) h'' s.heap.objs.size (.tup [.ref e.2.1, e.2.2]) :=
      ⟨by show 2 ≤ sizeLine; decide, [en.key, en.val], .cons hkey (.cons hval .nil), ⟨_, hT2, rfl, _, rfl⟩⟩
    have I1 : Inv X pins σ (upd H s.heap.objs.size (.tup [.ref e.2.1, e.2.2])) { s with heap := h'' } :=
      I.turnedNew (t' := s.toks) (ch := [it]) (fun b ob hb e => (sb.2 b (by simpa using hb)).trans (hk b ob (by simpa using hb) e)) hf (Nat.le_refl _) new
    refine ⟨.ref s.heap.objs.size, _, I1, rfl, ⟨_, e, he, rfl, I.hok.fresh (Nat.le_refl _), rfl⟩, ⟨en.key, en.val, ?_⟩, fun b hb => ?_⟩
    · rw [← hsz]; exact he'
    · have e : b = it := by simpa using hb
      rw [e, upd_ne (Nat.ne_of_lt hlt)]
      exact (hf it (by simp)).1
  done := by
    intro X hP hw hK hc i pins s σ H E I hf st hg
    subst hP hw hK
    obtain ⟨hd, hi⟩ := hg
    obtain ⟨f0, f1, f2, f3, f4, f5⟩ := hf it (by simp)
    obtain ⟨hs, hgd, hx, es', ep', hdt, hsz, ent⟩ := frzTD I hd
    obtain ⟨rfl, rfl⟩ := dict_ep hod hdt
    obtain ⟨ok, ov, hit⟩ := st
    rw [← hsz] at hit
    exact wpAny_pyNext_items_end_raw (I.ok.hd hc) hit ⟨o, hgd, hx, hdt⟩ (by omega) fun h' eb => ⟨rfl, I.turned (t' := s.toks) (fun b ob hb e => eb b ob hb e) f0 f1 f3 f4 f5⟩
  self := fun A i s Q E st h => let ⟨_, _, e⟩ := st; PySem.W.kcp_self e h
end
section
variable {X : Cx} {tg e : Expr} {td : TE} {apos cpos : Pos}
def iTk (X : Cx) (td : TE) : TI := fun σ H R => td σ H fun x H1 => ∃ d o es, x = .ref d ∧ H1 d = some (.frz o (TD X.prog X.w d es)) ∧ R (ItTk X.prog X.w d o es) H1
def iTi (X : Cx) (td : TE) : TI := fun σ H R => td σ H fun x H1 => ∃ d o es, x = .ref d ∧ H1 d = some (.frz o (TD X.prog X.w d es)) ∧ R (ItTi X.prog X.w d o es) H1
theorem pi_tk (he : PE X e td) : PI X tg e (iTk X td) := by
  refine ⟨fun pins s σ H R I h => ?_⟩
  refine thn (he.run pins s σ H _ I h) fun u s1 ⟨x, H1, I1, rx, d, o, es, ex, hd, q⟩ => ?_
  subst ex
  obtain rfl : u = Value.ref d := rx
  obtain ⟨hs, hgd, hx, ents, ep, hdt, hsz, ent⟩ := frzTD I1 hd
  refine iter_keys hs hgd hx hdt (pi_one (tk := s1.toks) I1 _ (turn_tk _ hdt) ⟨_, Heap.get?_push_size _ rfl, rfl, ?_⟩ q)
  rw [hsz] <;> rfl
theorem pi_ti {elts : List Expr} {kk : Nat} {tpos : Pos} (he : PE X e td) (hbase : attributeBase e "items" X.env (eval e X.env) = eval e X.env := by rfl) (hline : (apos.endLine == cpos.line) = true := by rfl) :
    PI X (.Tuple elts kk tpos) (.Call (.Attribute e "items" apos) [] [] cpos) (iTi X td) := by
  refine ⟨fun pins s σ H R I h => ?_⟩
  refine wpAny_Call_method (T := "dict") (id := "dict.items") hbase rfl hline F.plainAttrs_dict F.slot_dict_items F.type_dict_items (thn (he.run pins s σ H _ I h) fun u s1 ⟨x, H1, I1, rx, d, o, es, ex, hd, q⟩ => ?_)
  subst ex
  obtain rfl : u = Value.ref d := rx
  obtain ⟨hs, hgd, hx, ents, ep, hdt, hsz, ent⟩ := frzTD I1 hd
  have raw : s1.heap.DictRaw d ents ep := ⟨o, hgd, hx, hdt⟩
  refine ⟨raw.typeIs, fun b q => by cases q; exact ⟨o, hgd, hx.2.1⟩, ?_⟩
  have I2 : Inv X pins σ H1 { s1 with heap := s1.heap.push { cls := .type "dict_items", data := .fields #[.ref d] } } := I1.kept (t' := s1.toks) fun b ob q => Heap.get?_push_of_some _ q
  have fin : wpAny (model X.prog X.w) X.A (pyIter (.ref s1.heap.objs.size)) (PIE X pins σ (.Tuple elts kk tpos) R) X.xe { s1 with heap := s1.heap.push { cls := .type "dict_items", data := .fields #[.ref d] } } := by
    refine wpAny_pyIter_items_raw (d := d) ⟨_, Heap.get?_push_size _ rfl, rfl, rfl⟩ (raw.at fun o q => Heap.get?_push_of_some _ q) (pi_one (tk := s1.toks) I2 _ (turn_ti _ hdt) ⟨.none, .none, ?_⟩ q)
    rw [← hsz]
    exact Heap.get?_push_size _ rfl
  show wpAny _ _ (callWith cpos (.builtin "dict.items") [.ref d] [] []) _ X.xe s1
  exact method_meetsIn F.slot_dict_items F.entry_dict_items rfl (PySem.evalArgs_none ⟨rfl, raw.typeIs, F.args_dict_items_1 _, _, meets_dict_items_raw d hs, ⟨⟨ents, ep, raw⟩, fin⟩⟩)
theorem walk_tk {d : Addr} {o : Obj} {es : List Ent} : Walk (ItTk X.prog X.w d o es) es.length (fun H => H d = some (.frz o (TD X.prog X.w d es))) (fun i H x H' => H' = H ∧ ∃ e, es[i]? = some e ∧ x = .ref e.2.1) :=
  ⟨fun _ _ hi q => ⟨q, hi⟩, fun _ q => ⟨q, Nat.le_refl _⟩, fun _ _ _ _ _ _ y => y⟩
theorem walk_ti {d : Addr} {o : Obj} {es : List Ent} : Walk (ItTi X.prog X.w d o es) es.length (fun H => H d = some (.frz o (TD X.prog X.w d es))) (fun i H x H' => ∃ T e, es[i]? = some e ∧ x = .ref T ∧ H T = none ∧ H' = upd H T (.tup [.ref e.2.1, e.2.2])) :=
  ⟨fun _ _ hi q => ⟨q, hi⟩, fun _ q => ⟨q, Nat.le_refl _⟩, fun _ _ _ _ _ _ y => y⟩
end
/-- a locked dict told by its entries -/
def FTd (X : Cx) (H : Hp) (d : Addr) (es : List Ent) : Prop := (∃ o, H d = some (.frz o (TD X.prog X.w d es))) ∧ TKs X.K H es
theorem FTd.mono {X : Cx} {H H' : Hp} {d : Addr} {es : List Ent} (e : Same H H') : FTd X H d es → FTd X H' d es
  | ⟨⟨o, h⟩, k⟩ => ⟨⟨o, e _ _ h⟩, k.mono e⟩
theorem FTd.rd {X : Cx} {H : Hp} {d : Addr} {es : List Ent} (h : FTd X H d es) : RdT X H d es := let ⟨⟨o, q⟩, _⟩ := h; .inr ⟨o, q⟩
section
variable {X : Cx} {tg e e2 : Expr} {σ : St} {H : Hp} {d a : Addr} {es : List Ent} {apos cpos pos : Pos} {x : It2}
/-- walks: the entries -/
def YTk (es : List Ent) : YY := fun _ i H' x H'' => H'' = H' ∧ ∃ e, es[i]? = some e ∧ x = .ref e.2.1
def YTi (es : List Ent) : YY := fun _ i H' x H'' => ∃ T e, es[i]? = some e ∧ x = .ref T ∧ H' T = none ∧ H'' = upd H' T (.tup [.ref e.2.1, e.2.2])
theorem xi_tk (h : XV X e σ H (.ref d)) (hd : FTd X H d es) : XI X tg e σ H es.length (YTk es) := by
  obtain ⟨⟨o, ho⟩, _⟩ := hd
  exact XI.of (pi_tk pe_s) fun H1 e1 R k => h.s e1 fun v H2 e2 q => by
    cases q
    exact ⟨d, o, es, rfl, (e1.trans e2) _ _ ho, k _ H2 e2 (walk_tk.mono (fun H' e => e _ _ ((e1.trans e2) _ _ ho)) fun i H' x H'' _ _ y => y)⟩
theorem xi_ti {elts : List Expr} {kk : Nat} {tpos : Pos} (h : XV X e σ H (.ref d)) (hd : FTd X H d es) (hbase : attributeBase e "items" X.env (eval e X.env) = eval e X.env := by rfl) (hline : (apos.endLine == cpos.line) = true := by rfl) :
    XI X (.Tuple elts kk tpos) (.Call (.Attribute e "items" apos) [] [] cpos) σ H es.length (YTi es) := by
  obtain ⟨⟨o, ho⟩, _⟩ := hd
  exact XI.of (pi_ti pe_s hbase hline) fun H1 e1 R k => h.s e1 fun v H2 e2 q => by
    cases q
    exact ⟨d, o, es, rfl, (e1.trans e2) _ _ ho, k _ H2 e2 (walk_ti.mono (fun H' e => e _ _ ((e1.trans e2) _ _ ho)) fun i H' x H'' _ _ y => y)⟩
theorem rv_tdIn {b : Bool} (ha : SqT X.K H a (itV x)) (hd : RdT X H d es) (hk : TKs X.K H es) : RV (rTdIn X b) (.ref a) (.ref d) H (Is (.bl (b ^^ decide (x ∈ keysT es)))) := fun H1 s1 Q k =>
  ⟨a, d, x, es, rfl, rfl, st_mono s1 ha, hd.imp (s1 _ _) (fun ⟨o, h⟩ => ⟨o, s1 _ _ h⟩), hk.mono s1, k _ H1 (Same.refl _) rfl⟩
theorem xe_tdget {j : Nat} {b : Addr} {v : V} (hr : Room j X.A) (h1 : XV X e σ H (.ref d)) (h2 : XV X e2 σ H (.ref a)) (hd : FTd X H d es) (ha : SqT X.K H a (itV x)) (hm : (x, b, v) ∈ es) (hs : NoSl e2 := by exact fun _ _ => rfl) : XV X (.Subscript e e2 pos) σ H v :=
  XE.of (pe_tdget (by have := hr.un; omega) pe_s pe_s hs) fun H1 s1 Q k => h1.s s1 fun u H2 e2 q => h2.s (s1.trans e2) fun w H3 e3 q' => by
    cases q; cases q'
    have hd3 := ((hd.mono s1).mono e2).mono e3
    exact ⟨a, d, x, es, b, v, rfl, rfl, hd3.rd, hd3.2, st_mono ((s1.trans e2).trans e3) ha, hm, k v H3 (e2.trans e3) rfl⟩
end
/-- a thing that is changed no more -/
theorem xs_lock {X : Cx} {sts : List Stmt} {D : Ends} {σ : St} {H : Hp} {d : Addr} {u : HO} (hd : H d = some u) (mu : Mut (some u)) (k : ∀ o, XSs X sts D σ (upd H d (.frz o u))) : XSs X sts D σ H := XSs.mk fun pins s H1 e1 I => by
  obtain ⟨o, I1⟩ := I.lock (e1 _ _ hd) mu
  refine (k o).run pins s (upd H1 d (.frz o u)) (fun b v hb => ?_) I1
  by_cases hbd : b = d
  · subst hbd
    rw [upd_same] at hb ⊢
    exact hb
  · rw [upd_ne hbd] at hb ⊢
    exact e1 _ _ hb
end LM

set_option maxHeartbeats 4000000
namespace LM
open PySem PySem.Spec PyProof.Rows L2
/-! ### what changes, held apart -/
theorem room1 {j : Nat} {X : Cx} (hr : Room j X.A) : X.A.units + 1 < cLine := by have := hr.un; omega
theorem renorm {G H1 : Hp} {M : Mp} (nd : (M.map (·.1)).Nodup) (fr : Fresh M G) (e : Same (Upds G M) H1) : ∃ G1, H1 = Upds G1 M ∧ Same G G1 ∧ Fresh M G1 := by
  obtain ⟨sg, hp⟩ := same_hide nd fr e
  exact ⟨hide M H1, (upds_hide nd hp).symm, sg, hide_fresh M H1⟩
/-- told at a heap without M, run at one with it -/
def Up (G : Hp) (M : Mp) (R : VP) : VP := fun v H => ∃ G1, H = Upds G1 M ∧ Same G G1 ∧ Fresh M G1 ∧ R v G1
section
variable {X : Cx} {e : Expr} {σ : St} {G H : Hp} {M : Mp} {R : VP} {b : Bool}
theorem XE.up (h : XE X e σ G R) (hM : OkM M) (fr : Fresh M G) : XE X e σ (Upds G M) (Up G M R) :=
  ⟨fun pins s H1 Q hs I k => XE.fr h hM fr hs (fun v G2 e1 f e2 r => k v (Upds G2 M) e2 ⟨G2, rfl, e1, f, r⟩) pins s I⟩
theorem XT.up (h : XT X e σ G b) (hM : OkM M) (fr : Fresh M G) : XT X e σ (Upds G M) b :=
  ⟨fun pins s H1 Q hs I k => XT.fr h hM fr hs (fun G2 e1 f e2 => k (Upds G2 M) e2) pins s I⟩
theorem upds_set {i : Nat} {a : Addr} {o u : HO} (nd : (M.map (·.1)).Nodup) (h : M[i]? = some (a, o)) : upd (Upds G M) a u = Upds G (M.set i (a, u)) := by
  induction M generalizing i with
  | nil => cases h
  | cons p r ih =>
    obtain ⟨b, ob⟩ := p
    obtain ⟨n1, n2⟩ := List.nodup_cons.mp nd
    cases i with
    | zero =>
      cases h
      show upd (upd (Upds G r) a o) a u = upd (Upds G r) a u
      exact upd_upd
    | succ j =>
      have h : r[j]? = some (a, o) := h
      have hab : a ≠ b := fun e => n1 (e ▸ List.mem_map.mpr ⟨_, List.mem_of_getElem? h, rfl⟩)
      show upd (upd (Upds G r) b ob) a u = upd (Upds G (r.set j (a, u))) b ob
      rw [← ih n2 h]
      funext c
      by_cases h1 : c = a
      · subst h1; rw [upd_same, upd_ne hab, upd_same]
      · by_cases h2 : c = b
        · subst h2; rw [upd_ne h1, upd_same, upd_same]
        · rw [upd_ne h1, upd_ne h2, upd_ne h2, upd_ne h1]
theorem upds_at {i : Nat} {a : Addr} {o : HO} (nd : (M.map (·.1)).Nodup) (h : M[i]? = some (a, o)) : Upds G M a = some o := upds_in nd (List.mem_of_getElem? h)
/-- the entry at i is another one -/
theorem okM_set {i : Nat} {a : Addr} {o u : HO} (hM : OkM M) (h : M[i]? = some (a, o)) (hu : match u with
  | .lst _ => True
  | .ext φ => ∀ h, φ h → ∃ ob es ep, h.get? a = some ob ∧ ob.data = .dict es ep
  | _ => False) (hins : ∀ p ∈ M, match p.2 with
  | .lst _ => True
  | .ext _ => True
  | _ => False) : OkM (M.set i (a, u)) := by
  have e1 : (M.set i (a, u)).map (·.1) = M.map (·.1) := by
    rw [List.map_set]
    apply List.ext_getElem?
    intro j
    rw [List.getElem?_set]
    split
    · rename_i hij
      subst hij
      have hi : i < M.length := (List.getElem?_eq_some_iff.mp h).1
      rw [if_pos (by simpa using hi), List.getElem?_map, h]
      rfl
    · rfl
  refine ⟨by rw [e1]; exact hM.1, fun p hp => ?_⟩
  rcases List.mem_or_eq_of_mem_set hp with q | q
  · have k := hM.2 p q
    have k2 := hins p q
    cases hp2 : p.2 with
    | lst xs => trivial
    | ext φ => rw [hp2] at k; exact k
    | _ => rw [hp2] at k2; exact k2.elim
  · subst q
    cases u with
    | lst xs => trivial
    | ext φ => exact hu
    | _ => exact hu.elim
theorem fresh_set {i : Nat} {a : Addr} {o u : HO} (fr : Fresh M G) (h : M[i]? = some (a, o)) : Fresh (M.set i (a, u)) G := fun p hp => by
  rcases List.mem_or_eq_of_mem_set hp with q | q
  · exact fr p q
  · subst q; exact fr (a, o) (List.mem_of_getElem? h)
end
/-! ### expressions that change things -/
structure XU (X : Cx) (e : Expr) (σ : St) (H : Hp) (R : Hp → VP) : Prop where
  run : ∀ H1, Same H H1 → ∀ Q : VK, (∀ v H2, R H1 v H2 → Q v H2) → sE X e σ H1 Q
section
variable {X : Cx} {e o : Expr} {σ : St} {H : Hp} {R : VP} {RU : Hp → VP} {rest : List Stmt} {D : Ends} {pos pos' apos cpos : Pos} {xs : List V} {l d a : Addr} {es : List Ent} {x : It2}
theorem XE.u (h : XE X e σ H R) : XU X e σ H (fun H1 v H2 => Same H1 H2 ∧ R v H2) := ⟨fun H1 s Q k => h.s s fun v H2 e2 r => k v H2 ⟨e2, r⟩⟩
theorem xs_setU (i : Nat) {y : Str} (he : XU X e σ H RU) (k : ∀ v H1 H2, Same H H1 → RU H1 v H2 → XSs X rest D (σ.set i (some v)) H2) (hN : X.N.Nodup) (hi : X.N[i]? = some y := by rfl) (hx : Loc X.env.scope y := by first | exact Or.inl rfl | exact Or.inr rfl)
    (hs : swapsWith e (some (.Name y pos')) pos.line X.env = pure false := by rfl) (hf : X.fn y = true ∨ X.env.scope.names.lookup y = some .local := by first | exact .inl rfl | exact .inr rfl) : XSs X (.Assign [.Name y pos'] e pos :: rest) D σ H :=
  xs_step (ps_set hN hi hx pe_s hs hf) fun H1 e1 => he.run H1 e1 _ fun v H2 r => (k v H1 H2 e1 r).s (Same.refl _)
theorem xs_exprU (he : XU X e σ H RU) (k : ∀ v H1 H2, Same H H1 → RU H1 v H2 → XSs X rest D σ H2) (hs : swapsWith e none pos.line X.env = pure false := by rfl) : XSs X (.Expr e pos :: rest) D σ H :=
  xs_step (ps_expr pe_s hs) fun H1 e1 => he.run H1 e1 _ fun v H2 r => (k v H1 H2 e1 r).s (Same.refl _)
/-- l.pop(i) -/
theorem xu_popAt {i : Int} {k : Nat} {y : V} (ho : XV X o σ H (.ref l)) (he : XV X e σ H (.int i)) (hl : H l = some (.lst xs)) (hi : -(2 ^ 63) ≤ i ∧ i < 2 ^ 63) (hk : seqIndex? i xs.length = some k) (hy : xs[k]? = some y)
    (hbase : attributeBase o "pop" X.env (eval o X.env) = eval o X.env := by rfl)
    (hfew : ((backTo cpos (starEach [e] X.env)).all (fun x => !x.1) && (backToKw cpos (keywordEach [] X.env)).all (fun x => x.1.isSome)
      && decide ([e].length + ([] : List Keyword).length + (if ([] : List Keyword).isEmpty then 0 else 1) < 30)) = true := by rfl)
    (hline : (apos.endLine == cpos.line) = true := by rfl) (hs1 : starEach [e] X.env = (false, eval e X.env) :: starEach [] X.env := by rfl) (hplain : (backTo cpos (starEach [] X.env)).any (·.1) = false := by rfl) :
    XU X (.Call (.Attribute o "pop" apos) [e] [] cpos) σ H (fun H1 v H2 => v = y ∧ ∃ H3, Same H1 H3 ∧ H2 = upd H3 l (.lst (xs.eraseIdx k))) :=
  ⟨fun H1 e1 Q kq pins s I => (pe_bm PySem.F.plainAttrs_list PySem.F.slot_list_pop PySem.F.type_list_pop mt_popAt pe_s (pa_cons pe_s pa_nil hs1) hbase hfew hline hs1 hplain).run pins s σ H1 Q I (ho.s e1 fun v H2 e2 q => by
    cases q
    refine ⟨Or.inl ⟨rfl, _, SqL.of ((e1.trans e2) _ _ hl)⟩, he.s (e1.trans e2) fun v H3 e3 r => ?_⟩
    cases r
    exact ⟨l, xs, i, k, y, rfl, rfl, ((e1.trans e2).trans e3) _ _ hl, hi.1, hi.2, hk, hy, kq y _ ⟨rfl, H3, e2.trans e3, rfl⟩⟩)⟩
/-- d[k] = v, a new key -/
theorem xs_tdput {i value : Expr} {j : Nat} (hr : Room j X.A) (he : XE X value σ H R) (ho : XV X o σ H (.ref d)) (hi : XV X i σ H (.ref a)) (hd : H d = some (TD X.prog X.w d es)) (hk : TKs X.K H es) (hq : SqT X.K H a (itV x)) (hn : x ∉ keysT es) (hl : es.length < 1000000) [Mon R]
    (k : ∀ v H1, Same H H1 → R v H1 → XSs X rest D σ (upd H1 d (TD X.prog X.w d (es ++ [(x, a, v)])))) (hs : swapsWith value (some (.Subscript o i pos')) pos.line X.env = pure false := by rfl) : XSs X (.Assign [.Subscript o i pos'] value pos :: rest) D σ H :=
  xs_stepX (ps_tdput (by have := hr.un; omega) pe_s pe_s pe_s hs) fun H1 e1 => he.s e1 fun v H2 e2 r => ho.s (e1.trans e2) fun u H3 e3 q => hi.s ((e1.trans e2).trans e3) fun w H4 e4 q' => by
    cases q; cases q'
    have s4 := ((e1.trans e2).trans e3).trans e4
    exact ⟨a, d, x, es, rfl, rfl, s4 _ _ hd, hk.mono s4, st_mono s4 hq, hn, sz_lt hl, k v H4 s4 (Mon.mono v _ _ (e3.trans e4) r)⟩
/-- d.setdefault(k, v) for itself -/
theorem xs_tddef {i value : Expr} {j : Nat} (hr : Room j X.A) (ho : XV X o σ H (.ref d)) (hi : XE X i σ H (fun v H' => ∃ a, v = .ref a ∧ SqT X.K H' a (itV x))) (he : XE X value σ H R) [Mon R] (hd : H d = some (TD X.prog X.w d es)) (hk : TKs X.K H es) (hl : es.length < 1000000)
    (k1 : x ∈ keysT es → ∀ H1, Same H H1 → XSs X rest D σ H1) (k2 : x ∉ keysT es → ∀ v a H1, Same H H1 → R v H1 → SqT X.K H1 a (itV x) → XSs X rest D σ (upd H1 d (TD X.prog X.w d (es ++ [(x, a, v)]))))
    (hb : attributeBase o "setdefault" X.env (eval o X.env) = eval o X.env := by rfl)
    (hf : ((backTo cpos (starEach [i, value] X.env)).all (fun x => !x.1) && (backToKw cpos (keywordEach [] X.env)).all (fun x => x.1.isSome)
    && decide (([i, value] : List Expr).length + ([] : List Keyword).length + (if ([] : List Keyword).isEmpty then 0 else 1) < 30)) = true := by rfl) (hln : (apos.endLine == cpos.line) = true := by rfl)
    (ht : backTo cpos (starEach [i, value] X.env) = [(false, eval i X.env), (false, eval value X.env)] := by rfl)
    (hs : swapsWith (.Call (.Attribute o "setdefault" apos) [i, value] [] cpos) none pos.line X.env = pure false := by rfl) : XSs X (.Expr (.Call (.Attribute o "setdefault" apos) [i, value] [] cpos) pos :: rest) D σ H :=
  xs_stepX (ps_expr (pe_tddef (by have := hr.un; omega) pe_s pe_s pe_s ⟨hb, hf, hln, ht⟩) hs) fun H1 e1 => ho.s e1 fun u H2 e2 q => by
    cases q
    refine ⟨d, rfl, ⟨es, (e1.trans e2) _ _ hd⟩, hi.s (e1.trans e2) fun y H3 e3 ⟨a, hy, ha⟩ => he.s ((e1.trans e2).trans e3) fun z H4 e4 r => ?_⟩
    have s4 := ((e1.trans e2).trans e3).trans e4
    exact ⟨a, x, es, hy, s4 _ _ hd, hk.mono s4, st_mono e4 ha, sz_lt hl, fun hx v => k1 hx H4 s4, fun hx => k2 hx z a H4 s4 r (st_mono e4 ha)⟩
/-- a new dict -/
def NewTd (X : Cx) (H : Hp) : VP := fun v H' => ∃ p, v = .ref p ∧ H p = none ∧ H' p = some (TD X.prog X.w p [])
instance (X : Cx) (H : Hp) : Mon (NewTd X H) := ⟨fun _ _ _ e ⟨p, h1, h2, h3⟩ => ⟨p, h1, h2, e _ _ h3⟩⟩
def OneTd (X : Cx) (H : Hp) (x : It2) (a : Addr) : VP := fun v H' => ∃ p u, v = .ref p ∧ H p = none ∧ H' p = some (TD X.prog X.w p [(x, a, u)])
instance (X : Cx) (H : Hp) (x : It2) (a : Addr) : Mon (OneTd X H x a) := ⟨fun _ _ _ e ⟨p, u, h1, h2, h3⟩ => ⟨p, u, h1, h2, e _ _ h3⟩⟩
def NewL (H : Hp) (xs : List V) : VP := fun v H' => ∃ p, v = .ref p ∧ H p = none ∧ H' p = some (.lst xs)
instance (H : Hp) (xs : List V) : Mon (NewL H xs) := ⟨fun _ _ _ e ⟨p, h1, h2, h3⟩ => ⟨p, h1, h2, e _ _ h3⟩⟩
theorem none_of {H H1 : Hp} {p : Addr} (e : Same H H1) (h : H1 p = none) : H p = none := by
  cases q : H p with
  | none => rfl
  | some o => rw [e _ _ q] at h; cases h
theorem xe_tdnew : XE X (.Dict [] [] pos) σ H (NewTd X H) :=
  XE.of pe_tdnew fun H1 e1 Q k => fun p hp => k _ _ (newS hp) ⟨p, rfl, none_of e1 hp, upd_same⟩
theorem xe_lstN {es : List Expr} (h : XA X es σ H (xs.map Is)) (hl : xs.length ≤ 1000000) : XE X (.List es pos) σ H (NewL H xs) :=
  XE.of (pe_lst pa_s) fun H1 e1 Q k => h.s e1 fun vs H2 e2 r => by
    cases allR_is r
    exact ⟨sz_of hl, fun p hp => k _ _ (e2.trans (newS hp)) ⟨p, rfl, none_of (e1.trans e2) hp, upd_same⟩⟩
theorem xe_tdone {i value : Expr} {j : Nat} [Mon R] (hr : Room j X.A) (hi : XV X i σ H (.ref a)) (hq : SqT X.K H a (itV x)) (he : XE X value σ H R) : XE X (.Dict [some i] [value] pos) σ H (OneTd X H x a) :=
  XE.of (pe_tdone hr.units0 pe_s pe_s) fun H1 e1 Q k => fun p hp => hi.s (e1.trans (newS hp)) fun y H2 e2 q => he.s ((e1.trans (newS hp)).trans e2) fun v H3 e3 r => by
    cases q
    exact ⟨a, x, v, rfl, st_mono (((e1.trans (newS hp)).trans e2).trans e3) hq, e3 _ _ (e2 _ _ upd_same), k _ _ (mutS (((newS hp).trans e2).trans e3) hp) ⟨p, v, rfl, none_of e1 hp, upd_same⟩⟩
/-- a, b = x, y -/
theorem xs_par (i j : Nat) {x y : Str} {a b : Expr} {px py pt : Pos} {kt k2 : Nat} {pt2 : Pos} {R1 R2 : VP} (ha : XA X [a, b] σ H [R1, R2]) (k : ∀ v w H1, Same H H1 → R1 v H1 → R2 w H1 → XSs X rest D ((σ.set i (some v)).set j (some w)) H1) (hN : X.N.Nodup)
    (hc : X.calm = true := by rfl) (hi : X.N[i]? = some x := by rfl) (hj : X.N[j]? = some y := by rfl) (hij : i ≠ j := by decide) (hx : X.env.scope.names.lookup x = some .local := by rfl) (hy : X.env.scope.names.lookup y = some .local := by rfl)
    (hw : swappedStores [.Tuple [.Name x px, .Name y py] kt pt] (.Tuple [a, b] k2 pt2) X.env = pure (some [x, y]) := by rfl) (hs : swapsWithSole [.Tuple [.Name x px, .Name y py] kt pt] (.Tuple [a, b] k2 pt2) pos.line X.env = pure false := by rfl) :
    XSs X (.Assign [.Tuple [.Name x px, .Name y py] kt pt] (.Tuple [a, b] k2 pt2) pos :: rest) D σ H :=
  xs_stepX (ps_par hc hN hi hj hij hx hy pa_s hw hs) fun H1 e1 => ha.s e1 fun vs H2 e2 r => by
    match vs, r with
    | [v, w], r => exact ⟨v, w, rfl, k v w H2 (e1.trans e2) r.1 r.2.1⟩
end
theorem split_new {H H1 : Hp} {M : Mp} (nd : (M.map (·.1)).Nodup) (hM : ∀ p ∈ M, H1 p.1 = some p.2) (hf : ∀ p ∈ M, H p.1 = none) (s : Same H H1) : ∃ G, H1 = Upds G M ∧ Same H G ∧ Fresh M G := by
  refine ⟨hide M H1, (upds_hide nd hM).symm, fun a o h => ?_, hide_fresh M H1⟩
  rw [hide_ne]
  · exact s _ _ h
  · intro hm
    obtain ⟨p, hp, e⟩ := List.mem_map.mp hm
    have := hf p hp
    rw [e, h] at this; cases this
end LM

set_option maxHeartbeats 4000000
namespace LM
open PySem PySem.Spec PyProof.Rows L2
section
variable {X : Cx} {k j : Nat} {m : Str} {e1 e2 o a b : Expr} {σ : St} {H : Hp} {R1 R2 : VP} {RU R' : Hp → VP} {apos pos : Pos} {C ad dx : Addr} {fs : List (Str × V)} {sp : Sp} {rest : List Stmt} {D : Ends}
/-- a method that changes things, one argument -/
theorem xu_meth1 {pl : Sem Bool} (c : Met (wd X) k C m sp) (hr : Room j X.A) (ho : XV X o σ H (.ref ad)) (hi : H ad = some (.ins C dx fs)) (hn : fs.lookup m = none) (h1 : XU X e1 σ H RU)
    (hp : ∀ H1 v H2, Same H H1 → RU H1 v H2 → ∀ (Q : VK) E, (∀ w H3, R' H1 w H3 → Q w H3) → sp [.ref ad, v] H2 Q E) (hR : ∀ H1 H2 w H3, Same H1 H2 → R' H2 w H3 → R' H1 w H3 := by intro _ _ _ _ e r; exact r) (hk : k ≤ j := by decide)
    (hst : starEach [e1] X.env = (false, eval e1 X.env) :: starEach [] X.env := by rfl) (hpl : (backTo pos (starEach [] X.env)).any (·.1) = false := by rfl)
    (ht : eval (.Call (.Attribute o m apos) [e1] [] pos) X.env = (do
      let ov ← eval o X.env
      standAt apos.atName
      let (f, first) ← holding [ov] (getMethod ov m pl)
      callWith pos f first (backTo pos (starEach [e1] X.env)) (backToKw pos (keywordEach [] X.env))) := by rfl) : XU X (.Call (.Attribute o m apos) [e1] [] pos) σ H R' := by
  obtain ⟨f, fd, ps, hc, hm, F, bd⟩ := c.ex
  exact ⟨fun H1 e1' Q kq pins s I => (pe_meth (pl := pl) pe_s hc hm F (hr.mono hk) bd .nil pass0 (pa_cons pe_s pa_nil hst) hst hpl ht).run pins s σ H1 Q I (ho.s e1' fun v H2 e2 q => by
    cases q
    refine ⟨ad, dx, fs, rfl, (e1'.trans e2) _ _ hi, hn, h1.run H2 (e1'.trans e2) _ fun v H3 r => ?_⟩
    exact hp H2 v H3 (e1'.trans e2) r Q _ fun w H4 r' => kq w H4 (hR H1 H2 w H4 e2 r'))⟩
/-- .. two pure arguments -/
theorem xu_meth2 [Mon R1] {pl : Sem Bool} (c : Met (wd X) k C m sp) (hr : Room j X.A) (ho : XV X o σ H (.ref ad)) (hi : H ad = some (.ins C dx fs)) (hn : fs.lookup m = none) (h1 : XE X e1 σ H R1) (h2 : XE X e2 σ H R2)
    (hp : ∀ v w H2, Same H H2 → R1 v H2 → R2 w H2 → ∀ (Q : VK) E, (∀ w H3, R' H2 w H3 → Q w H3) → sp [.ref ad, v, w] H2 Q E) (hR : ∀ H1 H2 w H3, Same H1 H2 → R' H2 w H3 → R' H1 w H3) (hk : k ≤ j := by decide)
    (hst : starEach [e1, e2] X.env = (false, eval e1 X.env) :: starEach [e2] X.env := by rfl) (hst2 : starEach [e2] X.env = (false, eval e2 X.env) :: starEach [] X.env := by rfl) (hpl : (backTo pos (starEach [e2] X.env)).any (·.1) = false := by rfl)
    (ht : eval (.Call (.Attribute o m apos) [e1, e2] [] pos) X.env = (do
      let ov ← eval o X.env
      standAt apos.atName
      let (f, first) ← holding [ov] (getMethod ov m pl)
      callWith pos f first (backTo pos (starEach [e1, e2] X.env)) (backToKw pos (keywordEach [] X.env))) := by rfl) : XU X (.Call (.Attribute o m apos) [e1, e2] [] pos) σ H R' := by
  obtain ⟨f, fd, ps, hc, hm, F, bd⟩ := c.ex
  exact ⟨fun H1 e1' Q kq pins s I => (pe_meth (pl := pl) pe_s hc hm F (hr.mono hk) bd .nil pass0 (pa_cons pe_s (pa_cons pe_s pa_nil hst2) hst) hst hpl ht).run pins s σ H1 Q I (ho.s e1' fun v H2 e2 q => by
    cases q
    refine ⟨ad, dx, fs, rfl, (e1'.trans e2) _ _ hi, hn, h1.s (e1'.trans e2) fun v H3 e3 r => h2.s ((e1'.trans e2).trans e3) fun w H4 e4 r2 => ?_⟩
    exact hp v w H4 (((e1'.trans e2).trans e3).trans e4) (Mon.mono _ _ _ e4 r) r2 Q _ fun w H5 r' => kq w H5 (hR H1 H4 w H5 ((e2.trans e3).trans e4) r'))⟩
/-- a, b = x, y, the first one changes things -/
theorem xs_parU (i j : Nat) {x y : Str} {px py pt : Pos} {kt k2 : Nat} {pt2 : Pos} (ha : XU X a σ H RU) (hb : ∀ H1 v H2, Same H H1 → RU H1 v H2 → XE X b σ H2 R2) (k : ∀ H1 v H2 w H3, Same H H1 → RU H1 v H2 → Same H2 H3 → R2 w H3 → XSs X rest D ((σ.set i (some v)).set j (some w)) H3) (hN : X.N.Nodup)
    (hc : X.calm = true := by rfl) (hi : X.N[i]? = some x := by rfl) (hj : X.N[j]? = some y := by rfl) (hij : i ≠ j := by decide) (hx : X.env.scope.names.lookup x = some .local := by rfl) (hy : X.env.scope.names.lookup y = some .local := by rfl)
    (hw : swappedStores [.Tuple [.Name x px, .Name y py] kt pt] (.Tuple [a, b] k2 pt2) X.env = pure (some [x, y]) := by rfl) (hs : swapsWithSole [.Tuple [.Name x px, .Name y py] kt pt] (.Tuple [a, b] k2 pt2) pos.line X.env = pure false := by rfl)
    (hst : starEach [a, b] X.env = (false, eval a X.env) :: starEach [b] X.env := by rfl) (hst2 : starEach [b] X.env = (false, eval b X.env) :: starEach [] X.env := by rfl) :
    XSs X (.Assign [.Tuple [.Name x px, .Name y py] kt pt] (.Tuple [a, b] k2 pt2) pos :: rest) D σ H :=
  xs_stepX (ps_par hc hN hi hj hij hx hy (pa_cons pe_s (pa_cons pe_s pa_nil hst2) hst) hw hs) fun H1 e1 => ha.run H1 e1 _ fun v H2 r => (hb H1 v H2 e1 r).s (Same.refl _) fun w H3 e3 r2 => ⟨v, w, rfl, k H1 v H2 w H3 e1 r e3 r2⟩
end
/-! ### what an instance's change leaves -/
section
variable {K : PySem.W.Frag} {P : Program} {w : World} {H : Hp} {y C dx a : Addr} {fs : List (Str × V)} {xs : List V} {u : HO} {es : List Ent}
theorem st_updI (hy : H y = some (.ins C dx fs)) (h : SqT K H a xs) : SqT K (upd H y u) a xs := by
  rcases h with (h | ⟨o, h⟩) | h
  · refine .inl (.inl ?_)
    rw [upd_ne (fun q => by rw [q, hy] at h; cases h)]; exact h
  · refine .inl (.inr ⟨o, ?_⟩)
    rw [upd_ne (fun q => by rw [q, hy] at h; cases h)]; exact h
  · exact .inr h
theorem tks_updI (hy : H y = some (.ins C dx fs)) (h : TKs K H es) : TKs K (upd H y u) es := fun e he => st_updI hy (h e he)
end
end LM

set_option maxHeartbeats 4000000
namespace LM
open PySem PySem.Spec PyProof.Rows L2
/-! ### zip of two, of three tuples -/
def YZ2 (xs ys : List V) : YY := fun _ i H' x H'' => ∃ T u v, x = .ref T ∧ H' T = none ∧ H'' = upd H' T (.tup [u, v]) ∧ xs[i]? = some u ∧ ys[i]? = some v
theorem yp_zip2 {K : PySem.W.Frag} {xs ys : List V} {n : Nat} : YP K n (fun i u v _ _ => xs[i]? = some u ∧ ys[i]? = some v) (YZ2 xs ys) := fun G2 i H' x H'' _ ⟨T, u, v, h1, h2, h3, h4, h5⟩ => ⟨T, u, v, h1, ⟨h4, h5⟩, .inl ⟨h2, h3⟩⟩
def YZ3 (xs ys zs : List V) : YY := fun _ i H' x H'' => ∃ T u v w, x = .ref T ∧ H' T = none ∧ H'' = upd H' T (.tup [u, v, w]) ∧ xs[i]? = some u ∧ ys[i]? = some v ∧ zs[i]? = some w
section
variable {X : Cx} {e1 e2 e3 : Expr} {σ : St} {H : Hp} {p pos tpos : Pos} {elts : List Expr} {kk : Nat} {a b c : Addr} {xs ys zs : List V} {n : Nat}
theorem xi_zip2 (hm : X.mg "zip" = none) (h1 : XV X e1 σ H (.ref a)) (h2 : XV X e2 σ H (.ref b)) (hx : SqT X.K H a xs) (hy : SqT X.K H b ys) (lx : xs.length = n) (ly : ys.length = n) (hg : Gl X "zip" := by rfl)
    (hs : starEach [e1, e2] X.env = (false, eval e1 X.env) :: starEach [e2] X.env := by rfl) (hs2 : starEach [e2] X.env = (false, eval e2 X.env) :: starEach [] X.env := by rfl) (hpl : (backTo pos (starEach [e2] X.env)).any (·.1) = false := by rfl) :
    XI X (.Tuple elts kk tpos) (.Call (.Name "zip" p) [e1, e2] [] pos) σ H n (YZ2 xs ys) :=
  XI.of (RZ.pi_zipA hg hm (pa_cons pe_s (pa_cons pe_s pa_nil hs2) hs) hs hpl) fun H1 s1 R k => h1.s s1 fun v H2 s2 q => h2.s (s1.trans s2) fun w H3 s3 q' => by
    cases q; cases q'
    have s0 := (s1.trans s2).trans s3
    refine ⟨a, b, xs, ys, rfl, .inr ⟨st_mono s0 hx, st_mono s0 hy, k _ H3 (s2.trans s3) ⟨fun i H' hi q => ?_, fun H' q => ?_, fun i H' x H'' hi q y => ?_⟩⟩⟩
    · have s := s0.trans q
      exact ⟨xs, ys, xs[i], ys[i], st_mono s hx, st_mono s hy, by simp [lx, hi], by simp [ly, hi]⟩
    · have s := s0.trans q
      exact ⟨xs, ys, st_mono s hx, st_mono s hy, .inl (by omega)⟩
    · have s := s0.trans q
      obtain ⟨T, u, v, h1, h2, h3, h4, h5⟩ := y
      exact ⟨T, u, v, h1, h2, h3, h4 xs (st_mono s hx), h5 ys (st_mono s hy)⟩
end
def ItzT3 (K : PySem.W.Frag) (a b c : Addr) : It :=
  ⟨fun i H => ∃ (xs ys zs : List V) (x y z : V), SqT K H a xs ∧ SqT K H b ys ∧ SqT K H c zs ∧ xs[i]? = some x ∧ ys[i]? = some y ∧ zs[i]? = some z,
    fun i H v H' => ∃ T x y z, v = .ref T ∧ H T = none ∧ H' = upd H T (.tup [x, y, z]) ∧ (∀ xs, SqT K H a xs → xs[i]? = some x) ∧ (∀ ys, SqT K H b ys → ys[i]? = some y) ∧ ∀ zs, SqT K H c zs → zs[i]? = some z,
    fun i H => ∃ xs ys zs : List V, SqT K H a xs ∧ SqT K H b ys ∧ SqT K H c zs ∧ xs.length = i ∧ ys.length = i ∧ zs.length = i⟩
theorem zf_ne {z i : Addr} {l : List Addr} (h : z ∉ i :: l) : z ≠ i := fun e => h (e ▸ List.mem_cons_self)
theorem turn_zip3T {P : Program} {w : World} {K : PySem.W.Frag} {elts : List Expr} {kk : Nat} {tpos : Pos} {a b c z TI TO i1 i2 i3 : Addr} (D : ZipSep3 z TI TO i1 i2 i3 [i1, a] [i2, b] [i3, c]) (n1 : a ≠ i1) (n2 : b ≠ i2) (n3 : c ≠ i3) :
    Turn P w K (.Tuple elts kk tpos) (ItzT3 K a b c) [z, TI, TO, i1, i2, i3] z (fun i h => IsZip h z TI TO .none ∧ IsTupOf3 h TI (.ref i1) (.ref i2) (.ref i3) ∧ (∃ x y u, IsTupOf3 h TO x y u) ∧ h.IsTupleIter i1 a i ∧ h.IsTupleIter i2 b i ∧ h.IsTupleIter i3 c i) where
  mem := by simp
  obj := fun i h st c hc => by
    obtain ⟨hz, hTI, ⟨x, y, u, hTO⟩, ⟨o1, e1, _, d1⟩, ⟨o2, e2, _, d2⟩, ⟨o3, e3, _, d3⟩⟩ := st
    have e' : c = z ∨ c = TI ∨ c = TO ∨ c = i1 ∨ c = i2 ∨ c = i3 := by simpa using hc
    rcases e' with q | q | q | q | q | q
    · rw [q]; exact ⟨_, hz, fun v q => nomatch q⟩
    · rw [q]; exact ⟨_, hTI, fun v q => nomatch q⟩
    · rw [q]; exact ⟨_, hTO, fun v q => nomatch q⟩
    · rw [q]; exact ⟨o1, e1, fun v q => by rw [d1] at q; cases q⟩
    · rw [q]; exact ⟨o2, e2, fun v q => by rw [d2] at q; cases q⟩
    · rw [q]; exact ⟨o3, e3, fun v q => by rw [d3] at q; cases q⟩
  keep := fun i h h' st k => by
    obtain ⟨hz, hTI, ⟨x, y, u, hTO⟩, h1, h2, h3⟩ := st
    exact ⟨k z (by simp) _ hz, k TI (by simp) _ hTI, ⟨x, y, u, k TO (by simp) _ hTO⟩, h1.at fun o q => k i1 (by simp) o q, h2.at fun o q => k i2 (by simp) o q, h3.at fun o q => k i3 (by simp) o q⟩
  item := by
    intro X hP hw hK hc i pins s σ H E I hf st hg
    subst hP hw hK
    obtain ⟨hz, hTI, ⟨x0, y0, u0, hTO⟩, h1, h2, h3⟩ := st
    obtain ⟨xs, ys, zs, x, y, u, hqx, hqy, hqz, hx, hy, hu⟩ := hg
    obtain ⟨its, rv, p, _⟩ := I.tuple hqx
    obtain ⟨its2, rv2, p2, _⟩ := I.tuple hqy
    obtain ⟨its3, rv3, p3, _⟩ := I.tuple hqz
    obtain ⟨v1, hv1, r1⟩ := rv.get hx
    obtain ⟨v2, hv2, r2⟩ := rv2.get hy
    obtain ⟨v3, hv3, r3⟩ := rv3.get hu
    have hh : X.A.in1.handled = none := I.ok.hd hc
    have hzl : z < s.heap.objs.size := Heap.lt_size hz
    have lt1 : i < its.toArray.size := by rw [List.size_toArray]; exact (List.getElem?_eq_some_iff.mp hv1).1
    have lt2 : i < its2.toArray.size := by rw [List.size_toArray]; exact (List.getElem?_eq_some_iff.mp hv2).1
    have lt3 : i < its3.toArray.size := by rw [List.size_toArray]; exact (List.getElem?_eq_some_iff.mp hv3).1
    refine wpAny_pyNext_zipD3_item D (Draws.tuple hh i1 a n1 its.toArray) (Draws.tuple hh i2 b n2 its2.toArray) (Draws.tuple hh i3 c n3 its3.toArray) hz hTI hTO ⟨h1, p⟩ ⟨h2, p2⟩ ⟨h3, p3⟩ lt1 lt2 lt3 fun w1 w2 w3 h' tk q1 q2 q3 z' TO' st1 st2 st3 hT hsz hk => ?_
    obtain rfl : v1 = w1 := Option.some.inj ((show its.toArray[i]? = some v1 by simpa using hv1).symm.trans q1)
    obtain rfl : v2 = w2 := Option.some.inj ((show its2.toArray[i]? = some v2 by simpa using hv2).symm.trans q2)
    obtain rfl : v3 = w3 := Option.some.inj ((show its3.toArray[i]? = some v3 by simpa using hv3).symm.trans q3)
    refine ⟨_, rfl, wpAny_letOwnedTupleGo_zip (s := { s with heap := h', toks := tk }) z' fun h'' z'' sb => ?_⟩
    have hT2 : h''.get? s.heap.objs.size = some { cls := .type "tuple", data := .seq #[v1, v2, v3] } := (sb.2 _ (Nat.ne_of_gt hzl)).trans hT
    have new : ObjOk X.prog X.w (upd H s.heap.objs.size (.tup [x, y, u])) h'' s.heap.objs.size (.tup [x, y, u]) :=
      ⟨by show 3 ≤ sizeLine; decide, [v1, v2, v3], .cons r1 (.cons r2 (.cons r3 .nil)), ⟨_, hT2, rfl, _, rfl⟩⟩
    have I1 : Inv X pins σ (upd H s.heap.objs.size (.tup [x, y, u])) { s with heap := h'', toks := tk } :=
      I.turnedNew (t' := tk) (ch := [z, TI, TO, i1, i2, i3]) (fun c o hb q => (sb.2 c (fun q' => hb (by simp [q']))).trans (hk c o (fun q' => hb (by simp [q'])) (fun q' => hb (by simp [q'])) (fun q' => hb (by simp [q'])) (fun q' => hb (by simp [q'])) (fun q' => hb (by simp [q'])) q)) hf (Nat.le_refl _) new
    refine ⟨.ref s.heap.objs.size, _, I1, rfl, ⟨_, x, y, u, rfl, I.hok.fresh (Nat.le_refl _), rfl, fun l hl => by rw [I.tuple_inj hl hqx]; exact hx, fun l hl => by rw [I.tuple_inj hl hqy]; exact hy, fun l hl => by rw [I.tuple_inj hl hqz]; exact hu⟩, ⟨z'', ?_, ⟨v1, v2, v3, ?_⟩, ?_, ?_, ?_⟩, fun c hcm => ?_⟩
    · exact (sb.2 _ D.TIz).trans (hk _ _ D.TIz D.TITO D.TIi1 D.TIi2 D.TIi3 hTI)
    · exact (sb.2 _ D.TOz).trans TO'
    · exact st1.1.at fun o q => (sb.2 _ (zf_ne D.zf1).symm).trans q
    · exact st2.1.at fun o q => (sb.2 _ (zf_ne D.zf2).symm).trans q
    · exact st3.1.at fun o q => (sb.2 _ (zf_ne D.zf3).symm).trans q
    · have hlt : c < s.heap.objs.size := by
        have e' : c = z ∨ c = TI ∨ c = TO ∨ c = i1 ∨ c = i2 ∨ c = i3 := by simpa using hcm
        rcases e' with q | q | q | q | q | q
        · rw [q]; exact hzl
        · rw [q]; exact Heap.lt_size hTI
        · rw [q]; exact Heap.lt_size hTO
        · rw [q]; obtain ⟨_, e1, _⟩ := h1; exact Heap.lt_size e1
        · rw [q]; obtain ⟨_, e2, _⟩ := h2; exact Heap.lt_size e2
        · rw [q]; obtain ⟨_, e3, _⟩ := h3; exact Heap.lt_size e3
      rw [upd_ne (Nat.ne_of_lt hlt)]
      exact (hf c hcm).1
  done := by
    intro X hP hw hK hc i pins s σ H E I hf st hg
    subst hP hw hK
    obtain ⟨hz, hTI, ⟨x0, y0, u0, hTO⟩, h1, h2, h3⟩ := st
    obtain ⟨xs, ys, zs, hqx, hqy, hqz, l1, l2, l3⟩ := hg
    obtain ⟨its, rv, p, _⟩ := I.tuple hqx
    obtain ⟨its2, rv2, p2, _⟩ := I.tuple hqy
    obtain ⟨its3, rv3, p3, _⟩ := I.tuple hqz
    have hh : X.A.in1.handled = none := I.ok.hd hc
    have m1 := rv.length
    have m2 := rv2.length
    have m3 := rv3.length
    have k1 : i = its.toArray.size := by rw [List.size_toArray]; omega
    have k2 : i = its2.toArray.size := by rw [List.size_toArray]; omega
    have k3 : i = its3.toArray.size := by rw [List.size_toArray]; omega
    exact wpAny_pyNext_zipD3_end D (Draws.tuple hh i1 a n1 its.toArray) (Draws.tuple hh i2 b n2 its2.toArray) (Draws.tuple hh i3 c n3 its3.toArray) hz hTI hTO ⟨h1, p⟩ ⟨h2, p2⟩ ⟨h3, p3⟩ (Nat.le_of_eq k1) (Nat.le_of_eq k2) (Nat.le_of_eq k3) (.inl k1) fun h' tk hk => ⟨rfl, I.turnedL (t' := tk) (ch := [z, TI, TO, i1, i2, i3]) (fun c o hb q =>
      hk c o (fun q' => hb (by simp [q'])) (fun q' => hb (by simp [q'])) (fun q' => hb (by simp [q'])) (fun q' => hb (by simp [q'])) (fun q' => hb (by simp [q'])) q) hf⟩
  self := fun A i s Q E st h => wpAny_pyIter_zip st.1 h
def iZip3 (K : PySem.W.Frag) (ta : TA) : TI := fun σ H R => ta σ H fun vs H1 => ∃ a b c xs ys zs, vs = [.ref a, .ref b, .ref c] ∧ SqT K H1 a xs ∧ SqT K H1 b ys ∧ SqT K H1 c zs ∧ R (ItzT3 K a b c) H1
theorem pi_zip3 {X : Cx} {e e2 e3 : Expr} {ta : TA} {p pos tpos : Pos} {elts : List Expr} {kk : Nat} (hg : Gl X "zip") (hm : X.mg "zip" = none) (ha : PA X [e, e2, e3] ta)
    (hs : starEach [e, e2, e3] X.env = (false, eval e X.env) :: starEach [e2, e3] X.env := by rfl) (hpl : (backTo pos (starEach [e2, e3] X.env)).any (·.1) = false := by rfl) :
    PI X (.Tuple elts kk tpos) (.Call (.Name "zip" p) [e, e2, e3] [] pos) (iZip3 X.K ta) := by
  refine ⟨fun pins s σ H R I h => ?_⟩
  refine Call_ (ld_blt I hg hm PyProof.Rows.boot_zip (PyProof.Rows.callWith_type1 (thn (ha.run pos pins s σ H _ I h) fun us s1 ⟨vs, H1, I1, r1, q1⟩ => ?_) hs hpl))
  obtain ⟨a, b, c, xs, ys, zs, ex, hqx, hqy, hqz, q⟩ := q1
  subst ex
  cases r1 with
  | cons r rr =>
    cases rr with
    | cons r' rr =>
      cases rr with
      | cons r'' rr =>
        cases rr
        cases r
        cases r'
        cases r''
        have fresh6 : ∀ c, c ∈ [s1.heap.objs.size + 5, s1.heap.objs.size + 3, s1.heap.objs.size + 4, s1.heap.objs.size, s1.heap.objs.size + 1, s1.heap.objs.size + 2] → FpOk X pins H1 c := fun c hcm => by
          have e' : c = s1.heap.objs.size + 5 ∨ c = s1.heap.objs.size + 3 ∨ c = s1.heap.objs.size + 4 ∨ c = s1.heap.objs.size ∨ c = s1.heap.objs.size + 1 ∨ c = s1.heap.objs.size + 2 := by simpa using hcm
          have hle : s1.heap.objs.size ≤ c := by
            rcases e' with z | z | z | z | z | z
            · rw [z]; exact Nat.le_add_right _ _
            · rw [z]; exact Nat.le_add_right _ _
            · rw [z]; exact Nat.le_add_right _ _
            · rw [z]; exact Nat.le_refl _
            · rw [z]; exact Nat.le_add_right _ _
            · rw [z]; exact Nat.le_add_right _ _
          exact I1.fpOk hle (I1.hok.fresh hle)
        obtain ⟨its, rv, p1, _⟩ := I1.tuple hqx
        obtain ⟨its2, rv2, p2, _⟩ := I1.tuple hqy
        obtain ⟨its3, rv3, p3, _⟩ := I1.tuple hqz
        obtain ⟨o1, ho1, _⟩ := id p1
        obtain ⟨o2, ho2, _⟩ := id p2
        obtain ⟨o3, ho3, _⟩ := id p3
        have la := Heap.lt_size ho1
        have lb := Heap.lt_size ho2
        have lc := Heap.lt_size ho3
        refine zip_begins3 (begins_tuple a its.toArray) (begins_tuple b its2.toArray) (begins_tuple c its3.toArray) p1 p2 p3 fun h' hz hTI hTO h1 h2 h3 hsz hk => wpAny_pyIter_zip hz ?_
        have I2 : Inv X pins σ H1 { s1 with heap := h' } := I1.kept (t' := s1.toks) hk
        have one : ∀ {d : Addr}, d < s1.heap.objs.size → ∀ b ∈ [d], b < s1.heap.objs.size := fun {d} hd b hb => by rw [List.mem_singleton.mp hb]; exact hd
        exact ⟨s1.heap.objs.size + 5, [s1.heap.objs.size + 5, s1.heap.objs.size + 3, s1.heap.objs.size + 4, s1.heap.objs.size, s1.heap.objs.size + 1, s1.heap.objs.size + 2], _, _, H1, rfl, I2, turn_zip3T (zip_sep3 (one la) (one lb) (one lc)) (Nat.ne_of_lt la) (Nat.ne_of_lt (Nat.lt_succ_of_lt lb)) (Nat.ne_of_lt (Nat.lt_succ_of_lt (Nat.lt_succ_of_lt lc))),
          ⟨hz, hTI, ⟨_, _, _, hTO⟩, ⟨_, h1, rfl, rfl⟩, ⟨_, h2, rfl, rfl⟩, ⟨_, h3, rfl, rfl⟩⟩, fresh6, q⟩
section
variable {X : Cx} {e1 e2 e3 : Expr} {σ : St} {H : Hp} {p pos tpos : Pos} {elts : List Expr} {kk : Nat} {a b c : Addr} {xs ys zs : List V} {n : Nat}
theorem xi_zip3 (hm : X.mg "zip" = none) (h1 : XV X e1 σ H (.ref a)) (h2 : XV X e2 σ H (.ref b)) (h3 : XV X e3 σ H (.ref c)) (hx : SqT X.K H a xs) (hy : SqT X.K H b ys) (hz : SqT X.K H c zs) (lx : xs.length = n) (ly : ys.length = n) (lz : zs.length = n) (hg : Gl X "zip" := by rfl)
    (hs : starEach [e1, e2, e3] X.env = (false, eval e1 X.env) :: starEach [e2, e3] X.env := by rfl) (hs2 : starEach [e2, e3] X.env = (false, eval e2 X.env) :: starEach [e3] X.env := by rfl) (hs3 : starEach [e3] X.env = (false, eval e3 X.env) :: starEach [] X.env := by rfl) (hpl : (backTo pos (starEach [e2, e3] X.env)).any (·.1) = false := by rfl) :
    XI X (.Tuple elts kk tpos) (.Call (.Name "zip" p) [e1, e2, e3] [] pos) σ H n (YZ3 xs ys zs) :=
  XI.of (pi_zip3 hg hm (pa_cons pe_s (pa_cons pe_s (pa_cons pe_s pa_nil hs3) hs2) hs) hs hpl) fun H1 s1 R k => h1.s s1 fun v H2 s2 q => h2.s (s1.trans s2) fun w H3 s3 q' => h3.s ((s1.trans s2).trans s3) fun u H4 s4 q'' => by
    cases q; cases q'; cases q''
    have s0 := ((s1.trans s2).trans s3).trans s4
    refine ⟨a, b, c, xs, ys, zs, rfl, st_mono s0 hx, st_mono s0 hy, st_mono s0 hz, k _ H4 ((s2.trans s3).trans s4) ⟨fun i H' hi q => ?_, fun H' q => ?_, fun i H' x H'' hi q y => ?_⟩⟩
    · have s := s0.trans q
      exact ⟨xs, ys, zs, xs[i], ys[i], zs[i], st_mono s hx, st_mono s hy, st_mono s hz, by simp [lx, hi], by simp [ly, hi], by simp [lz, hi]⟩
    · have s := s0.trans q
      exact ⟨xs, ys, zs, st_mono s hx, st_mono s hy, st_mono s hz, lx, ly, lz⟩
    · have s := s0.trans q
      obtain ⟨T, u, v, w, h1, h2, h3, h4, h5, h6⟩ := y
      exact ⟨T, u, v, w, h1, h2, h3, h4 xs (st_mono s hx), h5 ys (st_mono s hy), h6 zs (st_mono s hz)⟩
end
/-! ### comprehensions over triples -/
abbrev gT3 (K : PySem.W.Frag) (i j k : Nat) : TG := gTup K 3 (gCons (gName i) (gCons (gName j) (gCons (gName k) gNil)))
theorem gmon_T3 {K : PySem.W.Frag} {i j k : Nat} : GMon (gT3 K i j k) := gmon_tup (gmon_cons gmon_name (gmon_cons gmon_name (gmon_cons gmon_name gmon_nil)))
theorem gT3_ok {K : PySem.W.Frag} {i j k : Nat} {a : Addr} {u v w : V} {σ : St} {H : Hp} {Q : St → Hp → Prop} (hq : SqT K H a [u, v, w]) (h : Q (((σ.set i (some u)).set j (some v)).set k (some w)) H) : gT3 K i j k (.ref a) σ H Q :=
  ⟨a, [u, v, w], rfl, hq, rfl, u, [v, w], rfl, v, [w], rfl, w, [], rfl, rfl, h⟩
section
variable {X : Cx} {elt iter : Expr} {ifs : List Expr} {scope : Scope} {own : List (Str × Nat)} {pos tpos : Pos} {tgs : List Expr} {kk : Nat} {σ : St} {H : Hp} {n : Nat} {xs ys zs : List V} {ff : Nat → VP} {ja jb jc : Nat}
theorem xl_lcZ3 (hm : ∀ i, Mon (ff i)) (hi : XI X (.Tuple tgs kk tpos) iter σ H n (YZ3 xs ys zs)) (hn : n ≤ 500000) (hN : X.N.Nodup) (ok : BlkOk X.N X.env.scope scope own)
    (hg : ∀ s0 H0 C cl fp, PG (bk X scope s0 H0 C cl fp) (.Tuple tgs kk tpos) (gT3 X.K ja jb jc))
    (ht : ∀ i u v w G', i < n → Same H G' → xs[i]? = some u → ys[i]? = some v → zs[i]? = some w → XEB X scope elt ((((wipe σ (own.map (·.2))).set ja (some u)).set jb (some v)).set jc (some w)) G' (ff i))
    (hw : ∀ x y z, wipe ((((wipe σ (own.map (·.2))).set ja (some x)).set jb (some y)).set jc (some z)) (own.map (·.2)) = wipe σ (own.map (·.2)) := by intro _ _ _; rfl) (hc : X.calm = true := by rfl) (hs : ∀ x, foldedSetIterable iter X.env x = pure x := by intro _; rfl) :
    XL X (.ListComp elt [⟨.Tuple tgs kk tpos, iter, [], 0⟩] scope pos) σ H (LstR (keptN n (fun _ => true) ff)) := by
  refine xl_lc hm hi hn hN ok hg (fun G2 i x G' H'' D ls e1 hlt e2 hD y => ?_) gmon_T3 hc hs
  obtain ⟨T, u, v, w, rfl, hT, rfl, h1, h2, h3⟩ := y
  have hTD : T ≠ D := fun e => by
    subst e
    have : Upds G' [(T, .lst ls)] T = some (.lst ls) := upd_same
    rw [this] at hT; cases hT
  have hG' : G' T = none := by
    have : Upds G' [(D, .lst ls)] T = G' T := upd_ne hTD
    rw [← this]; exact hT
  have eH : upd (Upds G' [(D, .lst ls)]) T (.tup [u, v, w]) = Upds (upd G' T (.tup [u, v, w])) [(D, .lst ls)] := by
    show upd (upd G' D (.lst ls)) T _ = upd (upd G' T _) D _
    funext b
    by_cases h1 : b = T
    · subst h1; rw [upd_same, upd_ne hTD, upd_same]
    · by_cases h2 : b = D
      · subst h2; rw [upd_ne h1, upd_same, upd_same]
      · rw [upd_ne h1, upd_ne h2, upd_ne h2, upd_ne h1]
  have s3 : Same G' (upd G' T (.tup [u, v, w])) := newS hG'
  exact gT3_ok (SqT.of upd_same) ⟨upd G' T (.tup [u, v, w]), eH, by rw [upd_ne hTD.symm]; exact hD, s3, hw u v w, rfl, fun _ => ht i u v w _ hlt ((e1.trans e2).trans s3) h1 h2 h3⟩
theorem xl_lcZ2 (hm : ∀ i, Mon (ff i)) (hi : XI X (.Tuple tgs kk tpos) iter σ H n (YZ2 xs ys)) (hn : n ≤ 500000) (hN : X.N.Nodup) (ok : BlkOk X.N X.env.scope scope own)
    (hg : ∀ s0 H0 C cl fp, PG (bk X scope s0 H0 C cl fp) (.Tuple tgs kk tpos) (g2 X.K ja jb))
    (ht : ∀ i u v G', i < n → Same H G' → xs[i]? = some u → ys[i]? = some v → XEB X scope elt (((wipe σ (own.map (·.2))).set ja (some u)).set jb (some v)) G' (ff i))
    (hw : ∀ x y, wipe (((wipe σ (own.map (·.2))).set ja (some x)).set jb (some y)) (own.map (·.2)) = wipe σ (own.map (·.2)) := by intro _ _; rfl) (hc : X.calm = true := by rfl) (hs : ∀ x, foldedSetIterable iter X.env x = pure x := by intro _; rfl) :
    XL X (.ListComp elt [⟨.Tuple tgs kk tpos, iter, [], 0⟩] scope pos) σ H (LstR (keptN n (fun _ => true) ff)) :=
  xl_lcP (pp := fun _ => true) hm hi yp_zip2 hn hN ok hg (fun i u v x G2 G' hlt s1 s2 ⟨h1, h2⟩ => ⟨rfl, fun _ => ht i u v G' hlt (s1.trans s2) h1 h2⟩) hw hc hs
end
/-! ### l.extend(r), r a new list -/
theorem xs_extend {X : Cx} {e o : Expr} {σ : St} {H : Hp} {rest : List Stmt} {D : Ends} {pos apos cpos : Pos} {l : Addr} {ys : List V} {Rs : List VP} (ho : XV X o σ H (.ref l)) (he : XE X e σ H (LstR Rs)) (hl : H l = some (.lst ys)) (hz : ys.length + Rs.length ≤ 1000000)
    (k : ∀ xs H1, Same H H1 → AllR Rs xs H1 → XSs X rest D σ (upd H1 l (.lst (ys ++ xs))))
    (hbase : attributeBase o "extend" X.env (eval o X.env) = eval o X.env := by rfl)
    (hfew : ((backTo cpos (starEach [e] X.env)).all (fun x => !x.1) && (backToKw cpos (keywordEach [] X.env)).all (fun x => x.1.isSome)
      && decide ([e].length + ([] : List Keyword).length + (if ([] : List Keyword).isEmpty then 0 else 1) < 30)) = true := by rfl)
    (hline : (apos.endLine == cpos.line) = true := by rfl) (hs1 : starEach [e] X.env = (false, eval e X.env) :: starEach [] X.env := by rfl) (hplain : (backTo cpos (starEach [] X.env)).any (·.1) = false := by rfl)
    (hs : swapsWith (.Call (.Attribute o "extend" apos) [e] [] cpos) none pos.line X.env = pure false := by rfl) :
    XSs X (.Expr (.Call (.Attribute o "extend" apos) [e] [] cpos) pos :: rest) D σ H :=
  xs_stepX (ps_expr (pe_bm PySem.F.plainAttrs_list PySem.F.slot_list_extend PySem.F.type_list_extend mt_extend pe_s (pa_cons pe_s pa_nil hs1) hbase hfew hline hs1 hplain) hs) fun H1 e1 => ho.s e1 fun v H2 e2 q => by
    cases q
    refine ⟨Or.inl ⟨rfl, _, SqL.of ((e1.trans e2) _ _ hl)⟩, he.s (e1.trans e2) fun v H3 e3 ⟨a, xs, ev, ha, r⟩ => ?_⟩
    subst ev
    exact ⟨l, a, ys, xs, rfl, rfl, ((e1.trans e2).trans e3) _ _ hl, ha, by rw [r.length]; exact sz_of hz, k xs H3 ((e1.trans e2).trans e3) r⟩
end LM

set_option maxHeartbeats 4000000
namespace LM
open PySem PySem.Spec PyProof.Rows L2
def top (i : Nat) : Stmt := PySem.Challenge.pw_ledmarks_k55_whole_rows_that_mean_nothin.main.body.getD i (.Pass ⟨0, 0, 0, 0⟩)
abbrev s_Single_init : Stmt := inClass (top 10) 0
abbrev n_Single_init : List Str := ["self", "tool"]
theorem sc_Single_init : FnScope n_Single_init ["self", "tool"] (defScope s_Single_init) := ⟨rfl, rfl, rfl, by decide +kernel, rfl, by decide +kernel, by decide +kernel⟩
abbrev s_Single_machine_steps : Stmt := inClass (top 10) 1
abbrev n_Single_machine_steps : List Str := ["self", "item", "found", "pattern"]
theorem sc_Single_machine_steps : FnScope n_Single_machine_steps ["self", "item"] (defScope s_Single_machine_steps) := ⟨rfl, rfl, rfl, by decide +kernel, rfl, by decide +kernel, by decide +kernel⟩
abbrev s_Single_led : Stmt := inClass (top 10) 2
abbrev n_Single_led : List Str := ["self", "item", "pattern"]
theorem sc_Single_led : FnScope n_Single_led ["self", "item", "pattern"] (defScope s_Single_led) := ⟨rfl, rfl, rfl, by decide +kernel, rfl, by decide +kernel, by decide +kernel⟩
abbrev s_Single_joined : Stmt := inClass (top 10) 3
abbrev n_Single_joined : List Str := ["self", "here", "came"]
theorem sc_Single_joined : FnScope n_Single_joined ["self", "here", "came"] (defScope s_Single_joined) := ⟨rfl, rfl, rfl, by decide +kernel, rfl, by decide +kernel, by decide +kernel⟩
abbrev s_Pair_init : Stmt := inClass (top 11) 0
abbrev n_Pair_init : List Str := ["self", "p", "q"]
theorem sc_Pair_init : FnScope n_Pair_init ["self", "p", "q"] (defScope s_Pair_init) := ⟨rfl, rfl, rfl, by decide +kernel, rfl, by decide +kernel, by decide +kernel⟩
abbrev s_Pair_machine_steps : Stmt := inClass (top 11) 1
abbrev n_Pair_machine_steps : List Str := ["self", "item", "found", "kept", "tool", "mark", "pattern"]
theorem sc_Pair_machine_steps : FnScope n_Pair_machine_steps ["self", "item"] (defScope s_Pair_machine_steps) := ⟨rfl, rfl, rfl, by decide +kernel, rfl, by decide +kernel, by decide +kernel⟩
abbrev s_Pair_led : Stmt := inClass (top 11) 2
abbrev n_Pair_led : List Str := ["self", "item", "pattern", "tool", "mark"]
theorem sc_Pair_led : FnScope n_Pair_led ["self", "item", "pattern"] (defScope s_Pair_led) := ⟨rfl, rfl, rfl, by decide +kernel, rfl, by decide +kernel, by decide +kernel⟩
abbrev s_Pair_joined : Stmt := inClass (top 11) 3
abbrev n_Pair_joined : List Str := ["self", "here", "came", "tool", "one", "two"]
theorem sc_Pair_joined : FnScope n_Pair_joined ["self", "here", "came"] (defScope s_Pair_joined) := ⟨rfl, rfl, rfl, by decide +kernel, rfl, by decide +kernel, by decide +kernel⟩
abbrev s_machine_elders : Stmt := top 12
abbrev n_machine_elders : List Str := ["steps", "elders", "pending", "item", "deed", "later"]
theorem sc_machine_elders : FnScope n_machine_elders ["steps"] (defScope s_machine_elders) := ⟨rfl, rfl, rfl, by decide +kernel, rfl, by decide +kernel, by decide +kernel⟩
abbrev s_Ways_init : Stmt := inClass (top 13) 0
abbrev n_Ways_init : List Str := ["self", "steps", "item", "pattern", "layer", "many"]
theorem sc_Ways_init : FnScope n_Ways_init ["self", "steps"] (defScope s_Ways_init) := ⟨rfl, rfl, rfl, by decide +kernel, rfl, by decide +kernel, by decide +kernel⟩
abbrev s_Ways_edited : Stmt := inClass (top 13) 1
abbrev n_Ways_edited : List Str := ["self", "layer", "many", "found", "pending", "item", "pattern", "later"]
theorem sc_Ways_edited : FnScope n_Ways_edited ["self", "layer", "many"] (defScope s_Ways_edited) := ⟨rfl, rfl, rfl, by decide +kernel, rfl, by decide +kernel, by decide +kernel⟩
abbrev s_Ways_heard : Stmt := inClass (top 13) 2
abbrev n_Ways_heard : List Str := ["self", "layer", "found", "item", "came", "sent", "pattern", "later"]
theorem sc_Ways_heard : FnScope n_Ways_heard ["self", "layer"] (defScope s_Ways_heard) := ⟨rfl, rfl, rfl, by decide +kernel, rfl, by decide +kernel, by decide +kernel⟩
abbrev s_Meeting_init : Stmt := inClass (top 15) 0
abbrev n_Meeting_init : List Str := ["self", "hearings", "item", "deeds", "waiting"]
theorem sc_Meeting_init : FnScope n_Meeting_init ["self", "hearings", "item", "deeds", "waiting"] (defScope s_Meeting_init) := ⟨rfl, rfl, rfl, by decide +kernel, rfl, by decide +kernel, by decide +kernel⟩
abbrev s_falls : Stmt := top 16
abbrev n_falls : List Str := ["tool", "ways", "item", "pattern", "came", "sent"]
theorem sc_falls : FnScope n_falls ["tool", "ways", "item"] (defScope s_falls) := ⟨rfl, rfl, rfl, by decide +kernel, rfl, by decide +kernel, by decide +kernel⟩
abbrev s_disordering : Stmt := top 17
abbrev n_disordering : List Str := ["tool", "ways", "item", "one", "how", "two", "other", "first"]
theorem sc_disordering : FnScope n_disordering ["tool", "ways", "item"] (defScope s_disordering) := ⟨rfl, rfl, rfl, by decide +kernel, rfl, by decide +kernel, by decide +kernel⟩
abbrev s_doubling : Stmt := top 18
abbrev n_doubling : List Str := ["tool", "ways", "item", "came", "how", "once"]
theorem sc_doubling : FnScope n_doubling ["tool", "ways", "item"] (defScope s_doubling) := ⟨rfl, rfl, rfl, by decide +kernel, rfl, by decide +kernel, by decide +kernel⟩
abbrev s_met_at : Stmt := top 19
abbrev n_met_at : List Str := ["tool", "ways", "item", "fault", "many", "is_told", "deed", "waiting"]
theorem sc_met_at : FnScope n_met_at ["tool", "ways", "item", "fault"] (defScope s_met_at) := ⟨rfl, rfl, rfl, by decide +kernel, rfl, by decide +kernel, by decide +kernel⟩
abbrev s_least_meeting : Stmt := top 20
abbrev n_least_meeting : List Str := ["tool", "ways", "fault", "least", "item", "found"]
theorem sc_least_meeting : FnScope n_least_meeting ["tool", "ways", "fault"] (defScope s_least_meeting) := ⟨rfl, rfl, rfl, by decide +kernel, rfl, by decide +kernel, by decide +kernel⟩
abbrev s_is_name : Stmt := top 27
abbrev n_is_name : List Str := ["value", "sign"]
theorem sc_is_name : FnScope n_is_name ["value"] (defScope s_is_name) := ⟨rfl, rfl, rfl, by decide +kernel, rfl, by decide +kernel, by decide +kernel⟩
abbrev s_is_sequence : Stmt := top 28
abbrev n_is_sequence : List Str := ["value"]
theorem sc_is_sequence : FnScope n_is_sequence ["value"] (defScope s_is_sequence) := ⟨rfl, rfl, rfl, by decide +kernel, rfl, by decide +kernel, by decide +kernel⟩
abbrev s_is_word : Stmt := top 29
abbrev n_is_word : List Str := ["value", "some"]
theorem sc_is_word : FnScope n_is_word ["value", "some"] (defScope s_is_word) := ⟨rfl, rfl, rfl, by decide +kernel, rfl, by decide +kernel, by decide +kernel⟩
abbrev s_are_unlike : Stmt := top 30
abbrev n_are_unlike : List Str := ["words", "word"]
theorem sc_are_unlike : FnScope n_are_unlike ["words"] (defScope s_are_unlike) := ⟨rfl, rfl, rfl, by decide +kernel, rfl, by decide +kernel, by decide +kernel⟩
abbrev s_need_fault : Stmt := top 32
abbrev n_need_fault : List Str := ["fault"]
theorem sc_need_fault : FnScope n_need_fault ["fault"] (defScope s_need_fault) := ⟨rfl, rfl, rfl, by decide +kernel, rfl, by decide +kernel, by decide +kernel⟩
abbrev s_faults : Stmt := top 33
abbrev n_faults : List Str := ["tool", "ways", "fault"]
theorem sc_faults : FnScope n_faults ["tool"] (defScope s_faults) := ⟨rfl, rfl, rfl, by decide +kernel, rfl, by decide +kernel, by decide +kernel⟩
abbrev s_fewest : Stmt := top 34
abbrev n_fewest : List Str := ["tool", "fault", "found"]
theorem sc_fewest : FnScope n_fewest ["tool", "fault"] (defScope s_fewest) := ⟨rfl, rfl, rfl, by decide +kernel, rfl, by decide +kernel, by decide +kernel⟩
abbrev s_lists : Stmt := top 35
abbrev n_lists : List Str := ["tool", "ways"]
theorem sc_lists : FnScope n_lists ["tool"] (defScope s_lists) := ⟨rfl, rfl, rfl, by decide +kernel, rfl, by decide +kernel, by decide +kernel⟩
abbrev s_is_old_mark : Stmt := top 39
abbrev n_is_old_mark : List Str := ["value"]
theorem sc_is_old_mark : FnScope n_is_old_mark ["value"] (defScope s_is_old_mark) := ⟨rfl, rfl, rfl, by decide +kernel, rfl, by decide +kernel, by decide +kernel⟩
abbrev s_part_of : Stmt := top 40
abbrev n_part_of : List Str := ["test"]
theorem sc_part_of : FnScope n_part_of ["test"] (defScope s_part_of) := ⟨rfl, rfl, rfl, by decide +kernel, rfl, by decide +kernel, by decide +kernel⟩
abbrev s_are_tests : Stmt := top 41
abbrev n_are_tests : List Str := ["value", "test"]
theorem sc_are_tests : FnScope n_are_tests ["value"] (defScope s_are_tests) := ⟨rfl, rfl, rfl, by decide +kernel, rfl, by decide +kernel, by decide +kernel⟩
abbrev s_names_among : Stmt := top 42
abbrev n_names_among : List Str := ["words", "word"]
theorem sc_names_among : FnScope n_names_among ["words"] (defScope s_names_among) := ⟨rfl, rfl, rfl, by decide +kernel, rfl, by decide +kernel, by decide +kernel⟩
abbrev s_Row_read : Stmt := inClass (top 43) 0
abbrev n_Row_read : List Str := ["cls", "text", "found", "e"]
theorem sc_Row_read : FnScope n_Row_read ["cls", "text"] (defScope s_Row_read) := ⟨rfl, rfl, rfl, by decide +kernel, rfl, by decide +kernel, by decide +kernel⟩
abbrev s_Run_init : Stmt := inClass (top 44) 0
abbrev n_Run_init : List Str := ["self", "old", "then"]
theorem sc_Run_init : FnScope n_Run_init ["self", "old", "then"] (defScope s_Run_init) := ⟨rfl, rfl, rfl, by decide +kernel, rfl, by decide +kernel, by decide +kernel⟩
abbrev s_Run_str : Stmt := inClass (top 44) 1
abbrev n_Run_str : List Str := ["self"]
theorem sc_Run_str : FnScope n_Run_str ["self"] (defScope s_Run_str) := ⟨rfl, rfl, rfl, by decide +kernel, rfl, by decide +kernel, by decide +kernel⟩
abbrev s_Lead_init : Stmt := inClass (top 45) 0
abbrev n_Lead_init : List Str := ["self", "tests", "old", "then"]
theorem sc_Lead_init : FnScope n_Lead_init ["self", "tests", "old", "then"] (defScope s_Lead_init) := ⟨rfl, rfl, rfl, by decide +kernel, rfl, by decide +kernel, by decide +kernel⟩
abbrev s_Lead_str : Stmt := inClass (top 45) 1
abbrev n_Lead_str : List Str := ["self", "asked"]
theorem sc_Lead_str : FnScope n_Lead_str ["self"] (defScope s_Lead_str) := ⟨rfl, rfl, rfl, by decide +kernel, rfl, by decide +kernel, by decide +kernel⟩
abbrev s_Join_init : Stmt := inClass (top 46) 0
abbrev n_Join_init : List Str := ["self", "here", "came", "then"]
theorem sc_Join_init : FnScope n_Join_init ["self", "here", "came", "then"] (defScope s_Join_init) := ⟨rfl, rfl, rfl, by decide +kernel, rfl, by decide +kernel, by decide +kernel⟩
abbrev s_Join_str : Stmt := inClass (top 46) 1
abbrev n_Join_str : List Str := ["self"]
theorem sc_Join_str : FnScope n_Join_str ["self"] (defScope s_Join_str) := ⟨rfl, rfl, rfl, by decide +kernel, rfl, by decide +kernel, by decide +kernel⟩
abbrev s_row_in : Stmt := top 47
abbrev n_row_in : List Str := ["words", "asked"]
theorem sc_row_in : FnScope n_row_in ["words"] (defScope s_row_in) := ⟨rfl, rfl, rfl, by decide +kernel, rfl, by decide +kernel, by decide +kernel⟩
abbrev s_are_names : Stmt := top 50
abbrev n_are_names : List Str := ["value", "one"]
theorem sc_are_names : FnScope n_are_names ["value"] (defScope s_are_names) := ⟨rfl, rfl, rfl, by decide +kernel, rfl, by decide +kernel, by decide +kernel⟩
abbrev s_are_parts : Stmt := top 51
abbrev n_are_parts : List Str := ["value", "part"]
theorem sc_are_parts : FnScope n_are_parts ["value"] (defScope s_are_parts) := ⟨rfl, rfl, rfl, by decide +kernel, rfl, by decide +kernel, by decide +kernel⟩
abbrev s_fault_of : Stmt := top 52
abbrev n_fault_of : List Str := ["marks", "told", "parts", "clears", "rows", "row", "name", "mark"]
theorem sc_fault_of : FnScope n_fault_of ["marks", "told", "parts", "clears", "rows"] (defScope s_fault_of) := ⟨rfl, rfl, rfl, by decide +kernel, rfl, by decide +kernel, by decide +kernel⟩
abbrev s_holds : Stmt := top 53
abbrev n_holds : List Str := ["test", "same"]
theorem sc_holds : FnScope n_holds ["test", "same"] (defScope s_holds) := ⟨rfl, rfl, rfl, by decide +kernel, rfl, by decide +kernel, by decide +kernel⟩
abbrev s_heeding_row : Stmt := top 54
abbrev n_heeding_row : List Str := ["row", "parts", "test"]
theorem sc_heeding_row : FnScope n_heeding_row ["row", "parts"] (defScope s_heeding_row) := ⟨rfl, rfl, rfl, by decide +kernel, rfl, by decide +kernel, by decide +kernel⟩
abbrev s_words_behind : Stmt := top 55
abbrev n_words_behind : List Str := ["line", "word", "words"]
theorem sc_words_behind : FnScope n_words_behind ["line", "word"] (defScope s_words_behind) := ⟨rfl, rfl, rfl, by decide +kernel, rfl, by decide +kernel, by decide +kernel⟩
abbrev s_Tool_init : Stmt := inClass (top 56) 0
abbrev n_Tool_init : List Str := ["self", "marks", "told", "parts", "clears", "rows", "fault", "mark", "part"]
theorem sc_Tool_init : FnScope n_Tool_init ["self", "marks", "told", "parts", "clears", "rows"] (defScope s_Tool_init) := ⟨rfl, rfl, rfl, by decide +kernel, rfl, by decide +kernel, by decide +kernel⟩
abbrev s_Tool_read : Stmt := inClass (top 56) 1
abbrev n_Tool_read : List Str := ["cls", "text", "lines", "at", "marks", "told", "parts", "line"]
theorem sc_Tool_read : FnScope n_Tool_read ["cls", "text"] (defScope s_Tool_read) := ⟨rfl, rfl, rfl, by decide +kernel, rfl, by decide +kernel, by decide +kernel⟩
abbrev s_Tool_need_mark : Stmt := inClass (top 56) 2
abbrev n_Tool_need_mark : List Str := ["self", "mark"]
theorem sc_Tool_need_mark : FnScope n_Tool_need_mark ["self", "mark"] (defScope s_Tool_need_mark) := ⟨rfl, rfl, rfl, by decide +kernel, rfl, by decide +kernel, by decide +kernel⟩
abbrev s_Tool_is_told : Stmt := inClass (top 56) 3
abbrev n_Tool_is_told : List Str := ["self", "mark"]
theorem sc_Tool_is_told : FnScope n_Tool_is_told ["self", "mark"] (defScope s_Tool_is_told) := ⟨rfl, rfl, rfl, by decide +kernel, rfl, by decide +kernel, by decide +kernel⟩
abbrev s_Tool_ran : Stmt := inClass (top 56) 4
abbrev n_Tool_ran : List Str := ["self", "mark", "row"]
theorem sc_Tool_ran : FnScope n_Tool_ran ["self", "mark"] (defScope s_Tool_ran) := ⟨rfl, rfl, rfl, by decide +kernel, rfl, by decide +kernel, by decide +kernel⟩
abbrev s_Tool_led : Stmt := inClass (top 56) 5
abbrev n_Tool_led : List Str := ["self", "mark", "same", "row", "test"]
theorem sc_Tool_led : FnScope n_Tool_led ["self", "mark", "same"] (defScope s_Tool_led) := ⟨rfl, rfl, rfl, by decide +kernel, rfl, by decide +kernel, by decide +kernel⟩
abbrev s_Tool_joined : Stmt := inClass (top 56) 6
abbrev n_Tool_joined : List Str := ["self", "here", "came", "row"]
theorem sc_Tool_joined : FnScope n_Tool_joined ["self", "here", "came"] (defScope s_Tool_joined) := ⟨rfl, rfl, rfl, by decide +kernel, rfl, by decide +kernel, by decide +kernel⟩
abbrev s_Tool_keeps : Stmt := inClass (top 56) 7
abbrev n_Tool_keeps : List Str := ["self", "same", "part"]
theorem sc_Tool_keeps : FnScope n_Tool_keeps ["self", "same"] (defScope s_Tool_keeps) := ⟨rfl, rfl, rfl, by decide +kernel, rfl, by decide +kernel, by decide +kernel⟩
abbrev s_Tool_need_row : Stmt := inClass (top 56) 8
abbrev n_Tool_need_row : List Str := ["self", "at"]
theorem sc_Tool_need_row : FnScope n_Tool_need_row ["self", "at"] (defScope s_Tool_need_row) := ⟨rfl, rfl, rfl, by decide +kernel, rfl, by decide +kernel, by decide +kernel⟩
abbrev s_Tool_but : Stmt := inClass (top 56) 9
abbrev n_Tool_but : List Str := ["self", "rows"]
theorem sc_Tool_but : FnScope n_Tool_but ["self", "rows"] (defScope s_Tool_but) := ⟨rfl, rfl, rfl, by decide +kernel, rfl, by decide +kernel, by decide +kernel⟩
abbrev s_Tool_without : Stmt := inClass (top 56) 10
abbrev n_Tool_without : List Str := ["self", "at"]
theorem sc_Tool_without : FnScope n_Tool_without ["self", "at"] (defScope s_Tool_without) := ⟨rfl, rfl, rfl, by decide +kernel, rfl, by decide +kernel, by decide +kernel⟩
abbrev s_Tool_heeding : Stmt := inClass (top 56) 11
abbrev n_Tool_heeding : List Str := ["self", "parts", "rows", "row"]
theorem sc_Tool_heeding : FnScope n_Tool_heeding ["self", "parts"] (defScope s_Tool_heeding) := ⟨rfl, rfl, rfl, by decide +kernel, rfl, by decide +kernel, by decide +kernel⟩
abbrev s_Tool_len : Stmt := inClass (top 56) 12
abbrev n_Tool_len : List Str := ["self"]
theorem sc_Tool_len : FnScope n_Tool_len ["self"] (defScope s_Tool_len) := ⟨rfl, rfl, rfl, by decide +kernel, rfl, by decide +kernel, by decide +kernel⟩
abbrev s_Tool_eq : Stmt := inClass (top 56) 15
abbrev n_Tool_eq : List Str := ["self", "other"]
theorem sc_Tool_eq : FnScope n_Tool_eq ["self", "other"] (defScope s_Tool_eq) := ⟨rfl, rfl, rfl, by decide +kernel, rfl, by decide +kernel, by decide +kernel⟩
abbrev s_Tool_str : Stmt := inClass (top 56) 16
abbrev n_Tool_str : List Str := ["self", "heads", "lines", "send", "words", "row"]
theorem sc_Tool_str : FnScope n_Tool_str ["self"] (defScope s_Tool_str) := ⟨rfl, rfl, rfl, by decide +kernel, rfl, by decide +kernel, by decide +kernel⟩
abbrev s_is_row : Stmt := top 57
abbrev n_is_row : List Str := ["line"]
theorem sc_is_row : FnScope n_is_row ["line"] (defScope s_is_row) := ⟨rfl, rfl, rfl, by decide +kernel, rfl, by decide +kernel, by decide +kernel⟩
abbrev s_is_fit : Stmt := top 58
abbrev n_is_fit : List Str := ["at", "line", "words", "word"]
theorem sc_is_fit : FnScope n_is_fit ["at", "line"] (defScope s_is_fit) := ⟨rfl, rfl, rfl, by decide +kernel, rfl, by decide +kernel, by decide +kernel⟩
abbrev s_fault_in : Stmt := top 59
abbrev n_fault_in : List Str := ["lines", "wrong", "at", "line"]
theorem sc_fault_in : FnScope n_fault_in ["lines"] (defScope s_fault_in) := ⟨rfl, rfl, rfl, by decide +kernel, rfl, by decide +kernel, by decide +kernel⟩
abbrev s_least_parting : Stmt := top 61
abbrev n_least_parting : List Str := ["p", "q", "ways", "some", "many", "item"]
theorem sc_least_parting : FnScope n_least_parting ["p", "q", "ways"] (defScope s_least_parting) := ⟨rfl, rfl, rfl, by decide +kernel, rfl, by decide +kernel, by decide +kernel⟩
abbrev s_alike : Stmt := top 62
abbrev n_alike : List Str := ["p", "q"]
theorem sc_alike : FnScope n_alike ["p", "q"] (defScope s_alike) := ⟨rfl, rfl, rfl, by decide +kernel, rfl, by decide +kernel, by decide +kernel⟩
abbrev s_need_all : Stmt := top 64
abbrev n_need_all : List Str := ["wanted", "fault"]
theorem sc_need_all : FnScope n_need_all ["wanted"] (defScope s_need_all) := ⟨rfl, rfl, rfl, by decide +kernel, rfl, by decide +kernel, by decide +kernel⟩
abbrev s_happening : Stmt := top 65
abbrev n_happening : List Str := ["tool", "wanted", "fault"]
theorem sc_happening : FnScope n_happening ["tool", "wanted"] (defScope s_happening) := ⟨rfl, rfl, rfl, by decide +kernel, rfl, by decide +kernel, by decide +kernel⟩
abbrev s_choices : Stmt := top 66
abbrev n_choices : List Str := ["many", "found", "turn", "some", "begin", "at"]
theorem sc_choices : FnScope n_choices ["many"] (defScope s_choices) := ⟨rfl, rfl, rfl, by decide +kernel, rfl, by decide +kernel, by decide +kernel⟩
abbrev s_least_parts : Stmt := top 67
abbrev n_least_parts : List Str := ["tool", "wanted", "many", "some"]
theorem sc_least_parts : FnScope n_least_parts ["tool", "wanted"] (defScope s_least_parts) := ⟨rfl, rfl, rfl, by decide +kernel, rfl, by decide +kernel, by decide +kernel⟩
abbrev s_needless : Stmt := top 68
abbrev n_needless : List Str := ["tool", "wanted", "found", "at"]
theorem sc_needless : FnScope n_needless ["tool", "wanted"] (defScope s_needless) := ⟨rfl, rfl, rfl, by decide +kernel, rfl, by decide +kernel, by decide +kernel⟩
abbrev s_law_box : Stmt := top 70
abbrev n_law_box : List Str := ["_law_script", "_law_k", "_law_great", "_law_seed"]
theorem sc_law_box : FnScope n_law_box ["_law_script", "_law_k"] (defScope s_law_box) := ⟨rfl, rfl, rfl, by decide +kernel, rfl, by decide +kernel, by decide +kernel⟩
abbrev s_law_take : Stmt := top 71
abbrev n_law_take : List Str := ["_law_box_here", "_law_many", "_law_digit", "_law_near"]
theorem sc_law_take : FnScope n_law_take ["_law_box_here", "_law_many"] (defScope s_law_take) := ⟨rfl, rfl, rfl, by decide +kernel, rfl, by decide +kernel, by decide +kernel⟩
abbrev s_law_pick : Stmt := top 72
abbrev n_law_pick : List Str := ["_law_box_here", "_law_some"]
theorem sc_law_pick : FnScope n_law_pick ["_law_box_here", "_law_some"] (defScope s_law_pick) := ⟨rfl, rfl, rfl, by decide +kernel, rfl, by decide +kernel, by decide +kernel⟩
abbrev s_law_shuffled : Stmt := top 73
abbrev n_law_shuffled : List Str := ["_law_box_here", "_law_some", "_law_rest", "_law_found", "_law_turn"]
theorem sc_law_shuffled : FnScope n_law_shuffled ["_law_box_here", "_law_some"] (defScope s_law_shuffled) := ⟨rfl, rfl, rfl, by decide +kernel, rfl, by decide +kernel, by decide +kernel⟩
abbrev s_law_words : Stmt := top 74
abbrev n_law_words : List Str := ["_law_box_here", "_law_many", "_law_some"]
theorem sc_law_words : FnScope n_law_words ["_law_box_here", "_law_many"] (defScope s_law_words) := ⟨rfl, rfl, rfl, by decide +kernel, rfl, by decide +kernel, by decide +kernel⟩
abbrev s_law_tool : Stmt := top 75
abbrev n_law_tool : List Str := ["_law_box_here", "_law_marks", "_law_told", "_law_parts", "_law_some", "_law_rows", "_law_turn", "_law_parted", "_law_tests", "_law_old", "_law_here", "_law_came", "_law_mark", "_law_part"]
theorem sc_law_tool : FnScope n_law_tool ["_law_box_here"] (defScope s_law_tool) := ⟨rfl, rfl, rfl, by decide +kernel, rfl, by decide +kernel, by decide +kernel⟩
abbrev s_law_tool_text : Stmt := top 76
abbrev n_law_tool_text : List Str := ["_law_tool_here", "_law_marks", "_law_told", "_law_parts", "_law_clears", "_law_rows", "_law_lines", "_law_row", "_law_asked"]
theorem sc_law_tool_text : FnScope n_law_tool_text ["_law_tool_here"] (defScope s_law_tool_text) := ⟨rfl, rfl, rfl, by decide +kernel, rfl, by decide +kernel, by decide +kernel⟩
abbrev s_law_words_of_faults : Stmt := top 77
abbrev n_law_words_of_faults : List Str := []
theorem sc_law_words_of_faults : FnScope n_law_words_of_faults [] (defScope s_law_words_of_faults) := ⟨rfl, rfl, rfl, by decide +kernel, rfl, by decide +kernel, by decide +kernel⟩
abbrev s_law_made : Stmt := top 78
abbrev n_law_made : List Str := ["_law_tool_here"]
theorem sc_law_made : FnScope n_law_made ["_law_tool_here"] (defScope s_law_made) := ⟨rfl, rfl, rfl, by decide +kernel, rfl, by decide +kernel, by decide +kernel⟩
abbrev s_law_wider : Stmt := top 79
abbrev n_law_wider : List Str := ["_law_box_here", "_law_tool_here", "_law_rows", "_law_at", "_law_form", "_law_row", "_law_part"]
theorem sc_law_wider : FnScope n_law_wider ["_law_box_here", "_law_tool_here"] (defScope s_law_wider) := ⟨rfl, rfl, rfl, by decide +kernel, rfl, by decide +kernel, by decide +kernel⟩
abbrev s_law : Stmt := top 80
abbrev n_law : List Str := ["_law_script", "_law_k", "_law_box_here", "_law_tool_here", "_law_wider_here", "_law_at", "_law_p", "_law_q", "_law_word", "_law_one", "_law_two", "_law_both", "_law_turn", "_law_part"]
theorem sc_law : FnScope n_law ["_law_script"] (defScope s_law) := ⟨rfl, rfl, rfl, by decide +kernel, rfl, by decide +kernel, by decide +kernel⟩
end LM

set_option maxHeartbeats 4000000
namespace LM
open PySem PySem.Spec PyProof.Rows L2
/-! ### what the module's names stand for -/
/-- built-in names that the program does not bind -/
structure Blt (W : Wd) : Prop where
  len : W.mg "len" = none
  isi : W.mg "isinstance" = none
  all : W.mg "all" = none
  any : W.mg "any" = none
  tuple : W.mg "tuple" = none
  list : W.mg "list" = none
  str : W.mg "str" = none
  int : W.mg "int" = none
  bool : W.mg "bool" = none
  range : W.mg "range" = none
  sorted : W.mg "sorted" = none
  zip : W.mg "zip" = none
  enum : W.mg "enumerate" = none
  min : W.mg "min" = none
  max : W.mg "max" = none
  abs : W.mg "abs" = none
/-- a tuple of texts that stands at the module's name -/
structure TupC (W : Wd) (x : Str) (ss : List Str) : Prop where
  ex : ∃ a, W.mg x = some (.ref a) ∧ (∀ H, SqT W.K H a (ss.map V.str)) ∧ ∃ ob, W.K.lookup a = some ob ∧ ob.cls = .type "tuple" ∧ ob.dict = none
def sSMALL : Str := "abcdefghijklmnopqrstuvwxyz"
def lBARRED : List Str := ["and", "any", "came", "here", "not", "own", "to"]
def lPARTS : List Str := ["above", "below", "own"]
def lORDER : List Str := ["above", "own", "below"]
def lFAULTS : List Str := ["fallen", "false", "missed", "order", "twice"]
structure Words (W : Wd) : Prop where
  small : ∃ t, W.mg "SMALL" = some (.str sSMALL t)
  barred : TupC W "BARRED" lBARRED
  parts : TupC W "PARTS" lPARTS
  order : TupC W "ORDER" lORDER
  faults : TupC W "FAULTS" lFAULTS
section
variable {W : Wd}
/-! ### is_name -/
def isName (z : Str) : Bool := (decide ((1 : Int) ≤ z.length) && decide ((z.length : Int) ≤ 4)) && !decide (z ∈ lBARRED) && z.cps.toList.all fun c => decide (c ∈ sSMALL.cps.toList)
def preIsName : List V → Hp → VP → Prop := fun vs H R => ∃ z : Str, vs = [.str z] ∧ z.length ≤ 100000 ∧ R = Is (.bl (isName z))
theorem cal_is_name (B : Blt W) (C : Words W) (A : DefAt W "is_name" s_is_name ["value"]) : Cal W 1 "is_name" (Pure preIsName) := by
  refine cal_pure A sc_is_name (fun vs H R h => by obtain ⟨z, rfl, _⟩ := h; rfl) fun f cdv A outer s H vs R E hr h => ?_
  obtain ⟨z, rfl, hz, rfl⟩ := h
  obtain ⟨tb, hsm⟩ := C.small
  obtain ⟨ba, hba, hbq, _⟩ := C.barred.ex
  refine xs_if (XW.t (xw_or (xt_not (xt_val (xe_isi (t := .type "str") (u := .type "str") (b := true) B.isi (xe_var 0 rfl) (xe_ty B.str (by decide +kernel)) (.ty "str") (fun _ _ => .base (.str z)) (kit_ty (by decide +kernel))))) fun _ =>
    xw_or (xt_not (xt_chain (x := .int 1) (y := .int z.length) (z := .int 4) op_le op_le xe_int (xe_lenS B.len (xe_var 0 rfl) (by omega)) xe_int rv_I0 fun _ => rv_I0)) fun _ =>
    xw_or1 (xt_cmp op_in_seq (xe_var 0 rfl) (xe_globR hba) (rv_inS (.inr (hbq _))) rfl))) ?_ ?_
  · intro hb
    refine xs_ret xe_bl fun v H1 s1 r => ⟨s1, ?_⟩
    cases r
    have : isName z = false := by
      unfold isName
      revert hb
      cases (decide ((1 : Int) ≤ z.length) && decide ((z.length : Int) ≤ 4)) <;> cases decide (z ∈ lBARRED) <;> simp
    rw [this]
    rfl
  · intro hb
    have hn : isName z = z.cps.toList.all fun c => decide (c ∈ sSMALL.cps.toList) := by
      unfold isName
      revert hb
      cases (decide ((1 : Int) ≤ z.length) && decide ((z.length : Int) ≤ 4)) <;> cases decide (z ∈ lBARRED) <;> simp
    refine xs_nil fun H1 s1 => ?_
    refine xs_ret (xe_all B.all (XE.bools (g := fun c => decide (c ∈ sSMALL.cps.toList)) (xe_lcS (own := [("sign", 1)]) (j := 1) (rel := fun c => Is (.str ⟨#[c]⟩)) (xi_str (xe_var 0 rfl)) (fun _ _ _ _ _ _ => ys_C z _ _ _ _ _) (fun _ => inferInstance) (fun _ => inferInstance)
      (by have : z.cps.toList.length = z.length := by simp [Str.length]
          omega) sc_is_name.nd (blkOk_by (N := n_is_name) (sc := defScope s_is_name) (by decide +kernel))
      (fun _ _ _ _ _ => pg_name (i := 1) sc_is_name.nd rfl (Or.inl rfl)) fun c x G' hc e1 hx => ⟨rfl, fun _ s0 H0 C cl fp => by
        cases hx
        exact xe_cmp op_in_sign (xe_var 1 rfl) (xe_globS ⟨tb, hsm⟩) rv_sign rfl⟩))) fun v H2 s2 r => ⟨s1.trans s2, ?_⟩
    cases r
    rw [hn]
    show V.bl _ = V.bl _
    rw [List.all_map]
    rfl
/-! ### is_sequence -/
def LorT (H : Hp) (a : Addr) (xs : List V) : Prop := H a = some (.lst xs) ∨ H a = some (.tup xs)
theorem LorT.sq {K : PySem.W.Frag} {H : Hp} {a : Addr} {xs : List V} (h : LorT H a xs) : SqL K H a xs ∨ SqT K H a xs := h.imp SqL.of SqT.of
theorem LorT.mono {H H' : Hp} {a : Addr} {xs : List V} (h : LorT H a xs) (e : Same H H') : LorT H' a xs := h.imp (e _ _) (e _ _)
def preIsSeq : List V → Hp → VP → Prop := fun vs H R => ∃ a xs, vs = [.ref a] ∧ LorT H a xs ∧ R = Is (.bl true)
theorem rc_isiT {X : Cx} {a : Addr} {xs : List V} {H : Hp} (h : LorT H a xs) (v : V) (H1 : Hp) (s1 : Same H H1) (hv : TupV [.ty "list", .ty "tuple"] v H1) : RC (rIsiT X.K) [.ref a, v] H1 (Is (.bl true)) := fun H2 s2 Q k => by
  obtain ⟨tp, rfl, ht⟩ := hv
  rcases h with h | h
  · exact ⟨_, tp, _, .type "list", [.type "list", .type "tuple"], true, rfl, s2 _ _ ht, .cons (.ty _) (.cons (.ty _) .nil), .base (.lst ((s1.trans s2) _ _ h)), kitAny_cons (b := true) (kit_ty (by decide +kernel)) (fun q => nomatch q) (fun _ => rfl), k _ H2 (Same.refl _) rfl⟩
  · exact ⟨_, tp, _, .type "tuple", [.type "list", .type "tuple"], true, rfl, s2 _ _ ht, .cons (.ty _) (.cons (.ty _) .nil), .base (.tup ((s1.trans s2) _ _ h)), kitAny_cons (b := false) (kit_ty (by decide +kernel)) (fun _ => kitAny_cons (b := true) (kit_ty (by decide +kernel)) (fun q => nomatch q) fun _ => rfl) (fun q => nomatch q), k _ H2 (Same.refl _) rfl⟩
theorem cal_is_sequence (B : Blt W) (A : DefAt W "is_sequence" s_is_sequence ["value"]) : Cal W 1 "is_sequence" (Pure preIsSeq) := by
  refine cal_pure A sc_is_sequence (fun vs H R h => by obtain ⟨a, xs, rfl, _⟩ := h; rfl) fun f cdv A outer s H vs R E hr h => ?_
  obtain ⟨a, xs, rfl, hq, rfl⟩ := h
  refine xs_ret (R := Is (.bl true)) (xe_callB (Rs := [Is (.ref a), TupV [.ty "list", .ty "tuple"]]) call_isiT B.isi (xa_cons (xe_var 0 rfl) (xa_cons (XE.tupV (xs := [.ty "list", .ty "tuple"]) (xe_tup (Rs := [Is (.ty "list"), Is (.ty "tuple")]) (xa_cons (xe_ty B.list (by decide +kernel)) (xa_cons (xe_ty B.tuple (by decide +kernel)) xa_nil)) (by decide))) xa_nil)) (fun vs H1 s1 hr => ?_) (by decide +kernel)) fun v H1 s1 r => ⟨s1, r⟩
  match vs, hr with
  | [v, w], hr =>
    cases hr.1
    exact rc_isiT hq w H1 s1 hr.2.1
/-! ### is_word -/
def preIsWord : List V → Hp → VP → Prop := fun vs H R => ∃ (z : Str) (a : Addr) (ss : List Str), vs = [.str z, .ref a] ∧ (∀ H1, Same H H1 → SqT W.K H1 a (ss.map V.str)) ∧ R = Is (.bl (decide (z ∈ ss)))
theorem xe_isStr {X : Cx} {σ : St} {H : Hp} {e : Expr} {pos p p2 : Pos} {z : Str} (hm : X.mg "isinstance" = none) (hs : X.mg "str" = none) (h : XV X e σ H (.str z)) (hg : Gl X "isinstance" := by rfl) (hg2 : Gl X "str" := by rfl)
    (he : starEach [e, .Name "str" p2] X.env = (false, eval e X.env) :: starEach [.Name "str" p2] X.env := by rfl) (he2 : starEach [.Name "str" p2] X.env = (false, eval (.Name "str" p2) X.env) :: starEach [] X.env := by rfl) (hpl : (backTo pos (starEach [.Name "str" p2] X.env)).any (·.1) = false := by rfl) : XV X (.Call (.Name "isinstance" p) [e, .Name "str" p2] [] pos) σ H (.bl true) :=
  xe_isi (t := .type "str") (u := .type "str") (b := true) hm h (xe_ty hs (by decide +kernel) hg2) (.ty "str") (fun _ _ => .base (.str z)) (kit_ty (by decide +kernel)) hg he he2 hpl
theorem cal_is_word (B : Blt W) (A : DefAt W "is_word" s_is_word ["value", "some"]) : Cal W 1 "is_word" (Pure (preIsWord (W := W))) := by
  refine cal_pure A sc_is_word (fun vs H R h => by obtain ⟨z, a, ss, rfl, _⟩ := h; rfl) fun f cdv A outer s H vs R E hr h => ?_
  obtain ⟨z, a, ss, rfl, hq, rfl⟩ := h
  refine xs_ret (xe_and (p := true) (q := decide (z ∈ ss)) (xe_isStr B.isi B.str (xe_var 0 rfl)) fun _ => xe_and1 (xe_cmp op_in_seq (xe_var 0 rfl) (xe_var 1 rfl) (rv_inS (.inr (hq _ (Same.refl _)))) rfl)) fun v H1 s1 r => ⟨s1, ?_⟩
  cases r
  rfl
/-! ### are_unlike -/
def preUnlike : List V → Hp → VP → Prop := fun vs H R => ∃ (a : Addr) (ss : List Str), vs = [.ref a] ∧ LorT H a (ss.map V.str) ∧ ss.Nodup ∧ ss.length ≤ 5000 ∧ R = Is (.bl true)
theorem xi_lt {X : Cx} {tg e : Expr} {σ : St} {H : Hp} {a : Addr} {xs : List V} (h : XV X e σ H (.ref a)) (hq : LorT H a xs) : XI X tg e σ H xs.length (YX xs) := hq.elim (fun q => xi_listX h (SqL.of q)) fun q => xi_tupX h (SqT.of q)
theorem cal_are_unlike (B : Blt W) (A : DefAt W "are_unlike" s_are_unlike ["words"]) : Cal W 1 "are_unlike" (Pure preUnlike) := by
  refine cal_pure A sc_are_unlike (fun vs H R h => by obtain ⟨a, ss, rfl, _⟩ := h; rfl) fun f cdv A outer s H vs R E hr h => ?_
  obtain ⟨a, ss, rfl, hq, hnd, hz, rfl⟩ := h
  refine xs_ret (R := Is (.bl true)) (xe_cmp (x := .int ss.length) (y := .int ss.length) op_eq ?_ ?_ ?_ (nomark _)) fun v H1 s1 r => ⟨s1, r⟩
  · haveI : Mon (fun u H' => ∃ d kvs, u = V.ref d ∧ H' d = some (.dK kvs) ∧ kvs.length = ss.length) := ⟨fun v H H' e ⟨d, kvs, h1, h2, h3⟩ => ⟨d, kvs, h1, e _ _ h2, h3⟩⟩
    refine xe_callB call_lenD B.len (xa_cons (R := fun u H' => ∃ d kvs, u = V.ref d ∧ H' d = some (.dK kvs) ∧ kvs.length = ss.length) (xe_dcKeys (own := [("word", 1)]) (j := 1) (v := .bl true) (XI.len (xi_lt (xe_var 0 rfl) hq) (by simp)) hnd (by omega) sc_are_unlike.nd (blkOk_by (N := n_are_unlike) (sc := defScope s_are_unlike) (by decide +kernel))
      (fun _ _ _ _ _ => pg_name (i := 1) sc_are_unlike.nd rfl (Or.inl rfl)) (fun z G' _ _ _ _ _ => xe_var 1 rfl) (fun z G' _ _ _ _ _ => xe_bl)) xa_nil) (fun vs H1 s1 hr H2 s2 Q k => ?_) PySem.boot_len
    match vs, hr with
    | [v], hr =>
      obtain ⟨d, kvs, rfl, h2, h3⟩ := hr.1
      refine ⟨d, kvs, rfl, s2 _ _ h2, ?_⟩
      rw [h3]
      exact k _ H2 (Same.refl _) rfl
  · exact xe_lenL (x := .non) B.len (xe_var 0 rfl) fun v H1 s1 r => ⟨a, ss.map V.str, r, (hq.mono s1).sq, by simp⟩
  · have := rv_eqI (H := H) (i := ss.length) (j := ss.length)
    rwa [decide_eq_true rfl] at this
end
end LM

set_option maxHeartbeats 4000000
/-! plain: rows, tools, what they mean -/
namespace LM
open PySem L2
inductive LR where
  | run (old thn : Str)
  | lead (tests : List Str) (old thn : Str)
  | join (here came thn : Str)
  deriving DecidableEq
def lTESTS : List Str := ["above", "below", "own", "not above", "not below", "not own"]
def partOf (t : Str) : Str := Txt.removeprefix t "not "
def okOld (z : Str) : Prop := z.length ≤ 100 ∧ (isName z = true ∨ z = "any")
def LR.ok : LR → Prop
  | .run o t => okOld o ∧ t.length ≤ 100 ∧ isName t = true
  | .lead ts o t => (∀ x ∈ ts, x ∈ lTESTS) ∧ (ts.map partOf).Nodup ∧ okOld o ∧ t.length ≤ 100 ∧ isName t = true
  | .join h c t => okOld h ∧ okOld c ∧ t.length ≤ 100 ∧ (isName t = true ∨ t = "here" ∨ t = "came")
def LR.words : LR → List Str
  | .run o t => [o, t]
  | .lead _ o t => [o, t]
  | .join h c t => [h, c, t]
def LR.names (r : LR) : List Str := r.words.filter isName
/-- a pattern of same: above, own, below -/
abbrev Pat := Bool × Bool × Bool
def patAt (p : Pat) (part : Str) : Bool := if part = "above" then p.1 else if part = "own" then p.2.1 else p.2.2
def holdsT (p : Pat) (t : Str) : Bool := patAt p (partOf t) == decide (t = partOf t)
def fits (o m : Str) : Bool := decide (o = "any") || decide (o = m)
def ranR : List LR → Str → Str
  | [], m => m
  | .run o t :: r, m => if fits o m then t else ranR r m
  | _ :: r, m => ranR r m
def ledR (blank : Str) : List LR → Str → Pat → Str
  | [], _, _ => blank
  | .lead ts o t :: r, m, p => if fits o m && ts.all (holdsT p) then t else ledR blank r m p
  | _ :: r, m, p => ledR blank r m p
def thenOf (t here came : Str) : Str := if t = "here" then here else if t = "came" then came else t
def joinR : List LR → Str → Str → Str
  | [], h, _ => h
  | .join a b t :: r, h, c => if fits a h && fits b c then thenOf t h c else joinR r h c
  | _ :: r, h, c => joinR r h c
structure LT where
  marks : List Str
  told : List Str
  parts : List Str
  clears : Bool
  rows : List LR
  deriving DecidableEq
def LT.blank (t : LT) : Str := t.marks.headD ""
def LT.ran (t : LT) (m : Str) : Str := ranR t.rows m
def LT.led (t : LT) (m : Str) (p : Pat) : Str := if m = t.blank then t.blank else ledR t.blank t.rows m p
def LT.joined (t : LT) (h c : Str) : Str := joinR t.rows h c
def LT.keeps (t : LT) (p : Pat) : Bool := t.parts.all (patAt p)
def isLeadB (b : Str) : LR → Bool
  | .lead _ o _ => decide (o = b)
  | _ => false
structure LT.ok (t : LT) : Prop where
  ne : t.marks ≠ []
  few : t.marks.length ≤ 1000
  names : ∀ m ∈ t.marks, m.length ≤ 100 ∧ isName m = true
  nd : t.marks.Nodup
  told : ∀ m ∈ t.told, m ∈ t.marks.drop 1
  toldNd : t.told.Nodup
  parts : ∀ p ∈ t.parts, p ∈ lPARTS
  partsNd : t.parts.Nodup
  own : ("own" : Str) ∈ t.parts
  rows : ∀ r ∈ t.rows, r.ok
  rowsFew : t.rows.length ≤ 1000
  inM : ∀ r ∈ t.rows, ∀ n ∈ r.names, n ∈ t.marks
  blank : ∀ r ∈ t.rows, isLeadB t.blank r = false
end LM

set_option maxHeartbeats 4000000
namespace LM
open PySem PySem.Spec PyProof.Rows L2
/-! ### texts of rows -/
theorem tl_join' (a : Str) (ys : List Str) : TL.tl (Txt.join a ys) = TL.joinL (TL.tl a) (ys.map TL.tl) := by
  have h := SX.join_S (TL.tl a) (ys.map TL.tl)
  have e1 : SX.S (TL.tl a) = a := SX.S_tl a
  have e2 : (ys.map TL.tl).map SX.S = ys := by
    rw [List.map_map]
    have : (SX.S ∘ TL.tl) = id := by funext x; exact SX.S_tl x
    rw [this, List.map_id]
  rw [e1, e2] at h
  rw [h]
theorem sp_run : ("run " : Str) = "run" ++ " " := by decide +kernel
theorem sp_lead : ("lead " : Str) = "lead" ++ " " := by decide +kernel
theorem sp_join : ("join " : Str) = "join" ++ " " := by decide +kernel
theorem sp_to : (" to " : Str) = " " ++ ("to" ++ " ") := by decide +kernel
theorem run_text (o t : Str) : [("run " : Str), o, " to ", t].foldl (· ++ ·) Str.empty = Txt.join " " ["run", o, "to", t] := by
  apply TL.ext_tl
  rw [sp_run, sp_to, tl_join']
  simp only [List.foldl, TL.tl_append, List.map, TL.joinL, List.append_assoc]
  rfl
theorem lead_text (a o t : Str) : [("lead " : Str), a, " ", o, " to ", t].foldl (· ++ ·) Str.empty = Txt.join " " ["lead", a, o, "to", t] := by
  apply TL.ext_tl
  rw [sp_lead, sp_to, tl_join']
  simp only [List.foldl, TL.tl_append, List.map, TL.joinL, List.append_assoc]
  rfl
theorem join_text (a o t : Str) : [("join " : Str), a, " ", o, " to ", t].foldl (· ++ ·) Str.empty = Txt.join " " ["join", a, o, "to", t] := by
  apply TL.ext_tl
  rw [sp_join, sp_to, tl_join']
  simp only [List.foldl, TL.tl_append, List.map, TL.joinL, List.append_assoc]
  rfl
def askedOf (ts : List Str) : Str := if ts = [] then "always" else Txt.join " and " ts
def LR.parts : LR → List Str
  | .run o t => ["run", o, "to", t]
  | .lead ts o t => ["lead", askedOf ts, o, "to", t]
  | .join h c t => ["join", h, c, "to", t]
def LR.text (r : LR) : Str := Txt.join " " r.parts
/-! ### the classes -/
abbrev cRun (W : Wd) : Addr := He.ga W.K "Run"
abbrev cLead (W : Wd) : Addr := He.ga W.K "Lead"
abbrev cJoin (W : Wd) : Addr := He.ga W.K "Join"
abbrev cRow (W : Wd) : Addr := He.ga W.K "Row"
def LR.cls (W : Wd) : LR → Addr
  | .run _ _ => cRun W
  | .lead _ _ _ => cLead W
  | .join _ _ _ => cJoin W
structure RowC (W : Wd) : Prop where
  any : TupC W "ANY" ["any"]
  sides : TupC W "SIDES" ["here", "came"]
  clRun : Cls W.K (cRun W)
  clLead : Cls W.K (cLead W)
  clJoin : Cls W.K (cJoin W)
  nRun : ∀ f ∈ (["old", "then", "names"] : List Str), NoAttr W.K (cRun W) f
  nLead : ∀ f ∈ (["tests", "old", "then", "names"] : List Str), NoAttr W.K (cLead W) f
  nJoin : ∀ f ∈ (["here", "came", "then", "names"] : List Str), NoAttr W.K (cJoin W) f
def RowF (r : LR) (fs : List (Str × V)) (H : Hp) : Prop := match r with
  | .run o t => ∃ n, fs = ([("old", .str o), ("then", .str t), ("names", .ref n)] : List (Str × V)) ∧ H n = some (.tup (r.names.map V.str))
  | .lead ts o t => ∃ q n, fs = ([("tests", .ref q), ("old", .str o), ("then", .str t), ("names", .ref n)] : List (Str × V)) ∧ H q = some (.tup (ts.map V.str)) ∧ H n = some (.tup (r.names.map V.str))
  | .join h c t => ∃ n, fs = ([("here", .str h), ("came", .str c), ("then", .str t), ("names", .ref n)] : List (Str × V)) ∧ H n = some (.tup (r.names.map V.str))
theorem RowF.mono {r : LR} {fs : List (Str × V)} {H H' : Hp} (e : Same H H') (h : RowF r fs H) : RowF r fs H' := by
  cases r with
  | run o t => obtain ⟨n, h1, h2⟩ := h; exact ⟨n, h1, e _ _ h2⟩
  | lead ts o t => obtain ⟨q, n, h1, h2, h3⟩ := h; exact ⟨q, n, h1, e _ _ h2, e _ _ h3⟩
  | join a c t => obtain ⟨n, h1, h2⟩ := h; exact ⟨n, h1, e _ _ h2⟩
def RowR (W : Wd) (r : LR) : VP := InsR (r.cls W) (RowF r)
instance (W : Wd) (r : LR) : Mon (RowR W r) := ⟨fun v H H' e ⟨a, dx, fs, h1, h2, h3⟩ => ⟨a, dx, fs, h1, e _ _ h2, h3.mono e⟩⟩
section
variable {W : Wd}
/-! ### the small defs -/
def preOldMark : List V → Hp → VP → Prop := fun vs H R => ∃ z : Str, vs = [.str z] ∧ okOld z ∧ R = Is (.bl true)
theorem cal_is_old_mark (C : RowC W) (c1 : Cal W 1 "is_name" (Pure preIsName)) (c2 : Cal W 1 "is_word" (Pure (preIsWord (W := W)))) (A : DefAt W "is_old_mark" s_is_old_mark ["value"]) : Cal W 2 "is_old_mark" (Pure preOldMark) := by
  refine cal_pure A sc_is_old_mark (fun vs H R h => by obtain ⟨z, rfl, _⟩ := h; rfl) fun f cdv A outer s H vs R E hr h => ?_
  obtain ⟨z, rfl, ⟨hz, ho⟩, rfl⟩ := h
  obtain ⟨aa, haa, haq, _⟩ := C.any.ex
  refine xs_ret (xe_or (p := isName z) (q := decide (z ∈ (["any"] : List Str))) (xe_call1 c1 hr (xe_var 0 rfl) fun H1 _ => ⟨z, rfl, by omega, rfl⟩) fun _ => xe_and1 (xe_call2 c2 hr (xe_var 0 rfl) (xe_globR haa) fun H1 _ => ⟨z, aa, _, rfl, fun _ _ => haq _, rfl⟩)) fun v H1 s1 r => ⟨s1, ?_⟩
  cases r
  rcases ho with h | h
  · rw [h]; rfl
  · rw [h]
    have : decide (("any" : Str) ∈ (["any"] : List Str)) = true := by simp
    rw [this, Bool.or_true]
    rfl
def prePartOf : List V → Hp → VP → Prop := fun vs H R => ∃ z : Str, vs = [.str z] ∧ z.length ≤ 1000 ∧ R = Is (.str (partOf z))
theorem cal_part_of (A : DefAt W "part_of" s_part_of ["test"]) : Cal W 1 "part_of" (Pure prePartOf) := by
  refine cal_pure A sc_part_of (fun vs H R h => by obtain ⟨z, rfl, _⟩ := h; rfl) fun f cdv A outer s H vs R E hr h => ?_
  obtain ⟨z, rfl, hz, rfl⟩ := h
  exact xs_ret (xe_removeprefix (xe_var 0 rfl) xe_str (by omega)) fun v H1 s1 r => ⟨s1, r⟩
theorem tests_len {x : Str} (h : x ∈ lTESTS) : x.length ≤ 1000 := by
  have : lTESTS.all (fun x => decide (x.length ≤ 1000)) = true := by decide +kernel
  exact of_decide_eq_true (List.all_eq_true.mp this x h)
theorem tests_part {x : Str} (h : x ∈ lTESTS) : partOf x ∈ lPARTS := by
  have : lTESTS.all (fun x => decide (partOf x ∈ lPARTS)) = true := by decide +kernel
  exact of_decide_eq_true (List.all_eq_true.mp this x h)
def preTests : List V → Hp → VP → Prop := fun vs H R => ∃ (a : Addr) (ts : List Str), vs = [.ref a] ∧ LorT H a (ts.map V.str) ∧ (∀ x ∈ ts, x ∈ lTESTS) ∧ (ts.map partOf).Nodup ∧ ts.length ≤ 1000 ∧ R = Is (.bl true)
theorem all_id_true {α : Type} {src : List α} {g : α → Bool} (h : ∀ a ∈ src, g a = true) : (src.map g).all id = true := by
  rw [List.all_map]
  exact List.all_eq_true.mpr fun a ha => h a ha
theorem cal_are_tests (B : Blt W) (C : Words W) (c1 : Cal W 1 "is_sequence" (Pure preIsSeq)) (c2 : Cal W 1 "part_of" (Pure prePartOf)) (c3 : Cal W 1 "are_unlike" (Pure preUnlike)) (A : DefAt W "are_tests" s_are_tests ["value"]) : Cal W 2 "are_tests" (Pure preTests) := by
  refine cal_pure A sc_are_tests (fun vs H R h => by obtain ⟨z, ts, rfl, _⟩ := h; rfl) fun f cdv A outer s H vs R E hr h => ?_
  obtain ⟨a, ts, rfl, hq, ht, hnd, hlen, rfl⟩ := h
  obtain ⟨pa, hpa, hpq, _⟩ := C.parts.ex
  refine xs_ifF (XT.cast (XW.t (xw_or (p := !true) (q := !((ts.map fun x => true && decide (partOf x ∈ lPARTS)).all id)) (xt_not (xt_val (xe_call1 c1 hr (xe_var 0 rfl) fun H1 s1 => ⟨a, _, rfl, hq.mono s1, rfl⟩))) fun _ =>
    xw_or1 (xt_not (xt_val (xe_all B.all (bs := ts.map fun x => true && decide (partOf x ∈ lPARTS)) ?_))))) ?_) ?_
  · exact (xe_lcBools (own := [("test", 1)]) (j := 1) (src := ts) (enc := V.str) (xe_var 0 rfl) hq.sq (by omega) sc_are_tests.nd (blkOk_by (N := n_are_tests) (sc := defScope s_are_tests) (by decide +kernel))
      (fun _ _ _ _ _ => pg_name (i := 1) sc_are_tests.nd rfl (Or.inl rfl)) fun x G' hx e1 s0 H0 C cl fp => xe_and (xe_isStr B.isi B.str (xe_var 1 rfl)) fun _ => xe_and1 (xe_cmp op_in_seq (xe_call1 c2 hr (xe_var 1 rfl) fun H1 _ => ⟨x, rfl, tests_len (ht x hx), rfl⟩) (xe_globR hpa) (rv_inS (.inr (hpq _))) rfl))
  · rw [all_id_true]
    · rfl
    · intro x hx
      rw [decide_eq_true (tests_part (ht x hx))]
      rfl
  · refine xs_ret (xe_callR (R1 := LstV ((ts.map partOf).map V.str)) c3 hr ?_ fun v H1 s1 ⟨d, hd, h2⟩ => ⟨d, ts.map partOf, by rw [hd], .inl h2, hnd, by rw [List.length_map]; omega, rfl⟩) fun v H1 s1 r => ⟨s1, r⟩
    exact (xe_lcStrs (own := [("test", 1)]) (j := 1) (src := ts) (enc := V.str) (xe_var 0 rfl) hq.sq (by omega) sc_are_tests.nd (blkOk_by (N := n_are_tests) (sc := defScope s_are_tests) (by decide +kernel))
      (fun _ _ _ _ _ => pg_name (i := 1) sc_are_tests.nd rfl (Or.inl rfl)) fun x G' hx e1 s0 H0 C cl fp => xe_call1 c2 hr (xe_var 1 rfl) fun H1 _ => ⟨x, rfl, tests_len (ht x hx), rfl⟩)
def preNamesAmong : List V → Hp → VP → Prop := fun vs H R => ∃ (a : Addr) (ss : List Str), vs = [.ref a] ∧ LorT H a (ss.map V.str) ∧ (∀ x ∈ ss, x.length ≤ 1000) ∧ ss.length ≤ 1000 ∧ R = TupV ((ss.filter isName).map V.str)
theorem cal_names_among (B : Blt W) (c1 : Cal W 1 "is_name" (Pure preIsName)) (A : DefAt W "names_among" s_names_among ["words"]) : Cal W 2 "names_among" (Pure preNamesAmong) := by
  refine cal_pure A sc_names_among (fun vs H R h => by obtain ⟨z, ts, rfl, _⟩ := h; rfl) fun f cdv A outer s H vs R E hr h => ?_
  obtain ⟨a, ss, rfl, hq, hx, hlen, rfl⟩ := h
  exact xs_ret (xe_tupleL B.tuple (xe_lcKeep (own := [("word", 1)]) (j := 1) (src := ss) (enc := V.str) (pp := isName) (xe_var 0 rfl) hq.sq (by omega) sc_names_among.nd (blkOk_by (N := n_names_among) (sc := defScope s_names_among) (by decide +kernel))
      (fun _ _ _ _ _ => pg_name (i := 1) sc_names_among.nd rfl (Or.inl rfl)) (fun _ _ _ _ _ _ _ => xe_var 1 rfl) fun x G' hx' e1 s0 H0 C cl fp => xt_val (xe_call1 c1 hr (xe_var 1 rfl) fun H1 _ => ⟨x, rfl, by have := hx x hx'; omega, rfl⟩))) fun v H1 s1 r => ⟨s1, r⟩
end
end LM

set_option maxHeartbeats 4000000
namespace LM
open PySem PySem.Spec PyProof.Rows L2
section
variable {W : Wd}
/-! ### constructors of rows -/
theorem ne_ins {H : Hp} {y n C dx : Addr} {fs : List (Str × V)} {o : HO} (h : H y = some (.ins C dx fs)) (h' : H n = some o) (ho : ∀ C dx fs, o ≠ .ins C dx fs) : n ≠ y := fun e => by
  subst e
  rw [h] at h'
  exact ho _ _ _ (Option.some.inj h').symm
def preRun : List V → Hp → (List (Str × V) → Hp → Prop) → Prop := fun as H F => ∃ o t : Str, as = [.str o, .str t] ∧ (LR.run o t).ok ∧ F = RowF (.run o t)
theorem mak_run (B : Blt W) (C : RowC W) (c1 : Cal W 1 "is_name" (Pure preIsName)) (c2 : Cal W 2 "is_old_mark" (Pure preOldMark)) (c3 : Cal W 2 "names_among" (Pure preNamesAmong)) (A : MakAt W "Run" (cRun W) "Run.__init__" s_Run_init ["self", "old", "then"]) : Mak W 3 "Run" (cRun W) (Init (cRun W) preRun) := by
  refine mak_init A sc_Run_init (fun as H F h => by obtain ⟨o, t, rfl, _⟩ := h; rfl) fun f cdv A outer s H G y dx as F E hr g0 sg hy h => ?_
  obtain ⟨o, t, rfl, ⟨ho, htl, ht⟩, rfl⟩ := h
  refine xs_ifF (xt_not (xt_val (p := true) (xe_call1 c2 hr (xe_var 1 rfl) fun H1 _ => ⟨o, rfl, ho, rfl⟩))) ?_
  refine xs_ifF (xt_not (xt_val (p := true) (xe_call1 c1 hr (xe_var 2 rfl) fun H1 _ => ⟨t, rfl, by omega, by rw [ht]⟩))) ?_
  refine xs_fld (R := Is (.str o)) (xe_var 0 rfl) (xe_var 1 rfl) hy C.clRun (C.nRun "old" (by simp)) (by decide) fun v H1 s1 r => ?_
  cases r
  refine xs_fld (R := Is (.str t)) (xe_var 0 rfl) (xe_var 2 rfl) upd_same C.clRun (C.nRun "then" (by simp)) (by show 1 < 1000; decide) fun v H2 s2 r => ?_
  cases r
  refine xs_fld (R := TupV ((LR.run o t).names.map V.str)) (xe_var 0 rfl) (xe_callR (R1 := TupV [.str o, .str t]) c3 hr (XE.tupV (xs := [.str o, .str t]) (xe_tup (Rs := [Is (.str o), Is (.str t)]) (xa_cons (xe_var 1 rfl) (xa_cons (xe_var 2 rfl) xa_nil)) (by simp))) ?_) upd_same C.clRun (C.nRun "names" (by simp)) (by show 2 < 1000; decide) fun v H3 s3 r => ?_
  · rintro v H3 s3 ⟨a, rfl, ha⟩
    refine ⟨a, [o, t], rfl, .inr ha, fun x hx => ?_, by simp, rfl⟩
    rcases List.mem_cons.mp hx with rfl | hx
    · have := ho.1; omega
    · rw [List.mem_singleton.mp hx]; omega
  · obtain ⟨n, rfl, hn⟩ := r
    refine xs_nil fun H4 s4 => ⟨?_, _, s4 _ _ upd_same, n, rfl, s4 _ _ ?_⟩
    · have e0 : Same G H1 := sg.trans s1
      have e1 : Same G H2 := Same.trans (mutS e0 g0) s2
      have e2 : Same G H3 := Same.trans (mutS e1 g0) s3
      exact (mutS e2 g0).trans s4
    · rw [upd_ne]
      · exact hn
      · exact ne_ins (s3 _ _ upd_same) hn (fun _ _ _ z => nomatch z)
def preLead : List V → Hp → (List (Str × V) → Hp → Prop) → Prop := fun as H F => ∃ (q : Addr) (ts : List Str) (o t : Str), as = [.ref q, .str o, .str t] ∧ LorT H q (ts.map V.str) ∧ ts.length ≤ 1000 ∧ (LR.lead ts o t).ok ∧ F = RowF (.lead ts o t)
theorem xe_tupleLT {X : Cx} {e : Expr} {σ : St} {H : Hp} {a : Addr} {xs : List V} {p pos : Pos} (hm : X.mg "tuple" = none) (ha : XV X e σ H (.ref a)) (hq : LorT H a xs) (hg : Gl X "tuple" := by rfl)
    (he : starEach [e] X.env = (false, eval e X.env) :: starEach [] X.env := by rfl) (hpl : (backTo pos (starEach [] X.env)).any (·.1) = false := by rfl) : XE X (.Call (.Name "tuple" p) [e] [] pos) σ H (TupV xs) :=
  xe_callTy call_tuple_of hm (xa_cons ha xa_nil he) (fun vs H1 s1 hr H2 s2 Q k => by
    match vs, hr with
    | [v], hr =>
      cases hr.1
      rcases hq.mono (s1.trans s2) with h | h
      · exact ⟨a, xs, rfl, .inl ⟨SqL.of h, fun l hl => k _ _ (newS hl) ⟨l, rfl, upd_same⟩⟩⟩
      · exact ⟨a, xs, rfl, .inr ⟨SqT.of h, k _ H2 (Same.refl _) ⟨a, rfl, h⟩⟩⟩) (by decide +kernel) hg (by decide) (by decide) he hpl
theorem mak_lead (B : Blt W) (C : RowC W) (c0 : Cal W 2 "are_tests" (Pure preTests)) (c1 : Cal W 1 "is_name" (Pure preIsName)) (c2 : Cal W 2 "is_old_mark" (Pure preOldMark)) (c3 : Cal W 2 "names_among" (Pure preNamesAmong)) (A : MakAt W "Lead" (cLead W) "Lead.__init__" s_Lead_init ["self", "tests", "old", "then"]) : Mak W 3 "Lead" (cLead W) (Init (cLead W) preLead) := by
  refine mak_init A sc_Lead_init (fun as H F h => by obtain ⟨q, ts, o, t, rfl, _⟩ := h; rfl) fun f cdv A outer s H G y dx as F E hr g0 sg hy h => ?_
  obtain ⟨q, ts, o, t, rfl, hq, hlen, ⟨ht1, ht2, ho, htl, ht⟩, rfl⟩ := h
  have hq : LorT H q (ts.map V.str) := hq.mono sg
  refine xs_ifF (xt_not (xt_val (p := true) (xe_call1 c0 hr (xe_var 1 rfl) fun H1 s1 => ⟨q, ts, rfl, hq.mono s1, ht1, ht2, hlen, rfl⟩))) ?_
  refine xs_ifF (xt_not (xt_val (p := true) (xe_call1 c2 hr (xe_var 2 rfl) fun H1 _ => ⟨o, rfl, ho, rfl⟩))) ?_
  refine xs_ifF (xt_not (xt_val (p := true) (xe_call1 c1 hr (xe_var 3 rfl) fun H1 _ => ⟨t, rfl, by omega, by rw [ht]⟩))) ?_
  refine xs_fld (R := TupV (ts.map V.str)) (xe_var 0 rfl) (xe_tupleLT B.tuple (xe_var 1 rfl) hq) hy C.clLead (C.nLead "tests" (by simp)) (by decide) fun v H1 s1 r => ?_
  obtain ⟨tt, rfl, htt⟩ := r
  have ntt : tt ≠ y := ne_ins (s1 _ _ hy) htt (fun _ _ _ z => nomatch z)
  refine xs_fld (R := Is (.str o)) (xe_var 0 rfl) (xe_var 2 rfl) upd_same C.clLead (C.nLead "old" (by simp)) (by show 1 < 1000; decide) fun v H2 s2 r => ?_
  cases r
  refine xs_fld (R := Is (.str t)) (xe_var 0 rfl) (xe_var 3 rfl) upd_same C.clLead (C.nLead "then" (by simp)) (by show 2 < 1000; decide) fun v H3 s3 r => ?_
  cases r
  refine xs_fld (R := TupV ((LR.lead ts o t).names.map V.str)) (xe_var 0 rfl) (xe_callR (R1 := TupV [.str o, .str t]) c3 hr (XE.tupV (xs := [.str o, .str t]) (xe_tup (Rs := [Is (.str o), Is (.str t)]) (xa_cons (xe_var 2 rfl) (xa_cons (xe_var 3 rfl) xa_nil)) (by simp))) ?_) upd_same C.clLead (C.nLead "names" (by simp)) (by show 3 < 1000; decide) fun v H4 s4 r => ?_
  · rintro v H3 s3 ⟨a, rfl, ha⟩
    refine ⟨a, [o, t], rfl, .inr ha, fun x hx => ?_, by simp, rfl⟩
    rcases List.mem_cons.mp hx with rfl | hx
    · have := ho.1; omega
    · rw [List.mem_singleton.mp hx]; omega
  · obtain ⟨n, rfl, hn⟩ := r
    have h1 : upd H1 y (.ins (cLead W) dx (putF "tests" (.ref tt) [])) tt = some (.tup (ts.map V.str)) := by rw [upd_ne ntt]; exact htt
    have h2 := s2 _ _ h1
    have h3 : upd H2 y (.ins (cLead W) dx (putF "old" (.str o) (putF "tests" (.ref tt) []))) tt = some (.tup (ts.map V.str)) := by rw [upd_ne ntt]; exact h2
    have h4 := s3 _ _ h3
    have h5 : upd H3 y (.ins (cLead W) dx (putF "then" (.str t) (putF "old" (.str o) (putF "tests" (.ref tt) [])))) tt = some (.tup (ts.map V.str)) := by rw [upd_ne ntt]; exact h4
    have h6 := s4 _ _ h5
    refine xs_nil fun H5 s5 => ⟨?_, _, s5 _ _ upd_same, tt, n, rfl, s5 _ _ (by rw [upd_ne ntt]; exact h6), s5 _ _ ?_⟩
    · have e0 : Same G H1 := sg.trans s1
      have e1 : Same G H2 := Same.trans (mutS e0 g0) s2
      have e2 : Same G H3 := Same.trans (mutS e1 g0) s3
      have e3 : Same G H4 := Same.trans (mutS e2 g0) s4
      exact (mutS e3 g0).trans s5
    · rw [upd_ne]
      · exact hn
      · exact ne_ins (s4 _ _ upd_same) hn (fun _ _ _ z => nomatch z)
def preJoin : List V → Hp → (List (Str × V) → Hp → Prop) → Prop := fun as H F => ∃ h c t : Str, as = [.str h, .str c, .str t] ∧ (LR.join h c t).ok ∧ F = RowF (.join h c t)
theorem mak_join (B : Blt W) (C : RowC W) (c0 : Cal W 1 "is_word" (Pure (preIsWord (W := W)))) (c1 : Cal W 1 "is_name" (Pure preIsName)) (c2 : Cal W 2 "is_old_mark" (Pure preOldMark)) (c3 : Cal W 2 "names_among" (Pure preNamesAmong)) (A : MakAt W "Join" (cJoin W) "Join.__init__" s_Join_init ["self", "here", "came", "then"]) : Mak W 3 "Join" (cJoin W) (Init (cJoin W) preJoin) := by
  refine mak_init A sc_Join_init (fun as H F h => by obtain ⟨q, o, t, rfl, _⟩ := h; rfl) fun f cdv A outer s H G y dx as F E hr g0 sg hy h => ?_
  obtain ⟨o, c, t, rfl, ⟨ho, hcm, htl, ht⟩, rfl⟩ := h
  obtain ⟨sa, hsa, hsq, _⟩ := C.sides.ex
  refine xs_ifF (xt_not (xt_val (p := true) (xe_call1 c2 hr (xe_var 1 rfl) fun H1 _ => ⟨o, rfl, ho, rfl⟩))) ?_
  refine xs_ifF (xt_not (xt_val (p := true) (xe_call1 c2 hr (xe_var 2 rfl) fun H1 _ => ⟨c, rfl, hcm, rfl⟩))) ?_
  refine xs_ifF (XT.cast (XW.t (xw_and (p := !isName t) (q := !decide (t ∈ (["here", "came"] : List Str))) (xt_not (xt_val (xe_call1 c1 hr (xe_var 3 rfl) fun H1 _ => ⟨t, rfl, by omega, rfl⟩))) fun _ => xw_and1 (xt_not (xt_val (xe_call2 c0 hr (xe_var 3 rfl) (xe_globR hsa) fun H1 _ => ⟨t, sa, _, rfl, fun _ _ => hsq _, rfl⟩))))) ?_) ?_
  · rcases ht with h | h | h
    · rw [h]; rfl
    · subst h; decide +kernel
    · subst h; decide +kernel
  refine xs_fld (R := Is (.str o)) (xe_var 0 rfl) (xe_var 1 rfl) hy C.clJoin (C.nJoin "here" (by simp)) (by decide) fun v H1 s1 r => ?_
  cases r
  refine xs_fld (R := Is (.str c)) (xe_var 0 rfl) (xe_var 2 rfl) upd_same C.clJoin (C.nJoin "came" (by simp)) (by show 1 < 1000; decide) fun v H2 s2 r => ?_
  cases r
  refine xs_fld (R := Is (.str t)) (xe_var 0 rfl) (xe_var 3 rfl) upd_same C.clJoin (C.nJoin "then" (by simp)) (by show 2 < 1000; decide) fun v H3 s3 r => ?_
  cases r
  refine xs_fld (R := TupV ((LR.join o c t).names.map V.str)) (xe_var 0 rfl) (xe_callR (R1 := TupV [.str o, .str c, .str t]) c3 hr (XE.tupV (xs := [.str o, .str c, .str t]) (xe_tup (Rs := [Is (.str o), Is (.str c), Is (.str t)]) (xa_cons (xe_var 1 rfl) (xa_cons (xe_var 2 rfl) (xa_cons (xe_var 3 rfl) xa_nil))) (by simp))) ?_) upd_same C.clJoin (C.nJoin "names" (by simp)) (by show 3 < 1000; decide) fun v H4 s4 r => ?_
  · rintro v H3 s3 ⟨a, rfl, ha⟩
    refine ⟨a, [o, c, t], rfl, .inr ha, fun x hx => ?_, by simp, rfl⟩
    have h1 := ho.1
    have h2 := hcm.1
    simp only [List.mem_cons, List.not_mem_nil, or_false] at hx
    rcases hx with rfl | rfl | rfl <;> omega
  · obtain ⟨n, rfl, hn⟩ := r
    refine xs_nil fun H5 s5 => ⟨?_, _, s5 _ _ upd_same, n, rfl, s5 _ _ ?_⟩
    · have e0 : Same G H1 := sg.trans s1
      have e1 : Same G H2 := Same.trans (mutS e0 g0) s2
      have e2 : Same G H3 := Same.trans (mutS e1 g0) s3
      have e3 : Same G H4 := Same.trans (mutS e2 g0) s4
      exact (mutS e3 g0).trans s5
    · rw [upd_ne]
      · exact hn
      · exact ne_ins (s4 _ _ upd_same) hn (fun _ _ _ z => nomatch z)
/-! ### texts of rows -/
def LR.short : LR → Prop
  | .run o t => o.length ≤ 100 ∧ t.length ≤ 100
  | .lead ts o t => ts.length ≤ 10 ∧ (∀ x ∈ ts, x.length ≤ 100) ∧ o.length ≤ 100 ∧ t.length ≤ 100
  | .join h c t => h.length ≤ 100 ∧ c.length ≤ 100 ∧ t.length ≤ 100
def preRunStr (W : Wd) : List V → Hp → VP → Prop := fun vs H R => ∃ (o t : Str) (a dx : Addr) (fs : List (Str × V)), vs = [.ref a] ∧ H a = some (.ins (cRun W) dx fs) ∧ RowF (.run o t) fs H ∧ (LR.run o t).short ∧ R = Is (.str (LR.run o t).text)
theorem met_run_str (C : RowC W) (A : MethAt W (cRun W) "__str__" "Run.__str__" s_Run_str ["self"]) : Met W 1 (cRun W) "__str__" (Pure (preRunStr W)) := by
  refine met_pure A sc_Run_str (fun vs H R h => by obtain ⟨o, t, a, dx, fs, rfl, _⟩ := h; rfl) fun f cdv A outer s H vs R E hr h => ?_
  obtain ⟨o, t, a, dx, fs, rfl, ha, ⟨n, rfl, hn⟩, ⟨h1, h2⟩, rfl⟩ := h
  refine xs_ret (xe_fstr (zs := ["run ", o, " to ", t]) (.cons xe_str (.cons (xe_fmt (xe_fld (xe_var 0 rfl) ha C.clRun (C.nRun "old" (by simp)) rfl) (by omega)) (.cons xe_str (.cons (xe_fmt (xe_fld (xe_var 0 rfl) ha C.clRun (C.nRun "then" (by simp)) rfl) (by omega)) .nil)))) ?_) fun v H1 s1 r => ⟨s1, ?_⟩
  · have e1 : ("run " : Str).length = 4 := by decide +kernel
    have e2 : (" to " : Str).length = 4 := by decide +kernel
    simp only [List.map, List.sum_cons, List.sum_nil, e1, e2]
    omega
  · cases r
    show V.str _ = V.str _
    rw [run_text]
    rfl
theorem sum_le {l : List Str} (h : ∀ x ∈ l, x.length ≤ 100) : (l.map (·.length)).sum ≤ 100 * l.length := by
  induction l with
  | nil => simp
  | cons a r ih =>
    have h1 := h a (by simp)
    have h2 := ih fun x hx => h x (by simp [hx])
    simp only [List.map_cons, List.sum_cons, List.length_cons]
    omega
theorem joinL_len (sep : List Nat) : ∀ ps : List (List Nat), (TL.joinL sep ps).length ≤ (ps.map List.length).sum + ps.length * sep.length
  | [] => by simp [TL.joinL]
  | [p] => by simp [TL.joinL]
  | p :: q :: r => by
    have ih := joinL_len sep (q :: r)
    show (p ++ (sep ++ TL.joinL sep (q :: r))).length ≤ _
    simp only [List.length_append, List.map_cons, List.sum_cons, List.length_cons] at ih ⊢
    have : (r.length + 1 + 1) * sep.length = (r.length + 1) * sep.length + sep.length := by rw [Nat.succ_mul]
    omega
theorem tl_length (x : Str) : (TL.tl x).length = x.length := by simp [TL.tl, Str.length]
theorem join_len (sep : Str) (ys : List Str) : (Txt.join sep ys).length ≤ (ys.map (·.length)).sum + ys.length * sep.length := by
  have h := joinL_len (TL.tl sep) (ys.map TL.tl)
  rw [← tl_join', tl_length, tl_length, List.length_map, List.map_map] at h
  have e : (List.length ∘ TL.tl) = fun x : Str => x.length := by funext x; exact tl_length x
  rw [e] at h
  exact h
theorem asked_len {ts : List Str} (h1 : ts.length ≤ 10) (h2 : ∀ x ∈ ts, x.length ≤ 100) : (askedOf ts).length ≤ 1100 := by
  unfold askedOf
  split
  · decide +kernel
  · have h3 := join_len " and " ts
    have h4 := sum_le h2
    have e : (" and " : Str).length = 5 := by decide +kernel
    rw [e] at h3
    omega
def preLeadStr (W : Wd) : List V → Hp → VP → Prop := fun vs H R => ∃ (ts : List Str) (o t : Str) (a dx : Addr) (fs : List (Str × V)), vs = [.ref a] ∧ H a = some (.ins (cLead W) dx fs) ∧ RowF (.lead ts o t) fs H ∧ (LR.lead ts o t).short ∧ R = Is (.str (LR.lead ts o t).text)
theorem met_lead_str (B : Blt W) (C : RowC W) (A : MethAt W (cLead W) "__str__" "Lead.__str__" s_Lead_str ["self"]) : Met W 1 (cLead W) "__str__" (Pure (preLeadStr W)) := by
  refine met_pure A sc_Lead_str (fun vs H R h => by obtain ⟨ts, o, t, a, dx, fs, rfl, _⟩ := h; rfl) fun f cdv A outer s H vs R E hr h => ?_
  obtain ⟨ts, o, t, a, dx, fs, rfl, ha, ⟨q, n, rfl, hq, hn⟩, ⟨h0, h00, h1, h2⟩, rfl⟩ := h
  have hal := asked_len h0 h00
  refine xs_setv 1 (v := .str (askedOf ts)) (xe_if (p := decide ((0 : Int) < ts.length)) (xt_cmp (x := .int ts.length) (y := .int 0) op_gt (xe_lenL (x := .non) B.len (xe_fld (xe_var 0 rfl) ha C.clLead (C.nLead "tests" (by simp)) rfl) fun v H1 s1 r => ⟨q, _, r, .inr (SqT.of (s1 _ _ hq)), by simp⟩) xe_int rv_I0 (nomark _)) (fun hp => ?_) fun hp => ?_) ?_ sc_Lead_str.nd
  · have hne : ts ≠ [] := fun e => by subst e; simp at hp
    have ea : askedOf ts = Txt.join " and " ts := by unfold askedOf; rw [if_neg hne]
    rw [ea]
    refine xe_join (Ra := Is (.ref q)) xe_str (xe_fld (xe_var 0 rfl) ha C.clLead (C.nLead "tests" (by simp)) rfl) (fun v H1 s1 r => ⟨q, r, .inr (SqT.of (s1 _ _ hq))⟩) ?_
    have h4 := sum_le h00
    have e : (" and " : Str).length = 5 := by decide +kernel
    rw [e]
    omega
  · have he : ts = [] := by
      have : ¬ (0 : Int) < ts.length := of_decide_eq_false hp
      exact List.length_eq_zero_iff.mp (by omega)
    subst he
    exact xe_str
  · refine xs_ret (xe_fstr (zs := ["lead ", askedOf ts, " ", o, " to ", t]) (.cons xe_str (.cons (xe_fmt (xe_var 1 rfl) (by omega)) (.cons xe_str (.cons (xe_fmt (xe_fld (xe_var 0 rfl) ha C.clLead (C.nLead "old" (by simp)) rfl) (by omega)) (.cons xe_str (.cons (xe_fmt (xe_fld (xe_var 0 rfl) ha C.clLead (C.nLead "then" (by simp)) rfl) (by omega)) .nil)))))) ?_) fun v H1 s1 r => ⟨s1, ?_⟩
    · have e1 : ("lead " : Str).length = 5 := by decide +kernel
      have e2 : (" to " : Str).length = 4 := by decide +kernel
      have e3 : (" " : Str).length = 1 := by decide +kernel
      simp only [List.map, List.sum_cons, List.sum_nil, e1, e2, e3]
      omega
    · cases r
      show V.str _ = V.str _
      rw [lead_text]
      rfl
def preJoinStr (W : Wd) : List V → Hp → VP → Prop := fun vs H R => ∃ (h c t : Str) (a dx : Addr) (fs : List (Str × V)), vs = [.ref a] ∧ H a = some (.ins (cJoin W) dx fs) ∧ RowF (.join h c t) fs H ∧ (LR.join h c t).short ∧ R = Is (.str (LR.join h c t).text)
theorem met_join_str (C : RowC W) (A : MethAt W (cJoin W) "__str__" "Join.__str__" s_Join_str ["self"]) : Met W 1 (cJoin W) "__str__" (Pure (preJoinStr W)) := by
  refine met_pure A sc_Join_str (fun vs H R h => by obtain ⟨o, c, t, a, dx, fs, rfl, _⟩ := h; rfl) fun f cdv A outer s H vs R E hr h => ?_
  obtain ⟨o, c, t, a, dx, fs, rfl, ha, ⟨n, rfl, hn⟩, ⟨h1, h2, h3⟩, rfl⟩ := h
  refine xs_ret (xe_fstr (zs := ["join ", o, " ", c, " to ", t]) (.cons xe_str (.cons (xe_fmt (xe_fld (xe_var 0 rfl) ha C.clJoin (C.nJoin "here" (by simp)) rfl) (by omega)) (.cons xe_str (.cons (xe_fmt (xe_fld (xe_var 0 rfl) ha C.clJoin (C.nJoin "came" (by simp)) rfl) (by omega)) (.cons xe_str (.cons (xe_fmt (xe_fld (xe_var 0 rfl) ha C.clJoin (C.nJoin "then" (by simp)) rfl) (by omega)) .nil)))))) ?_) fun v H1 s1 r => ⟨s1, ?_⟩
  · have e1 : ("join " : Str).length = 5 := by decide +kernel
    have e2 : (" to " : Str).length = 4 := by decide +kernel
    have e3 : (" " : Str).length = 1 := by decide +kernel
    simp only [List.map, List.sum_cons, List.sum_nil, e1, e2, e3]
    omega
  · cases r
    show V.str _ = V.str _
    rw [join_text]
    rfl
/-- str(row), any row -/
structure RowStr (W : Wd) : Prop where
  run : Met W 1 (cRun W) "__str__" (Pure (preRunStr W))
  lead : Met W 1 (cLead W) "__str__" (Pure (preLeadStr W))
  join : Met W 1 (cJoin W) "__str__" (Pure (preJoinStr W))
theorem xe_strRow {X : Cx} {j : Nat} {e : Expr} {σ : St} {H : Hp} {p pos : Pos} {r : LR} (S : RowStr (wd X)) (hr : Room j X.A) (hm : X.mg "str" = none) (h1 : XE X e σ H (RowR (wd X) r)) (hs : r.short) (hk : 3 ≤ j := by decide) (hg : Gl X "str" := by rfl)
    (he : starEach [e] X.env = (false, eval e X.env) :: starEach [] X.env := by rfl) (hpl : (backTo pos (starEach [] X.env)).any (·.1) = false := by rfl) : XV X (.Call (.Name "str" p) [e] [] pos) σ H (.str r.text) := by
  cases r with
  | run o t => exact xe_strO S.run hr hm (h1.imp fun v H2 _ ⟨a, dx, fs, h1, h2, h3⟩ => ⟨a, dx, fs, h1, h2, fun H3 e3 => ⟨o, t, a, dx, fs, rfl, e3 _ _ h2, h3.mono e3, hs, rfl⟩⟩) hk hg he hpl
  | lead ts o t => exact xe_strO S.lead hr hm (h1.imp fun v H2 _ ⟨a, dx, fs, h1, h2, h3⟩ => ⟨a, dx, fs, h1, h2, fun H3 e3 => ⟨ts, o, t, a, dx, fs, rfl, e3 _ _ h2, h3.mono e3, hs, rfl⟩⟩) hk hg he hpl
  | join h c t => exact xe_strO S.join hr hm (h1.imp fun v H2 _ ⟨a, dx, fs, h1, h2, h3⟩ => ⟨a, dx, fs, h1, h2, fun H3 e3 => ⟨h, c, t, a, dx, fs, rfl, e3 _ _ h2, h3.mono e3, hs, rfl⟩⟩) hk hg he hpl
end
end LM

set_option maxHeartbeats 4000000
/-! plain: texts of rows, split -/
namespace LM
open PySem L2
theorem joinL_flat (S : List Nat) (rest : List (List Nat)) (hr : rest ≠ []) : ∀ ws : List (List Nat), ws ≠ [] → TL.joinL S (TL.joinL S ws :: rest) = TL.joinL S (ws ++ rest)
  | [], h => absurd rfl h
  | [w], _ => rfl
  | w :: w2 :: r, _ => by
    have ih := joinL_flat S rest hr (w2 :: r) (by simp)
    cases rest with
    | nil => exact absurd rfl hr
    | cons q qs =>
      show (w ++ (S ++ TL.joinL S (w2 :: r))) ++ (S ++ TL.joinL S (q :: qs)) = w ++ (S ++ TL.joinL S ((w2 :: r) ++ (q :: qs)))
      rw [← ih]
      show _ = w ++ (S ++ (TL.joinL S (w2 :: r) ++ (S ++ TL.joinL S (q :: qs))))
      simp only [List.append_assoc]
/-- split by one sign: the parts of a join without it -/
theorem split_join1 (c : Nat) (hc : c < 256) (parts : List Str) (hne : parts ≠ []) (h : ∀ p ∈ parts, c ∉ TL.tl p) : Txt.split (Txt.join (SX.S [c]) parts) (SX.S [c]) = parts := by
  have e : Txt.join (SX.S [c]) parts = SX.S (TL.joinL [c] (parts.map TL.tl)) := by
    apply TL.ext_tl
    rw [tl_join']
  rw [e, SX.split_S (by simp) (by simp [hc]), TL.spl_join (by simpa using hne) (fun p hp => by
    obtain ⟨x, hx, rfl⟩ := List.mem_map.mp hp
    exact h x hx), List.map_map]
  have : (SX.S ∘ TL.tl) = id := by funext x; exact SX.S_tl x
  rw [this, List.map_id]
theorem sp_S : (" " : Str) = SX.S [32] := by decide +kernel
theorem nl_S : ("\n" : Str) = SX.S [10] := by decide +kernel
theorem and_S : (" and " : Str) = SX.S [32, 97, 110, 100, 32] := by decide +kernel
theorem isName_all {z : Str} (h : isName z = true) : ∀ c ∈ TL.tl z, 97 ≤ c ∧ c ≤ 122 := by
  intro c hc
  unfold isName at h
  rw [Bool.and_eq_true] at h
  have h2 := List.all_eq_true.mp h.2 c hc
  have h3 := of_decide_eq_true h2
  have : sSMALL.cps.toList.all (fun c => decide (97 ≤ c ∧ c ≤ 122)) = true := by decide +kernel
  exact of_decide_eq_true (List.all_eq_true.mp this c h3)
theorem clean_of {z : Str} (h : (TL.tl z).all (fun c => decide (97 ≤ c ∧ c ≤ 122)) = true) : ∀ c ∈ TL.tl z, 97 ≤ c ∧ c ≤ 122 := fun c hc => of_decide_eq_true (List.all_eq_true.mp h c hc)
def Clean (z : Str) : Prop := ∀ c ∈ TL.tl z, 97 ≤ c ∧ c ≤ 122
theorem Clean.no32 {z : Str} (h : Clean z) : 32 ∉ TL.tl z := fun hm => by have := h _ hm; omega
theorem Clean.no10 {z : Str} (h : Clean z) : 10 ∉ TL.tl z := fun hm => by have := h _ hm; omega
theorem clean_name {z : Str} (h : isName z = true) : Clean z := isName_all h
theorem clean_old {z : Str} (h : okOld z) : Clean z := by
  rcases h.2 with h | h
  · exact clean_name h
  · subst h; exact clean_of (by decide +kernel)
theorem clean_then {z : Str} (h : isName z = true ∨ z = "here" ∨ z = "came") : Clean z := by
  rcases h with h | h | h
  · exact clean_name h
  · subst h; exact clean_of (by decide +kernel)
  · subst h; exact clean_of (by decide +kernel)
/-- the words of a test -/
def wordsT (x : Str) : List Str := if x = "not above" then ["not", "above"] else if x = "not below" then ["not", "below"] else if x = "not own" then ["not", "own"] else [x]
theorem wordsT_ok : ∀ x ∈ lTESTS, TL.tl x = TL.joinL [32] ((wordsT x).map TL.tl) ∧ wordsT x ≠ [] ∧ ∀ y ∈ wordsT x, Clean y := by
  have h : lTESTS.all (fun x => decide (TL.tl x = TL.joinL [32] ((wordsT x).map TL.tl)) && (decide (wordsT x ≠ []) && (wordsT x).all fun y => (TL.tl y).all (fun c => decide (97 ≤ c ∧ c ≤ 122)))) = true := by decide +kernel
  intro x hx
  have h1 := List.all_eq_true.mp h x hx
  rw [Bool.and_eq_true, Bool.and_eq_true] at h1
  exact ⟨of_decide_eq_true h1.1, of_decide_eq_true h1.2.1, fun y hy => clean_of (List.all_eq_true.mp h1.2.2 y hy)⟩
def askedW : List Str → List Str
  | [] => ["always"]
  | [x] => wordsT x
  | x :: y :: r => wordsT x ++ ("and" : Str) :: askedW (y :: r)
theorem askedW_ne : ∀ {ts : List Str}, (∀ x ∈ ts, x ∈ lTESTS) → askedW ts ≠ []
  | [], _ => by simp [askedW]
  | [x], h => (wordsT_ok x (h x (by simp))).2.1
  | x :: y :: r, h => by simp [askedW]
theorem askedW_clean : ∀ {ts : List Str}, (∀ x ∈ ts, x ∈ lTESTS) → ∀ y ∈ askedW ts, Clean y
  | [], _, y, hy => by
    have : y = "always" := by simpa [askedW] using hy
    subst this; exact clean_of (by decide +kernel)
  | [x], h, y, hy => (wordsT_ok x (h x (by simp))).2.2 y hy
  | x :: z :: r, h, y, hy => by
    have hy : y ∈ wordsT x ++ ("and" : Str) :: askedW (z :: r) := hy
    rcases List.mem_append.mp hy with q | q
    · exact (wordsT_ok x (h x (by simp))).2.2 y q
    · rcases List.mem_cons.mp q with q | q
      · subst q; exact clean_of (by decide +kernel)
      · exact askedW_clean (fun x hx => h x (by simp only [List.mem_cons] at hx ⊢; exact .inr hx)) y q
theorem joinL_append (S : List Nat) : ∀ {a b : List (List Nat)}, a ≠ [] → b ≠ [] → TL.joinL S (a ++ b) = TL.joinL S a ++ (S ++ TL.joinL S b)
  | [], _, h, _ => absurd rfl h
  | [x], [], _, h => absurd rfl h
  | [x], y :: r, _, _ => rfl
  | x :: y :: r, b, _, hb => by
    have ih := joinL_append S (a := y :: r) (b := b) (by simp) hb
    show x ++ (S ++ TL.joinL S ((y :: r) ++ b)) = (x ++ (S ++ TL.joinL S (y :: r))) ++ (S ++ TL.joinL S b)
    rw [ih]
    simp only [List.append_assoc]
theorem asked_join : ∀ {ts : List Str}, (∀ x ∈ ts, x ∈ lTESTS) → Txt.join " " (askedW ts) = askedOf ts
  | [], _ => by decide +kernel
  | x :: r, h => by
    have e : askedOf (x :: r) = Txt.join " and " (x :: r) := by unfold askedOf; rw [if_neg (by simp)]
    rw [e]
    apply TL.ext_tl
    rw [tl_join', tl_join', sp_S, and_S]
    show TL.joinL [32] ((askedW (x :: r)).map TL.tl) = TL.joinL [32, 97, 110, 100, 32] ((x :: r).map TL.tl)
    clear e
    induction r generalizing x with
    | nil => exact (wordsT_ok x (h x (by simp))).1.symm
    | cons y r ih =>
      have ih := ih y (fun z hz => h z (by simp only [List.mem_cons] at hz ⊢; exact .inr hz))
      have hx := wordsT_ok x (h x (by simp))
      show TL.joinL [32] ((wordsT x ++ ("and" : Str) :: askedW (y :: r)).map TL.tl) = TL.tl x ++ ([32, 97, 110, 100, 32] ++ TL.joinL [32, 97, 110, 100, 32] ((y :: r).map TL.tl))
      rw [List.map_append, joinL_append _ (by simpa using hx.2.1) (by simp), ← hx.1, ← ih]
      have hn : (askedW (y :: r)).map TL.tl ≠ [] := by
        have := askedW_ne (ts := y :: r) (fun z hz => h z (by simp only [List.mem_cons] at hz ⊢; exact .inr hz))
        simpa using this
      have : TL.joinL [32] ((("and" : Str) :: askedW (y :: r)).map TL.tl) = [97, 110, 100] ++ ([32] ++ TL.joinL [32] ((askedW (y :: r)).map TL.tl)) := by
        rw [List.map_cons, show TL.tl ("and" : Str) = [97, 110, 100] by decide +kernel]
        exact joinL_append [32] (a := [[97, 110, 100]]) (by simp) hn
      rw [this]
      simp
/-- split by " and " -/
theorem tests_free : ∀ x ∈ lTESTS, SX.free [32, 97, 110, 100, 32] (TL.tl x) = true := by
  have h : lTESTS.all (fun x => SX.free [32, 97, 110, 100, 32] (TL.tl x)) = true := by decide +kernel
  exact fun x hx => List.all_eq_true.mp h x hx
theorem tests_last : ∀ x ∈ lTESTS, TL.spl [32, 97, 110, 100, 32] 0 [] (TL.tl x) = [TL.tl x] := by
  have h : lTESTS.all (fun x => decide (TL.spl [32, 97, 110, 100, 32] 0 [] (TL.tl x) = [TL.tl x])) = true := by decide +kernel
  exact fun x hx => of_decide_eq_true (List.all_eq_true.mp h x hx)
theorem spl_tests : ∀ (r : List Str) (x : Str), (∀ y ∈ x :: r, y ∈ lTESTS) → TL.spl [32, 97, 110, 100, 32] 0 [] (TL.joinL [32, 97, 110, 100, 32] ((x :: r).map TL.tl)) = (x :: r).map TL.tl
  | [], x, h => tests_last x (h x (by simp))
  | y :: r, x, h => by
    show TL.spl _ 0 [] (TL.tl x ++ ([32, 97, 110, 100, 32] ++ TL.joinL _ ((y :: r).map TL.tl))) = _
    rw [SX.spl_free _ (by simp) (tests_free x (h x (by simp))), spl_tests r y (fun z hz => h z (by simp only [List.mem_cons] at hz ⊢; exact .inr hz))]
    rfl
theorem split_and {ts : List Str} (hne : ts ≠ []) (h : ∀ x ∈ ts, x ∈ lTESTS) : Txt.split (askedOf ts) " and " = ts := by
  cases ts with
  | nil => exact absurd rfl hne
  | cons x r =>
    have e : askedOf (x :: r) = SX.S (TL.joinL [32, 97, 110, 100, 32] ((x :: r).map TL.tl)) := by
      unfold askedOf
      rw [if_neg (by simp)]
      apply TL.ext_tl
      rw [tl_join', and_S]
    rw [e, and_S, SX.split_S (by simp) (by decide), spl_tests r x h, List.map_map]
    have : (SX.S ∘ TL.tl) = id := by funext x; exact SX.S_tl x
    rw [this, List.map_id]
theorem asked_ne_always {ts : List Str} (hne : ts ≠ []) (h : ∀ x ∈ ts, x ∈ lTESTS) : askedOf ts ≠ "always" := by
  intro q
  have h2 := split_and hne h
  rw [q] at h2
  have e : Txt.split ("always" : Str) " and " = ([("always" : Str)] : List Str) := by
    rw [and_S, show ("always" : Str) = SX.S (TL.tl "always") from (SX.S_tl _).symm, SX.split_S (by simp) (by decide)]
    decide +kernel
  rw [e] at h2
  have : ("always" : Str) ∈ lTESTS := h _ (by rw [← h2]; simp)
  revert this
  decide +kernel
/-- the words of a row's text -/
def LR.wordsOf : LR → List Str
  | .run o t => ["run", o, "to", t]
  | .lead ts o t => "lead" :: (askedW ts ++ [o, "to", t])
  | .join h c t => ["join", h, c, "to", t]
theorem text_words {r : LR} (h : r.ok) : r.text = Txt.join " " r.wordsOf := by
  cases r with
  | run o t => rfl
  | join a c t => rfl
  | lead ts o t =>
    show Txt.join " " ["lead", askedOf ts, o, "to", t] = Txt.join " " (("lead" : Str) :: (askedW ts ++ [o, "to", t]))
    rw [← asked_join h.1]
    apply TL.ext_tl
    rw [tl_join', tl_join']
    show TL.tl "lead" ++ (TL.tl " " ++ TL.joinL (TL.tl " ") (TL.tl (Txt.join " " (askedW ts)) :: ([o, "to", t].map TL.tl))) = _
    rw [tl_join', joinL_flat _ _ (by simp) _ (by simpa using askedW_ne h.1)]
    have hn : (askedW ts ++ [o, "to", t]).map TL.tl ≠ [] := by simp
    have em : (askedW ts).map TL.tl ++ ([o, "to", t] : List Str).map TL.tl = (askedW ts ++ [o, "to", t]).map TL.tl := (List.map_append).symm
    rw [em]
    exact (joinL_append _ (a := [TL.tl "lead"]) (by simp) hn).symm
theorem words_clean {r : LR} (h : r.ok) : ∀ y ∈ r.wordsOf, Clean y := by
  have k1 : Clean "to" := clean_of (by decide +kernel)
  have k2 : Clean "run" := clean_of (by decide +kernel)
  have k3 : Clean "lead" := clean_of (by decide +kernel)
  have k4 : Clean "join" := clean_of (by decide +kernel)
  intro y hy
  cases r with
  | run o t =>
    simp only [LR.wordsOf, List.mem_cons, List.not_mem_nil, or_false] at hy
    rcases hy with rfl | rfl | rfl | rfl
    · exact k2
    · exact clean_old h.1
    · exact k1
    · exact clean_name h.2.2
  | join a c t =>
    simp only [LR.wordsOf, List.mem_cons, List.not_mem_nil, or_false] at hy
    rcases hy with rfl | rfl | rfl | rfl | rfl
    · exact k4
    · exact clean_old h.1
    · exact clean_old h.2.1
    · exact k1
    · exact clean_then h.2.2.2
  | lead ts o t =>
    simp only [LR.wordsOf, List.mem_cons, List.mem_append, List.not_mem_nil, or_false] at hy
    rcases hy with rfl | hy | rfl | rfl | rfl
    · exact k3
    · exact askedW_clean h.1 y hy
    · exact clean_old h.2.2.1
    · exact k1
    · exact clean_name h.2.2.2.2
theorem split_text {r : LR} (h : r.ok) : Txt.split r.text " " = r.wordsOf := by
  rw [text_words h, sp_S]
  exact split_join1 32 (by decide) _ (by cases r <;> simp [LR.wordsOf]) fun p hp => (words_clean h p hp).no32
theorem text_no10 {r : LR} (h : r.ok) : 10 ∉ TL.tl r.text := by
  rw [text_words h, tl_join', sp_S]
  have key : ∀ ws : List Str, (∀ y ∈ ws, Clean y) → 10 ∉ TL.joinL [32] (ws.map TL.tl) := by
    intro ws
    induction ws with
    | nil => intro _ hm; cases hm
    | cons w r ih =>
      intro hc hm
      cases r with
      | nil => exact (hc w (by simp)).no10 hm
      | cons w2 r =>
        have hm : 10 ∈ TL.tl w ++ ([32] ++ TL.joinL [32] ((w2 :: r).map TL.tl)) := hm
        rcases List.mem_append.mp hm with q | q
        · exact (hc w (by simp)).no10 q
        · rcases List.mem_append.mp q with q | q
          · simp at q
          · exact ih (fun y hy => hc y (by simp only [List.mem_cons] at hy ⊢; exact .inr hy)) q
  exact key _ (words_clean h)
end LM

set_option maxHeartbeats 4000000
namespace LM
open PySem PySem.Spec PyProof.Rows L2
theorem xe_neg {X : Cx} {e : Expr} {σ : St} {H : Hp} {pos : Pos} {i : Int} (h : XV X e σ H (.int i)) : XV X (.UnaryOp .USub e pos) σ H (.int (-i)) :=
  XE.of (pe_un un_neg pe_s) fun H1 s Q k => h.s s fun v H2 e2 q => by cases q; exact ⟨i, rfl, k _ H2 e2 rfl⟩
theorem sIx_neg {n k : Nat} (d : Nat) (h : k ≤ n) (hk : 0 < k) : HT.sIx n d (some (-(k : Int))) = n - k := by
  have := HT.clip_eq (-(k : Int)) n d
  rw [if_pos (by omega)] at this
  omega
theorem cut_mid (a b c d : V) (ws : List V) : cutV (a :: (ws ++ [b, c, d])) (some 1) (some (-3)) = ws := by
  unfold cutV
  have hl : (a :: (ws ++ [b, c, d])).length = ws.length + 4 := by simp
  have e1 : HT.sIx (ws.length + 4) 0 (some 1) = 1 := by
    have := HT.sIx_nat (ws.length + 4) 0 1
    rw [show ((1 : Nat) : Int) = 1 from rfl] at this
    rw [this]; omega
  have e2 : HT.sIx (ws.length + 4) (ws.length + 4) (some (-3)) = ws.length + 1 := by
    have := sIx_neg (n := ws.length + 4) (k := 3) (ws.length + 4) (by omega) (by omega)
    rw [show (-((3 : Nat) : Int)) = -3 from rfl] at this
    rw [this]; omega
  rw [hl, e1, e2]
  simp
theorem at_back {xs : List V} {k : Nat} {v : V} (hk : 0 < k) (hl : k ≤ xs.length) (h : xs[xs.length - k]? = some v) : atI xs (-(k : Int)) = some v := by
  unfold atI ixN
  rw [if_neg (by omega), if_pos (by omega)]
  show xs[(-(k : Int) + xs.length).toNat]? = some v
  rw [show (-(k : Int) + xs.length).toNat = xs.length - k by omega]
  exact h
theorem xe_sliceLc {X : Cx} {e : Expr} {σ : St} {H : Hp} {pos : Pos} {xs ys : List V} {lo hi : Option Expr} {i j : Option Int} {a : Addr} {p2 : Pos} (he : XV X e σ H (.ref a)) (hq : SqL X.K H a xs) (h1 : SlO X σ H lo i) (h2 : SlO X σ H hi j) (hc : cutV xs i j = ys) : XE X (.Subscript e (.Slice lo hi none p2) pos) σ H (LstV ys) := hc ▸ xe_sliceL he hq h1 h2
section
variable {W : Wd}
def preRowIn (W : Wd) : List V → Hp → VP → Prop := fun vs H R => ∃ (a : Addr) (r : LR), vs = [.ref a] ∧ H a = some (.lst (r.wordsOf.map V.str)) ∧ r.ok ∧ r.short ∧ R = RowR W r
theorem asked_words_len {ts : List Str} (h1 : ts.length ≤ 10) : (askedW ts).length ≤ 40 ∧ 1 ≤ (askedW ts).length := by
  have hw : ∀ x : Str, (wordsT x).length ≤ 2 ∧ 1 ≤ (wordsT x).length := by
    intro x
    unfold wordsT
    split
    · simp
    · split
      · simp
      · split <;> simp
  have key : ∀ ts : List Str, (askedW ts).length ≤ 3 * ts.length + 1 ∧ 1 ≤ (askedW ts).length := by
    intro ts
    induction ts with
    | nil => simp [askedW]
    | cons x r ih =>
      cases r with
      | nil => have := hw x; simp only [askedW, List.length_cons, List.length_nil]; omega
      | cons y r =>
        have h1 := hw x
        have e : (askedW (x :: y :: r)).length = (wordsT x).length + ((askedW (y :: r)).length + 1) := by simp [askedW]
        rw [e]
        simp only [List.length_cons] at ih ⊢
        omega
  have := key ts
  omega
theorem joined_len {x : Str} {ts : List Str} (h : Txt.join " " (askedW ts) = x) (hl : (askedW ts).length ≤ 40) (hx : ∀ y ∈ askedW ts, y.length ≤ 100) : ((askedW ts).map (·.length)).sum + (askedW ts).length * (" " : Str).length ≤ 1000000 := by
  have h1 := sum_le hx
  have e : (" " : Str).length = 1 := by decide +kernel
  rw [e]
  omega
theorem askedW_short : ∀ {ts : List Str}, (∀ x ∈ ts, x ∈ lTESTS) → ∀ y ∈ askedW ts, y.length ≤ 100 := by
  have hw : ∀ x ∈ lTESTS, ∀ y ∈ wordsT x, y.length ≤ 100 := by
    have h : lTESTS.all (fun x => (wordsT x).all fun y => decide (y.length ≤ 100)) = true := by decide +kernel
    intro x hx y hy
    exact of_decide_eq_true (List.all_eq_true.mp (List.all_eq_true.mp h x hx) y hy)
  intro ts
  induction ts with
  | nil => intro _ y hy; have : y = "always" := by simpa [askedW] using hy
           subst this; decide +kernel
  | cons x r ih =>
    intro h y hy
    cases r with
    | nil => exact hw x (h x (by simp)) y hy
    | cons z r =>
      have hy : y ∈ wordsT x ++ ("and" : Str) :: askedW (z :: r) := hy
      rcases List.mem_append.mp hy with q | q
      · exact hw x (h x (by simp)) y q
      · rcases List.mem_cons.mp q with q | q
        · subst q; decide +kernel
        · exact ih (fun x hx => h x (by simp only [List.mem_cons] at hx ⊢; exact .inr hx)) y q
theorem cal_row_in (B : Blt W) (c1 : Mak W 3 "Run" (cRun W) (Init (cRun W) preRun)) (c2 : Mak W 3 "Lead" (cLead W) (Init (cLead W) preLead)) (c3 : Mak W 3 "Join" (cJoin W) (Init (cJoin W) preJoin)) (A : DefAt W "row_in" s_row_in ["words"]) : Cal W 5 "row_in" (Pure (preRowIn W)) := by
  refine cal_pure A sc_row_in (fun vs H R h => by obtain ⟨a, r, rfl, _⟩ := h; rfl) fun f cdv A outer s H vs R E hr h => ?_
  obtain ⟨a, r, rfl, ha, hok, hsh, rfl⟩ := h
  have hq : SqL W.K H a (r.wordsOf.map V.str) := SqL.of ha
  cases r with
  | run o t =>
    refine xs_ifF (xt_cmp (x := .int 4) (y := .int 4) op_lt (xe_lenL (x := .non) B.len (xe_var 0 rfl) fun v H1 s1 q => ⟨a, _, q, .inl (sq_mono s1 hq), rfl⟩) xe_int rv_I0 (nomark _)) ?_
    refine xs_ifT (XW.t (xw_and (p := true) (q := true) (xt_cmp (x := .str "run") (y := .str "run") op_eq (xe_ixL (xe_var 0 rfl) xe_int hq rfl) xe_str (rv_eqS (i := "run") (j := "run")) (nomark _)) fun _ => xw_and1 (xt_cmp (x := .int 4) (y := .int 4) op_eq (xe_lenL (x := .non) B.len (xe_var 0 rfl) fun v H1 s1 q => ⟨a, _, q, .inl (sq_mono s1 hq), rfl⟩) xe_int (rv_eqI (i := 4) (j := 4)) (nomark _)))) ?_
    refine xs_ret (R := RowR W (.run o t)) (xe_make (Rs := [Is (.str o), Is (.str t)]) c1 hr (xa_cons (xe_ixL (xe_var 0 rfl) xe_int hq rfl) (xa_cons (xe_ixL (xe_var 0 rfl) xe_int hq rfl) xa_nil)) fun vs H1 s1 hv => ?_) fun v H1 s1 q => ⟨s1, q⟩
    match vs, hv with
    | [v, w], hv => cases hv.1; cases hv.2.1; exact ⟨o, t, rfl, hok, rfl⟩
  | join h c t =>
    refine xs_ifF (xt_cmp (x := .int 5) (y := .int 4) op_lt (xe_lenL (x := .non) B.len (xe_var 0 rfl) fun v H1 s1 q => ⟨a, _, q, .inl (sq_mono s1 hq), rfl⟩) xe_int rv_I0 (nomark _)) ?_
    refine xs_ifF (XW.t (xw_and (p := false) (q := true) (xt_cmp (x := .str "join") (y := .str "run") op_eq (xe_ixL (xe_var 0 rfl) xe_int hq rfl) xe_str (rv_eqS (i := "join") (j := "run")) (nomark _)) fun q => nomatch q)) ?_
    refine xs_ifT (XW.t (xw_and (p := true) (q := true) (xt_cmp (x := .str "join") (y := .str "join") op_eq (xe_ixL (xe_var 0 rfl) xe_int hq rfl) xe_str (rv_eqS (i := "join") (j := "join")) (nomark _)) fun _ => xw_and1 (xt_cmp (x := .int 5) (y := .int 5) op_eq (xe_lenL (x := .non) B.len (xe_var 0 rfl) fun v H1 s1 q => ⟨a, _, q, .inl (sq_mono s1 hq), rfl⟩) xe_int (rv_eqI (i := 5) (j := 5)) (nomark _)))) ?_
    refine xs_ret (R := RowR W (.join h c t)) (xe_make (Rs := [Is (.str h), Is (.str c), Is (.str t)]) c3 hr (xa_cons (xe_ixL (xe_var 0 rfl) xe_int hq rfl) (xa_cons (xe_ixL (xe_var 0 rfl) xe_int hq rfl) (xa_cons (xe_ixL (xe_var 0 rfl) xe_int hq rfl) xa_nil))) fun vs H1 s1 hv => ?_) fun v H1 s1 q => ⟨s1, q⟩
    match vs, hv with
    | [v, w, u], hv => cases hv.1; cases hv.2.1; cases hv.2.2.1; exact ⟨h, c, t, rfl, hok, rfl⟩
  | lead ts o t =>
    have ex : (LR.lead ts o t).wordsOf.map V.str = V.str "lead" :: ((askedW ts).map V.str ++ [.str o, .str "to", .str t]) := by
      show ((("lead" : Str) :: (askedW ts ++ [o, "to", t])).map V.str) = _
      rw [List.map_cons, List.map_append]
      rfl
    rw [ex] at hq
    have hl := asked_words_len hsh.1
    have hq0 : atI (V.str "lead" :: ((askedW ts).map V.str ++ [.str o, .str "to", .str t])) 0 = some (.str "lead") := atI_nat (j := 0) rfl
    have hL : (V.str "lead" :: ((askedW ts).map V.str ++ [.str o, .str "to", .str t])).length = (askedW ts).length + 4 := by simp
    have len : ∀ H1, Same H H1 → ∀ v, Is (.ref a) v H1 → ∃ a' ys, v = .ref a' ∧ (SqL W.K H1 a' ys ∨ SqT W.K H1 a' ys) ∧ ys.length = (askedW ts).length + 4 := fun H1 s1 v q => ⟨a, _, q, .inl (sq_mono s1 hq), hL⟩
    refine xs_ifF (XT.cast (xt_cmp (x := .int ((askedW ts).length + 4 : Nat)) (y := .int 4) op_lt (xe_lenL (x := .non) B.len (xe_var 0 rfl) fun v H1 s1 q => len H1 s1 v q) xe_int rv_I0 (nomark _)) (decide_eq_false (by omega))) ?_
    refine xs_ifF (XW.t (xw_and (p := false) (q := true) (xt_cmp (x := .str "lead") (y := .str "run") op_eq (xe_ixL (xe_var 0 rfl) xe_int hq hq0) xe_str (rv_eqS (i := "lead") (j := "run")) (nomark _)) fun q => nomatch q)) ?_
    refine xs_ifF (XW.t (xw_and (p := false) (q := true) (xt_cmp (x := .str "lead") (y := .str "join") op_eq (xe_ixL (xe_var 0 rfl) xe_int hq hq0) xe_str (rv_eqS (i := "lead") (j := "join")) (nomark _)) fun q => nomatch q)) ?_
    refine xs_ifT (XW.t (xw_and (p := true) (q := true) (xt_cmp (x := .str "lead") (y := .str "lead") op_eq (xe_ixL (xe_var 0 rfl) xe_int hq hq0) xe_str (rv_eqS (i := "lead") (j := "lead")) (nomark _)) fun _ => xw_and1 (XT.cast (xt_cmp (x := .int ((askedW ts).length + 4 : Nat)) (y := .int 4) op_gt (xe_lenL (x := .non) B.len (xe_var 0 rfl) fun v H1 s1 q => len H1 s1 v q) xe_int rv_I0 (nomark _)) (decide_eq_true (by omega))))) ?_
    refine xs_setv 1 (v := .str (askedOf ts)) ?_ ?_ sc_row_in.nd
    · rw [← asked_join hok.1]
      refine xe_join (Ra := LstV ((askedW ts).map V.str)) xe_str ?_ (fun v H1 s1 ⟨p, hp, hh⟩ => ⟨p, hp, .inl (SqL.of hh)⟩) (joined_len rfl hl.1 (askedW_short hok.1))
      exact xe_sliceLc (xe_var 0 rfl) hq (.some xe_int) (.some (xe_neg xe_int)) (cut_mid _ _ _ _ _)
    · have hq1 : atI (V.str "lead" :: ((askedW ts).map V.str ++ [.str o, .str "to", .str t])) (-3) = some (.str o) := at_back (k := 3) (by omega) (by omega) (by rw [hL, show (askedW ts).length + 4 - 3 = (askedW ts).length + 1 by omega]; simp)
      have hq2 : atI (V.str "lead" :: ((askedW ts).map V.str ++ [.str o, .str "to", .str t])) (-1) = some (.str t) := at_back (k := 1) (by omega) (by omega) (by rw [hL, show (askedW ts).length + 4 - 1 = (askedW ts).length + 3 by omega]; simp)
      have hal := asked_len hsh.1 hsh.2.1
      refine xs_ret (R := RowR W (.lead ts o t)) (xe_make (Rs := [LstV (ts.map V.str), Is (.str o), Is (.str t)]) c2 hr (xa_cons (xe_if (p := decide (askedOf ts = "always")) (xt_cmp op_eq (xe_var 1 rfl) xe_str rv_eqS (nomark _)) (fun hp => ?_) fun hp => ?_) (xa_cons (xe_ixL (xe_var 0 rfl) (xe_neg xe_int) hq hq1) (xa_cons (xe_ixL (xe_var 0 rfl) (xe_neg xe_int) hq hq2) xa_nil))) fun vs H1 s1 hv => ?_) fun v H1 s1 q => ⟨s1, q⟩
      · have he : ts = [] := by
          by_cases h0 : ts = []
          · exact h0
          · exact absurd (of_decide_eq_true hp) (asked_ne_always h0 hok.1)
        subst he
        exact XE.lstV (xs := []) (xe_lst (Rs := []) xa_nil (by simp))
      · have hne : ts ≠ [] := fun e => by subst e; exact absurd rfl (of_decide_eq_false hp)
        have := split_and hne hok.1
        rw [← this]
        exact xe_split (xe_var 1 (by rw [this]; rfl)) xe_str (by decide +kernel) (by omega)
      · match vs, hv with
        | [v, w, u], hv =>
          obtain ⟨q, rfl, hh⟩ := hv.1
          cases hv.2.1; cases hv.2.2.1
          exact ⟨q, ts, o, t, rfl, .inl hh, by have := hsh.1; omega, hok, rfl⟩
/-! ### classmethods -/
abbrev FnRW (W : Wd) (k : Nat) (g : Addr) (sp : Sp) : Prop := FnR W.P W.w W.K W.mg W.base L2.CX0 k g sp
structure CMeth (W : Wd) (k : Nat) (C : Addr) (m : Str) (sp : Sp) : Prop where
  ex : ∃ (p g : Addr) (mc : Value), ClX.CRead W.K C mc ∧ ClX.CMet W.K C mc m p g ∧ FnRW W k g sp
structure CMethAt (W : Wd) (C : Addr) (m qual : Str) (st : Stmt) (ps : List Str) : Prop where
  ex : ∃ (p g : Addr) (mc : Value) (fd : FuncData), ClX.CRead W.K C mc ∧ ClX.CMet W.K C mc m p g ∧ L2.Fun W.K m qual st g fd ∧ Binds W.K fd ps []
theorem cmeth_pure {C : Addr} {m qual : Str} {st : Stmt} {N ps : List Str} {k : Nat} {pre : List V → Hp → VP → Prop} (A : CMethAt W C m qual st ps) (S : FnScope N ps (defScope st)) (len : ∀ vs H R, pre vs H R → vs.length = ps.length)
    (hb : ∀ (f : Addr) (cdv : Value) (A : Around) (outer : List Env) (s : Shared) (H : Hp) (vs : List V) (R : VP) (E : XK), Room k (A.deeper (envOfC qual (defScope st) s.heap.objs.size f cdv)) → pre vs H R →
      XSs (cx W N qual st f cdv A outer s H E) (defBody st) (RetD H R) (start N vs) H) : CMeth W (k + 1) C m (Pure pre) := by
  obtain ⟨p, g, mc, fd, h1, h2, F, b⟩ := A.ex
  refine ⟨p, g, mc, h1, h2, FnR.imp ((fn_pure F S len (hb g)).raw b .nil) fun vs H Q E h => ?_⟩
  rw [List.append_nil]
  exact h
theorem xe_cmeth1 {X : Cx} {k j : Nat} {C : Addr} {m : Str} {pre : List V → Hp → VP → Prop} {o e1 : Expr} {σ : St} {H : Hp} {x1 : V} {R : VP} {apos pos : Pos} {pl : Sem Bool} (c : CMeth (wd X) k C m (Pure pre)) (hr : Room j X.A) (ho : XV X o σ H (.ref C)) (h1 : XV X e1 σ H x1)
    (hp : ∀ H1, Same H H1 → pre [.ref C, x1] H1 R) (hk : k ≤ j := by decide) (hst : starEach [e1] X.env = (false, eval e1 X.env) :: starEach [] X.env := by rfl) (hpl : (backTo pos (starEach [] X.env)).any (·.1) = false := by rfl)
    (ht : eval (.Call (.Attribute o m apos) [e1] [] pos) X.env = (do
      let ov ← eval o X.env
      standAt apos.atName
      let (f, first) ← holding [ov] (getMethod ov m pl)
      callWith pos f first (backTo pos (starEach [e1] X.env)) (backToKw pos (keywordEach [] X.env))) := by rfl) : XE X (.Call (.Attribute o m apos) [e1] [] pos) σ H R := by
  obtain ⟨p, g, mc, h2, h3, F⟩ := c.ex
  exact XE.of (ClX.pe_cmeth (pl := pl) pe_s h2 h3 F (hr.mono hk) pass0 (pa_cons pe_s pa_nil hst) hst hpl ht) fun H1 e1 Q k => ho.s e1 fun v H2 e2 q => by
    cases q
    refine ⟨rfl, h1.s (e1.trans e2) fun v H3 e3 q => ?_⟩
    cases q
    exact ⟨R, hp H3 ((e1.trans e2).trans e3), fun v H4 e4 r => k v H4 ((e2.trans e3).trans e4) r⟩
/-! ### Row.read -/
def preRowRead (W : Wd) : List V → Hp → VP → Prop := fun vs H R => ∃ r : LR, vs = [.ref (cRow W), .str r.text] ∧ r.ok ∧ r.short ∧ R = RowR W r
theorem text_short {r : LR} (h : r.short) : r.text.length ≤ 5000 := by
  have k1 : ("run" : Str).length = 3 := by decide +kernel
  have k2 : ("lead" : Str).length = 4 := by decide +kernel
  have k3 : ("join" : Str).length = 4 := by decide +kernel
  have k4 : ("to" : Str).length = 2 := by decide +kernel
  have k5 : (" " : Str).length = 1 := by decide +kernel
  have := join_len " " r.parts
  rw [k5] at this
  cases r with
  | run o t =>
    obtain ⟨h1, h2⟩ := h
    simp only [LR.parts, List.map, List.sum_cons, List.sum_nil, List.length_cons, List.length_nil, k1, k4] at this
    exact Nat.le_trans this (by omega)
  | lead ts o t =>
    obtain ⟨h0, h1, h2, h3⟩ := h
    have := asked_len h0 h1
    simp only [LR.parts, List.map, List.sum_cons, List.sum_nil, List.length_cons, List.length_nil, k2, k4] at *
    exact Nat.le_trans (by assumption) (by omega)
  | join a c t =>
    obtain ⟨h0, h1, h2⟩ := h
    simp only [LR.parts, List.map, List.sum_cons, List.sum_nil, List.length_cons, List.length_nil, k3, k4] at this
    exact Nat.le_trans this (by omega)
theorem cm_row_read (B : Blt W) (S : RowStr W) (c1 : Cal W 5 "row_in" (Pure (preRowIn W))) (A : CMethAt W (cRow W) "read" "Row.read" s_Row_read ["cls", "text"]) : CMeth W 6 (cRow W) "read" (Pure (preRowRead W)) := by
  refine cmeth_pure A sc_Row_read (fun vs H R h => by obtain ⟨r, rfl, _⟩ := h; rfl) fun f cdv A outer s H vs R E hr h => ?_
  obtain ⟨r, rfl, hok, hsh, rfl⟩ := h
  have hlen := text_short hsh
  refine xs_try ?_
  refine xs_set (R := RowR W r) 2 (xe_callR (R1 := LstV (r.wordsOf.map V.str)) c1 hr (by
      have := split_text hok
      rw [← this]
      exact xe_split (xe_var 1 rfl) xe_str (by decide +kernel) (by omega)) fun v H1 s1 ⟨a, hv, ha⟩ => ⟨a, r, by rw [hv], ha, hok, hsh, rfl⟩) (fun v H1 s1 hv => ?_) sc_Row_read.nd
  refine xs_nil fun H2 s2 => ?_
  have hv2 := Mon.mono v _ _ s2 hv
  obtain ⟨a, dx, fs, rfl, ha, hf⟩ := id hv2
  refine xs_ifF (XW.t (xw_or (p := false) (q := false) (XT.cast (xt_isN (xe_var 2 rfl)) (decide_eq_false fun q => nomatch q)) fun _ => xw_or1 (XT.cast (xt_cmp op_ne (xe_strRow S hr B.str ((xe_var 2 rfl).is fun H3 s3 => Mon.mono _ _ _ s3 hv2) hsh) (xe_var 1 rfl) rv_neS (nomark _)) (by rw [decide_eq_true rfl]; rfl)))) ?_
  exact xs_ret (R := RowR W r) ((xe_var 2 rfl).is fun H3 s3 => Mon.mono _ _ _ s3 hv2) fun v H3 s3 q => ⟨(s1.trans s2).trans s3, q⟩
end
end LM

set_option maxHeartbeats 4000000
namespace LM
open PySem PySem.Spec PyProof.Rows L2
/-! ### kinds of rows -/
abbrev cTool (W : Wd) : Addr := He.ga W.K "Tool"
def InsTy (W : Wd) (C : Addr) : Prop := ∀ (H : Hp) (a dx : Addr) (fs : List (Str × V)), H a = some (.ins C dx fs) → TyX W.K H (.ref a) (.ref C)
def LR.isRun : LR → Bool
  | .run _ _ => true
  | _ => false
def LR.isLead : LR → Bool
  | .lead _ _ _ => true
  | _ => false
def LR.isJoin : LR → Bool
  | .join _ _ _ => true
  | _ => false
structure RowK (W : Wd) : Prop where
  ty : ∀ r : LR, InsTy W (r.cls W)
  row : ∀ r : LR, PySem.W.kitOne W.K (.ref (r.cls W)) (.ref (cRow W)) = some true
  run : ∀ r : LR, PySem.W.kitOne W.K (.ref (r.cls W)) (.ref (cRun W)) = some r.isRun
  lead : ∀ r : LR, PySem.W.kitOne W.K (.ref (r.cls W)) (.ref (cLead W)) = some r.isLead
  join : ∀ r : LR, PySem.W.kitOne W.K (.ref (r.cls W)) (.ref (cJoin W)) = some r.isJoin
  mRow : W.mg "Row" = some (.ref (cRow W))
  mRun : W.mg "Run" = some (.ref (cRun W))
  mLead : W.mg "Lead" = some (.ref (cLead W))
  mJoin : W.mg "Join" = some (.ref (cJoin W))
section
variable {X : Cx} {e : Expr} {σ : St} {H : Hp} {pos p p2 : Pos} {x : V} {r : LR} {nm : Str} {D : Addr} {b : Bool}
theorem xe_isOwn (B : Blt (wd X)) (hT : InsTy (wd X) (r.cls (wd X))) (hk : PySem.W.kitOne X.K (.ref (r.cls (wd X))) (.ref D) = some b) (hm : X.mg nm = some (.ref D)) (hx : XV X e σ H x) (hr : RowR (wd X) r x H) (hg : Gl X "isinstance" := by rfl) (hg2 : Gl X nm := by rfl) (hd : (nm == ("__debug__" : Str)) = false := by decide)
    (he : starEach [e, .Name nm p2] X.env = (false, eval e X.env) :: starEach [.Name nm p2] X.env := by rfl) (he2 : starEach [.Name nm p2] X.env = (false, eval (.Name nm p2) X.env) :: starEach [] X.env := by rfl) (hpl : (backTo pos (starEach [.Name nm p2] X.env)).any (·.1) = false := by rfl) :
    XV X (.Call (.Name "isinstance" p) [e, .Name nm p2] [] pos) σ H (.bl b) :=
  xe_isi B.isi hx (xe_globR hm hg2 hd) (.own D) (fun H1 s1 => by
    obtain ⟨a, dx, fs, rfl, ha, _⟩ := hr
    exact hT H1 a dx fs (s1 _ _ ha)) hk hg he he2 hpl
theorem xi_seqR {α : Type} {src : List α} {rel : α → VP} {tg : Expr} {a : Addr} {xs : List V} (h : XV X e σ H (.ref a)) (hq : LorT H a xs) (hr : AllR (src.map rel) xs H) (hm : ∀ a, Mon (rel a)) : XI X tg e σ H src.length (YR (src.map rel)) := by
  have hml : MonL (src.map rel) := by
    clear hr
    induction src with
    | nil => exact .nil
    | cons a r ih => exact .cons (hm a) ih
  rcases hq with hq | hq
  · exact XI.len (xi_list (h.is fun H2 e2 => ⟨a, xs, rfl, SqL.of (e2 _ _ hq), AllR.mono hml e2 hr⟩)) (by simp)
  · exact XI.len (xi_tup (h.is fun H2 e2 => ⟨a, xs, rfl, SqT.of (e2 _ _ hq), AllR.mono hml e2 hr⟩)) (by simp)
end
theorem monL_map {α : Type} {rel : α → VP} (hm : ∀ a, Mon (rel a)) : ∀ src : List α, MonL (src.map rel)
  | [] => .nil
  | a :: r => .cons (hm a) (monL_map hm r)
theorem rowsMono {W : Wd} {rs : List LR} {xs : List V} {H H' : Hp} (e : Same H H') (h : AllR (rs.map (RowR W)) xs H) : AllR (rs.map (RowR W)) xs H' := AllR.mono (monL_map (fun _ => inferInstance) rs) e h
section
variable {W : Wd}
/-! ### are_names, are_parts -/
def preNames : List V → Hp → VP → Prop := fun vs H R => ∃ (a : Addr) (ss : List Str), vs = [.ref a] ∧ LorT H a (ss.map V.str) ∧ (∀ x ∈ ss, x.length ≤ 100 ∧ isName x = true) ∧ ss.Nodup ∧ ss.length ≤ 1000 ∧ R = Is (.bl true)
theorem cal_are_names (B : Blt W) (c1 : Cal W 1 "is_sequence" (Pure preIsSeq)) (c2 : Cal W 1 "is_name" (Pure preIsName)) (c3 : Cal W 1 "are_unlike" (Pure preUnlike)) (A : DefAt W "are_names" s_are_names ["value"]) : Cal W 2 "are_names" (Pure preNames) := by
  refine cal_pure A sc_are_names (fun vs H R h => by obtain ⟨z, ts, rfl, _⟩ := h; rfl) fun f cdv A outer s H vs R E hr h => ?_
  obtain ⟨a, ss, rfl, hq, hn, hnd, hlen, rfl⟩ := h
  refine xs_ret (xe_and (p := true) (q := (ss.map isName).all id && true) (xe_call1 c1 hr (xe_var 0 rfl) fun H1 s1 => ⟨a, _, rfl, hq.mono s1, rfl⟩) fun _ =>
    xe_and (p := (ss.map isName).all id) (q := true) (xe_all B.all ?_) fun _ => xe_and1 (xe_call1 c3 hr (xe_var 0 rfl) fun H1 s1 => ⟨a, ss, rfl, hq.mono s1, hnd, by omega, rfl⟩)) fun v H1 s1 r => ⟨s1, ?_⟩
  · exact xe_lcBools (own := [("one", 1)]) (j := 1) (src := ss) (enc := V.str) (xe_var 0 rfl) hq.sq (by omega) sc_are_names.nd (blkOk_by (N := n_are_names) (sc := defScope s_are_names) (by decide +kernel))
      (fun _ _ _ _ _ => pg_name (i := 1) sc_are_names.nd rfl (Or.inl rfl)) fun x G' hx e1 s0 H0 C cl fp => xe_call1 c2 hr (xe_var 1 rfl) fun H1 _ => ⟨x, rfl, by have := (hn x hx).1; omega, rfl⟩
  · cases r
    rw [all_id_true fun x hx => (hn x hx).2]
    rfl
def preParts : List V → Hp → VP → Prop := fun vs H R => ∃ (a : Addr) (ss : List Str), vs = [.ref a] ∧ LorT H a (ss.map V.str) ∧ (∀ x ∈ ss, x ∈ lPARTS) ∧ ss.Nodup ∧ ("own" : Str) ∈ ss ∧ R = Is (.bl true)
theorem nodup_len {α : Type} [DecidableEq α] : ∀ {ss l : List α}, ss.Nodup → (∀ x ∈ ss, x ∈ l) → ss.length ≤ l.length
  | [], _, _, _ => Nat.zero_le _
  | a :: r, l, h, hs => by
    have ha : a ∈ l := hs a (by simp)
    have h2 := nodup_len (ss := r) (l := l.erase a) (List.nodup_cons.mp h).2 fun x hx => by
      have hne : x ≠ a := fun e => (List.nodup_cons.mp h).1 (by rw [← e]; exact hx)
      exact (List.mem_erase_of_ne hne).mpr (hs x (by simp [hx]))
    rw [List.length_erase_of_mem ha] at h2
    have : 0 < l.length := List.length_pos_of_mem ha
    rw [List.length_cons]
    omega
theorem cal_are_parts (B : Blt W) (C : Words W) (c1 : Cal W 1 "is_sequence" (Pure preIsSeq)) (c2 : Cal W 1 "is_word" (Pure (preIsWord (W := W)))) (c3 : Cal W 1 "are_unlike" (Pure preUnlike)) (A : DefAt W "are_parts" s_are_parts ["value"]) : Cal W 2 "are_parts" (Pure preParts) := by
  refine cal_pure A sc_are_parts (fun vs H R h => by obtain ⟨z, ts, rfl, _⟩ := h; rfl) fun f cdv A outer s H vs R E hr h => ?_
  obtain ⟨a, ss, rfl, hq, hn, hnd, hown, rfl⟩ := h
  obtain ⟨pa, hpa, hpq, _⟩ := C.parts.ex
  have hlen : ss.length ≤ 3 := nodup_len hnd hn
  refine xs_ifF (XT.cast (XW.t (xw_or (p := !true) (q := !((ss.map fun x => decide (x ∈ lPARTS)).all id)) (xt_not (xt_val (xe_call1 c1 hr (xe_var 0 rfl) fun H1 s1 => ⟨a, _, rfl, hq.mono s1, rfl⟩))) fun _ =>
    xw_or1 (xt_not (xt_val (xe_all B.all ?_))))) ?_) ?_
  · exact xe_lcBools (own := [("part", 1)]) (j := 1) (src := ss) (enc := V.str) (xe_var 0 rfl) hq.sq (by omega) sc_are_parts.nd (blkOk_by (N := n_are_parts) (sc := defScope s_are_parts) (by decide +kernel))
      (fun _ _ _ _ _ => pg_name (i := 1) sc_are_parts.nd rfl (Or.inl rfl)) fun x G' hx e1 s0 H0 C cl fp => xe_call2 c2 hr (xe_var 1 rfl) (xe_globR hpa) fun H1 _ => ⟨x, pa, lPARTS, rfl, fun _ _ => hpq _, rfl⟩
  · rw [all_id_true fun x hx => decide_eq_true (hn x hx)]
    rfl
  · refine xs_ret (xe_and (p := true) (q := decide (("own" : Str) ∈ ss)) (xe_call1 c3 hr (xe_var 0 rfl) fun H1 s1 => ⟨a, ss, rfl, hq.mono s1, hnd, by omega, rfl⟩) fun _ => xe_and1 (xe_cmp op_in_seq xe_str (xe_var 0 rfl) (rv_inS hq.sq) rfl)) fun v H1 s1 r => ⟨s1, ?_⟩
    cases r
    rw [decide_eq_true hown]
    rfl
/-! ### fault_of -/
def rowNames (r : LR) : VP := TupV (r.names.map V.str)
theorem xe_names {X : Cx} {e : Expr} {σ : St} {H : Hp} {pos : Pos} {x : V} {r : LR} (C : RowC (wd X)) (hx : XV X e σ H x) (hr : RowR (wd X) r x H) (hb : attributeBase e "names" X.env (eval e X.env) = eval e X.env := by rfl) : XE X (.Attribute e "names" pos) σ H (TupV (r.names.map V.str)) := by
  obtain ⟨a, dx, fs, rfl, ha, hf⟩ := hr
  cases r with
  | run o t =>
    obtain ⟨n, rfl, hn⟩ := hf
    exact (xe_fld (v := .ref n) hx ha C.clRun (C.nRun "names" (by simp)) rfl hb).is fun H2 e2 => ⟨n, rfl, e2 _ _ hn⟩
  | lead ts o t =>
    obtain ⟨q, n, rfl, hq, hn⟩ := hf
    exact (xe_fld (v := .ref n) hx ha C.clLead (C.nLead "names" (by simp)) rfl hb).is fun H2 e2 => ⟨n, rfl, e2 _ _ hn⟩
  | join a b t =>
    obtain ⟨n, rfl, hn⟩ := hf
    exact (xe_fld (v := .ref n) hx ha C.clJoin (C.nJoin "names" (by simp)) rfl hb).is fun H2 e2 => ⟨n, rfl, e2 _ _ hn⟩
theorem xi_tupV {X : Cx} {tg e : Expr} {σ : St} {H : Hp} {xs : List V} (h : XE X e σ H (TupV xs)) : XI X tg e σ H xs.length (YX xs) :=
  XI.of (pi_tup pe_s) fun H1 e1 R k => h.s e1 fun v H2 e2 ⟨a, hv, hq⟩ => ⟨a, hv, ⟨xs, SqT.of hq⟩, k _ H2 e2 (walk_tup.mono (fun H' e => SqT.of (e _ _ hq)) fun i H' x H'' _ _ y => y)⟩
def preFaultOf (W : Wd) : List V → Hp → VP → Prop := fun vs H R => ∃ (am at_ ap ar : Addr) (t : LT) (xs : List V), vs = [.ref am, .ref at_, .ref ap, .bl t.clears, .ref ar] ∧ LorT H am (t.marks.map V.str) ∧ LorT H at_ (t.told.map V.str) ∧ LorT H ap (t.parts.map V.str) ∧
  LorT H ar xs ∧ AllR (t.rows.map (RowR W)) xs H ∧ t.ok ∧ R = Is .non
theorem head_at {t : LT} (h : t.ok) : atI (t.marks.map V.str) 0 = some (.str t.blank) := by
  have := h.ne
  unfold LT.blank
  cases hm : t.marks with
  | nil => exact absurd hm this
  | cons a r => exact atI_nat (j := 0) rfl
theorem told_len {t : LT} (h : t.ok) : t.told.length ≤ 1000 := by
  have h1 := nodup_len h.toldNd h.told
  have h2 := h.few
  rw [List.length_drop] at h1
  omega
theorem names_len (r : LR) : r.names.length ≤ 3 := by
  unfold LR.names
  refine Nat.le_trans (List.length_filter_le _ _) ?_
  cases r <;> simp [LR.words]
theorem flat_len {α β : Type} {f : α → List β} {k : Nat} (h : ∀ a, (f a).length ≤ k) : ∀ l : List α, (l.flatMap f).length ≤ l.length * k
  | [] => by simp
  | a :: r => by
    have := flat_len h r
    have := h a
    rw [List.flatMap_cons, List.length_append, List.length_cons, Nat.succ_mul]
    omega
theorem lstR_bools {v : V} {H : Hp} {bs : List Bool} (h : LstR (bs.map fun b => Is (.bl b)) v H) : LstV (bs.map V.bl) v H := by
  have e : (bs.map fun b => Is (.bl b)) = (bs.map V.bl).map Is := by rw [List.map_map]; rfl
  rw [e] at h
  exact lstR_is h
theorem cal_fault_of (B : Blt W) (C : RowC W) (RK : RowK W) (c1 : Cal W 2 "are_names" (Pure preNames)) (c2 : Cal W 2 "are_parts" (Pure preParts)) (c3 : Cal W 1 "is_sequence" (Pure preIsSeq)) (A : DefAt W "fault_of" s_fault_of ["marks", "told", "parts", "clears", "rows"]) : Cal W 3 "fault_of" (Pure (preFaultOf W)) := by
  refine cal_pure A sc_fault_of (fun vs H R h => by obtain ⟨_, _, _, _, _, _, rfl, _⟩ := h; rfl) fun f cdv A outer s H vs R E hr h => ?_
  obtain ⟨am, at_, ap, ar, t, xs, rfl, hm, ht, hp, hrs, hrr, ok, rfl⟩ := h
  have hl1 := ok.few
  have hl2 := told_len ok
  have hl3 := ok.rowsFew
  have hlen : (t.marks.map V.str).length = t.marks.length := by simp
  refine xs_ifF (XW.t (xw_or (p := !true) (q := false) (xt_not (xt_val (xe_call1 c1 hr (xe_var 0 rfl) fun H1 s1 => ⟨am, t.marks, rfl, hm.mono s1, ok.names, ok.nd, ok.few, rfl⟩))) fun _ =>
    xw_or1 (XT.cast (xt_cmp (x := .int t.marks.length) (y := .int 0) op_eq (xe_lenL (x := .non) B.len (xe_var 0 rfl) fun v H1 s1 r => ⟨am, _, r, (hm.mono s1).sq, hlen⟩) xe_int rv_eqI (nomark _)) (decide_eq_false fun q => ok.ne (List.length_eq_zero_iff.mp (by omega)))))) ?_
  refine xs_ifF (XT.cast (XW.t (xw_or (p := !true) (q := !((t.told.map fun x => decide (x ∈ t.marks.drop 1)).all id)) (xt_not (xt_val (xe_call1 c1 hr (xe_var 1 rfl) fun H1 s1 => ⟨at_, t.told, rfl, ht.mono s1, fun x hx => ok.names x (List.mem_of_mem_drop (ok.told x hx)), ok.toldNd, hl2, rfl⟩))) fun _ =>
    xw_or1 (xt_not (xt_val (xe_all B.all ?_))))) ?_) ?_
  · exact xe_lcBools (own := [("mark", 7)]) (j := 7) (src := t.told) (enc := V.str) (xe_var 1 rfl) ht.sq (by omega) sc_fault_of.nd (blkOk_by (N := n_fault_of) (sc := defScope s_fault_of) (by decide +kernel))
      (fun _ _ _ _ _ => pg_name (i := 7) sc_fault_of.nd rfl (Or.inl rfl)) fun x G' hx e1 s0 H0 C cl fp => xe_cmpR (Ra := Is (.str x)) (Rb := SeqV W.K ((t.marks.drop 1).map V.str)) op_in_seq (xe_var 7 rfl) (by
        rw [List.map_drop, ← cutV_from]
        exact xe_sliceLT (xe_var 0 rfl) (hm.mono e1).sq (.some xe_int) .none) (fun u y H1 _ hu hy => by
          cases hu
          obtain ⟨b, rfl, hb⟩ := hy
          exact rv_inS hb) rfl
  · rw [all_id_true fun x hx => decide_eq_true (ok.told x hx)]
    rfl
  refine xs_ifF (xt_not (xt_val (p := true) (xe_call1 c2 hr (xe_var 2 rfl) fun H1 s1 => ⟨ap, t.parts, rfl, hp.mono s1, ok.parts, ok.partsNd, ok.own, rfl⟩))) ?_
  refine xs_ifF (xt_not (xt_val (p := true) (xe_isi (t := .type "bool") (u := .type "bool") (b := true) B.isi (xe_var 3 rfl) (xe_ty B.bool (by decide +kernel)) (.ty "bool") (fun _ _ => .base (.bl _)) (kit_ty (by decide +kernel))))) ?_
  refine xs_ifF (XT.cast (XW.t (xw_or (p := !true) (q := !((t.rows.map fun _ => true).all id)) (xt_not (xt_val (xe_call1 c3 hr (xe_var 4 rfl) fun H1 s1 => ⟨ar, _, rfl, hrs.mono s1, rfl⟩))) fun _ =>
    xw_or1 (xt_not (xt_val (xe_all B.all (XE.bools (g := fun _ : LR => true) (xe_lcS (own := [("row", 5)]) (j := 5) (src := t.rows) (rel := RowR W) (xi_seqR (xe_var 4 rfl) hrs hrr fun _ => inferInstance) (fun _ _ _ _ _ _ => ys_R _ _ _ _ _) (fun _ => inferInstance) (fun _ => inferInstance)
      (by omega) sc_fault_of.nd (blkOk_by (N := n_fault_of) (sc := defScope s_fault_of) (by decide +kernel)) (fun _ _ _ _ _ => pg_name (i := 5) sc_fault_of.nd rfl (Or.inl rfl)) fun r x G' hr' e1 hx => ⟨rfl, fun _ s0 H0 C cl fp => xe_isOwn (r := r) B (RK.ty r) (RK.row r) RK.mRow (xe_var 5 rfl) hx⟩))))))) (by
        rw [all_id_true fun _ _ => rfl]; rfl)) ?_
  refine xs_ifF (XT.cast (xt_not (xt_val (xe_all (bs := t.rows.flatMap fun r => r.names.map fun _ => true) B.all ?_))) ?_) ?_
  · refine XE.imp (xe_lc2 (own := [("row", 5), ("name", 6)]) (vs1 := [6]) (j1 := 6) (src := t.rows) (rel := RowR W) (src2 := LR.names) (rel2 := fun _ z => Is (.str z)) (Y2 := fun r => YX (r.names.map V.str)) (ff := fun _ _ => Is (.bl true)) (g := gName 5)
      (xi_seqR (xe_var 4 rfl) hrs hrr fun _ => inferInstance) (fun _ _ _ _ _ _ => ys_R _ _ _ _ _) (fun _ => inferInstance) (fun r _ _ _ _ _ _ => ys_X V.str _ _ _ _ _) (fun _ _ => inferInstance) (fun _ _ => inferInstance)
      (Nat.le_trans (flat_len names_len t.rows) (by omega)) sc_fault_of.nd (blkOk_by (N := n_fault_of) (sc := defScope s_fault_of) (by decide +kernel)) (by simp) (fun _ _ _ _ _ => pg_name (i := 5) sc_fault_of.nd rfl (Or.inl rfl)) gmon_name (fun _ _ _ _ _ => pg_name (i := 6) sc_fault_of.nd rfl (Or.inl rfl))
      fun r x G' D ys hr' e1 hx hD => ⟨rfl, rfl, fun s0 H0 C' cl fp => XI.len (xi_tupV (xe_names C (xe_var 5 rfl) hx)) (by simp), fun _ => rfl, fun z y G4 hz e4 hy s0 H0 C' cl fp => ?_⟩) fun v H2 _ h => ?_
    · cases hy
      exact XE.cast (xe_cmp op_in_seq (xe_var 6 rfl) (xe_var 0 rfl) (rv_inS ((hm.mono e1).mono e4).sq) rfl) (by rw [decide_eq_true (ok.inM r hr' z hz)])
    · refine lstR_bools ?_
      have e : (t.rows.flatMap fun r => r.names.map fun _ => Is (.bl true)) = (t.rows.flatMap fun r => r.names.map fun _ => true).map fun b => Is (.bl b) := by
        rw [List.map_flatMap]
        congr 1
        funext r
        rw [List.map_map]
        rfl
      rw [← e]
      exact h
  · have : (t.rows.flatMap fun r => r.names.map fun _ => true).all id = true := by
      refine List.all_eq_true.mpr fun b hb => ?_
      obtain ⟨r, _, h2⟩ := List.mem_flatMap.mp hb
      obtain ⟨_, _, rfl⟩ := List.mem_map.mp h2
      rfl
    rw [this]; rfl
  refine xs_ret (xe_if (R := Is .non) (p := false) (XT.cast (xt_val (xe_any B.any (XE.bools (g := isLeadB t.blank) (xe_lcS (own := [("row", 5)]) (j := 5) (src := t.rows) (rel := RowR W) (xi_seqR (xe_var 4 rfl) hrs hrr fun _ => inferInstance) (fun _ _ _ _ _ _ => ys_R _ _ _ _ _) (fun _ => inferInstance) (fun _ => inferInstance)
      (by omega) sc_fault_of.nd (blkOk_by (N := n_fault_of) (sc := defScope s_fault_of) (by decide +kernel)) (fun _ _ _ _ _ => pg_name (i := 5) sc_fault_of.nd rfl (Or.inl rfl)) fun r x G' hr' e1 hx => ⟨rfl, fun _ s0 H0 Cc cl fp => ?_⟩)))) ?_) (fun q => nomatch q) fun _ => xe_non) fun v H1 s1 r => ⟨s1, r⟩
  · cases r with
    | lead ts o th =>
      obtain ⟨a, dx, fs, rfl, ha, q, n, rfl, hq, hn⟩ := id hx
      exact XE.cast (xe_and (p := true) (q := decide (o = t.blank)) (xe_isOwn (r := .lead ts o th) B (RK.ty _) (RK.lead _) RK.mLead (xe_var 5 rfl) hx) fun _ => xe_and1 (xe_cmp op_eq (xe_fld (v := .str o) (xe_var 5 rfl) ha C.clLead (C.nLead "old" (by simp)) rfl) (xe_ixLT (xe_var 0 rfl) xe_int (hm.mono e1).sq (head_at ok)) rv_eqS (nomark _))) rfl
    | run o th => exact XE.cast (xe_and (p := false) (q := false) (xe_isOwn (r := .run o th) B (RK.ty _) (RK.lead _) RK.mLead (xe_var 5 rfl) hx) fun q => nomatch q) rfl
    | join h o th => exact XE.cast (xe_and (p := false) (q := false) (xe_isOwn (r := .join h o th) B (RK.ty _) (RK.lead _) RK.mLead (xe_var 5 rfl) hx) fun q => nomatch q) rfl
  · rw [List.any_map]
    refine List.any_eq_false.mpr fun r hr' => ?_
    show ¬ (isLeadB t.blank r = true)
    rw [ok.blank r hr']
    exact Bool.false_ne_true
end
end LM

set_option maxHeartbeats 4000000
namespace LM
open PySem PySem.Spec PyProof.Rows L2
/-! ### tools -/
def LT.norm (t : LT) : LT := { t with told := t.marks.filter fun m => decide (m ∈ t.told), parts := lPARTS.filter fun p => decide (p ∈ t.parts) }
def toolFs (am at_ ap : Addr) (c : Bool) (ar : Addr) (b : Str) : List (Str × V) := [("marks", .ref am), ("told", .ref at_), ("parts", .ref ap), ("clears", .bl c), ("rows", .ref ar), ("blank", .str b)]
def ToolF (W : Wd) (t : LT) (fs : List (Str × V)) (H : Hp) : Prop := ∃ (am at_ ap ar : Addr) (xs : List V), fs = toolFs am at_ ap t.clears ar t.blank ∧
  H am = some (.tup (t.marks.map V.str)) ∧ H at_ = some (.tup (t.told.map V.str)) ∧ H ap = some (.tup (t.parts.map V.str)) ∧ H ar = some (.tup xs) ∧ AllR (t.rows.map (RowR W)) xs H
theorem ToolF.mono {W : Wd} {t : LT} {fs : List (Str × V)} {H H' : Hp} (e : Same H H') : ToolF W t fs H → ToolF W t fs H'
  | ⟨am, at_, ap, ar, xs, h0, h1, h2, h3, h4, h5⟩ => ⟨am, at_, ap, ar, xs, h0, e _ _ h1, e _ _ h2, e _ _ h3, e _ _ h4, rowsMono e h5⟩
def ToolA (W : Wd) (t : LT) (a : Addr) (H : Hp) : Prop := ∃ dx fs, H a = some (.ins (cTool W) dx fs) ∧ ToolF W t fs H
theorem ToolA.mono {W : Wd} {t : LT} {a : Addr} {H H' : Hp} (e : Same H H') : ToolA W t a H → ToolA W t a H'
  | ⟨dx, fs, h1, h2⟩ => ⟨dx, fs, e _ _ h1, h2.mono e⟩
def ToolR (W : Wd) (t : LT) : VP := InsR (cTool W) (ToolF W t)
instance (W : Wd) (t : LT) : Mon (ToolR W t) := ⟨fun v H H' e ⟨a, dx, fs, h1, h2, h3⟩ => ⟨a, dx, fs, h1, e _ _ h2, h3.mono e⟩⟩
theorem toolR_iff {W : Wd} {t : LT} {v : V} {H : Hp} : ToolR W t v H ↔ ∃ a, v = .ref a ∧ ToolA W t a H :=
  ⟨fun ⟨a, dx, fs, h1, h2, h3⟩ => ⟨a, h1, dx, fs, h2, h3⟩, fun ⟨a, h1, dx, fs, h2, h3⟩ => ⟨a, dx, fs, h1, h2, h3⟩⟩
structure ToolC (W : Wd) : Prop where
  cl : Cls W.K (cTool W)
  na : ∀ f ∈ (["marks", "told", "parts", "clears", "rows", "blank"] : List Str), NoAttr W.K (cTool W) f
  ty : InsTy W (cTool W)
  mTool : W.mg "Tool" = some (.ref (cTool W))
section
variable {X : Cx} {e o e1 e2 : Expr} {σ : St} {H : Hp} {pos apos : Pos} {t : LT} {a : Addr}
theorem xe_toolF {f : Str} {v : V} (C : ToolC (wd X)) (ho : XV X e σ H (.ref a)) (ht : ToolA (wd X) t a H) (hf : f ∈ (["marks", "told", "parts", "clears", "rows", "blank"] : List Str)) {am at_ ap ar : Addr} {dx : Addr} (hi : H a = some (.ins (cTool (wd X)) dx (toolFs am at_ ap t.clears ar t.blank)))
    (hv : (toolFs am at_ ap t.clears ar t.blank).lookup f = some v) (hb : attributeBase e f X.env (eval e X.env) = eval e X.env := by rfl) : XV X (.Attribute e f pos) σ H v :=
  xe_fld ho hi C.cl (C.na f hf) hv hb
theorem xe_marks (C : ToolC (wd X)) (ho : XV X e σ H (.ref a)) (ht : ToolA (wd X) t a H) (hb : attributeBase e "marks" X.env (eval e X.env) = eval e X.env := by rfl) : XE X (.Attribute e "marks" pos) σ H (TupV (t.marks.map V.str)) := by
  obtain ⟨dx, fs, hi, am, at_, ap, ar, xs, rfl, h1, h2, h3, h4, h5⟩ := id ht
  exact (xe_toolF (v := .ref am) C ho ht (by simp) hi rfl hb).is fun H2 e2 => ⟨am, rfl, e2 _ _ h1⟩
theorem xe_told (C : ToolC (wd X)) (ho : XV X e σ H (.ref a)) (ht : ToolA (wd X) t a H) (hb : attributeBase e "told" X.env (eval e X.env) = eval e X.env := by rfl) : XE X (.Attribute e "told" pos) σ H (TupV (t.told.map V.str)) := by
  obtain ⟨dx, fs, hi, am, at_, ap, ar, xs, rfl, h1, h2, h3, h4, h5⟩ := id ht
  exact (xe_toolF (v := .ref at_) C ho ht (by simp) hi rfl hb).is fun H2 e2 => ⟨at_, rfl, e2 _ _ h2⟩
theorem xe_parts (C : ToolC (wd X)) (ho : XV X e σ H (.ref a)) (ht : ToolA (wd X) t a H) (hb : attributeBase e "parts" X.env (eval e X.env) = eval e X.env := by rfl) : XE X (.Attribute e "parts" pos) σ H (TupV (t.parts.map V.str)) := by
  obtain ⟨dx, fs, hi, am, at_, ap, ar, xs, rfl, h1, h2, h3, h4, h5⟩ := id ht
  exact (xe_toolF (v := .ref ap) C ho ht (by simp) hi rfl hb).is fun H2 e2 => ⟨ap, rfl, e2 _ _ h3⟩
theorem xe_clears (C : ToolC (wd X)) (ho : XV X e σ H (.ref a)) (ht : ToolA (wd X) t a H) (hb : attributeBase e "clears" X.env (eval e X.env) = eval e X.env := by rfl) : XV X (.Attribute e "clears" pos) σ H (.bl t.clears) := by
  obtain ⟨dx, fs, hi, am, at_, ap, ar, xs, rfl, h1, h2, h3, h4, h5⟩ := id ht
  exact xe_toolF C ho ht (by simp) hi rfl hb
theorem xe_blank (C : ToolC (wd X)) (ho : XV X e σ H (.ref a)) (ht : ToolA (wd X) t a H) (hb : attributeBase e "blank" X.env (eval e X.env) = eval e X.env := by rfl) : XV X (.Attribute e "blank" pos) σ H (.str t.blank) := by
  obtain ⟨dx, fs, hi, am, at_, ap, ar, xs, rfl, h1, h2, h3, h4, h5⟩ := id ht
  exact xe_toolF C ho ht (by simp) hi rfl hb
theorem xe_rows (C : ToolC (wd X)) (ho : XV X e σ H (.ref a)) (ht : ToolA (wd X) t a H) (hb : attributeBase e "rows" X.env (eval e X.env) = eval e X.env := by rfl) : XE X (.Attribute e "rows" pos) σ H (TupR (t.rows.map (RowR (wd X)))) := by
  obtain ⟨dx, fs, hi, am, at_, ap, ar, xs, rfl, h1, h2, h3, h4, h5⟩ := id ht
  exact (xe_toolF (v := .ref ar) C ho ht (by simp) hi rfl hb).is fun H2 e2 => ⟨ar, xs, rfl, e2 _ _ h4, rowsMono e2 h5⟩
/-- rows as an exact tuple -/
theorem xe_rowsV (C : ToolC (wd X)) (ht : ToolA (wd X) t a H) : ∃ ar xs, H ar = some (.tup xs) ∧ AllR (t.rows.map (RowR (wd X))) xs H ∧ ∀ {X' : Cx} (_ : wd X' = wd X) {σ : St} {e : Expr} {pos : Pos} {H2 : Hp}, Same H H2 → XV X' e σ H2 (.ref a) → (attributeBase e "rows" X'.env (eval e X'.env) = eval e X'.env) → XV X' (.Attribute e "rows" pos) σ H2 (.ref ar) := by
  obtain ⟨dx, fs, hi, am, at_, ap, ar, xs, rfl, h1, h2, h3, h4, h5⟩ := id ht
  refine ⟨ar, xs, h4, h5, fun {X'} hX {σ e pos H2} s ho hb => ?_⟩
  have C' : ToolC (wd X') := by rw [hX]; exact C
  have hK : cTool (wd X') = cTool (wd X) := by rw [hX]
  exact xe_fld (C := cTool (wd X')) (v := .ref ar) ho (by rw [hK]; exact s _ _ hi) C'.cl (C'.na "rows" (by simp)) rfl hb
/-- a method of a tool -/
theorem xe_tool1 {k j : Nat} {m : Str} {pre : List V → Hp → VP → Prop} {x1 : V} {R : VP} {pl : Sem Bool} (c : Met (wd X) k (cTool (wd X)) m (Pure pre)) (hr : Room j X.A) (ho : XV X o σ H (.ref a)) (ht : ToolA (wd X) t a H) (h1 : XV X e1 σ H x1)
    (hp : ∀ H1, Same H H1 → ToolA (wd X) t a H1 → pre [.ref a, x1] H1 R) (hk : k ≤ j := by decide) (hn : ∀ am at_ ap c ar b, (toolFs am at_ ap c ar b).lookup m = none := by intros; rfl)
    (hst : starEach [e1] X.env = (false, eval e1 X.env) :: starEach [] X.env := by rfl) (hpl : (backTo pos (starEach [] X.env)).any (·.1) = false := by rfl)
    (hq : eval (.Call (.Attribute o m apos) [e1] [] pos) X.env = (do
      let ov ← eval o X.env
      standAt apos.atName
      let (f, first) ← holding [ov] (getMethod ov m pl)
      callWith pos f first (backTo pos (starEach [e1] X.env)) (backToKw pos (keywordEach [] X.env))) := by rfl) : XE X (.Call (.Attribute o m apos) [e1] [] pos) σ H R := by
  obtain ⟨dx, fs, hi, am, at_, ap, ar, xs, rfl, hh⟩ := id ht
  exact xe_meth1 c hr ho hi (hn _ _ _ _ _ _) h1 (fun H1 s => hp H1 s (ht.mono s)) hk hst hpl hq
theorem xe_tool2 {k j : Nat} {m : Str} {pre : List V → Hp → VP → Prop} {x1 x2 : V} {R : VP} {pl : Sem Bool} (c : Met (wd X) k (cTool (wd X)) m (Pure pre)) (hr : Room j X.A) (ho : XV X o σ H (.ref a)) (ht : ToolA (wd X) t a H) (h1 : XV X e1 σ H x1) (h2 : XV X e2 σ H x2)
    (hp : ∀ H1, Same H H1 → ToolA (wd X) t a H1 → pre [.ref a, x1, x2] H1 R) (hk : k ≤ j := by decide) (hn : ∀ am at_ ap c ar b, (toolFs am at_ ap c ar b).lookup m = none := by intros; rfl)
    (hst : starEach [e1, e2] X.env = (false, eval e1 X.env) :: starEach [e2] X.env := by rfl) (hst2 : starEach [e2] X.env = (false, eval e2 X.env) :: starEach [] X.env := by rfl) (hpl : (backTo pos (starEach [e2] X.env)).any (·.1) = false := by rfl)
    (hq : eval (.Call (.Attribute o m apos) [e1, e2] [] pos) X.env = (do
      let ov ← eval o X.env
      standAt apos.atName
      let (f, first) ← holding [ov] (getMethod ov m pl)
      callWith pos f first (backTo pos (starEach [e1, e2] X.env)) (backToKw pos (keywordEach [] X.env))) := by rfl) : XE X (.Call (.Attribute o m apos) [e1, e2] [] pos) σ H R := by
  obtain ⟨dx, fs, hi, am, at_, ap, ar, xs, rfl, hh⟩ := id ht
  exact xe_meth2 c hr ho hi (hn _ _ _ _ _ _) h1 h2 (fun H1 s => hp H1 s (ht.mono s)) hk hst hst2 hpl hq
end
theorem keepU {H : Hp} {y n C dx : Addr} {fs : List (Str × V)} {o u : HO} (hy : H y = some (.ins C dx fs)) (h : H n = some o) (ho : ∀ C dx fs, o ≠ .ins C dx fs) : upd H y u n = some o := by
  rw [upd_ne (ne_ins hy h ho)]; exact h
theorem ntup {xs : List V} : ∀ C dx fs, HO.tup xs ≠ .ins C dx fs := fun _ _ _ z => nomatch z
section
variable {W : Wd}
def preTool (W : Wd) : List V → Hp → (List (Str × V) → Hp → Prop) → Prop := fun as H F => ∃ (am at_ ap ar : Addr) (t : LT) (xs : List V), as = [.ref am, .ref at_, .ref ap, .bl t.clears, .ref ar] ∧ LorT H am (t.marks.map V.str) ∧ LorT H at_ (t.told.map V.str) ∧ LorT H ap (t.parts.map V.str) ∧
  LorT H ar xs ∧ AllR (t.rows.map (RowR W)) xs H ∧ t.ok ∧ F = ToolF W t.norm
theorem mak_tool (B : Blt W) (Wo : Words W) (C : ToolC W) (c1 : Cal W 3 "fault_of" (Pure (preFaultOf W))) (A : MakAt W "Tool" (cTool W) "Tool.__init__" s_Tool_init ["self", "marks", "told", "parts", "clears", "rows"]) : Mak W 4 "Tool" (cTool W) (Init (cTool W) (preTool W)) := by
  refine mak_init A sc_Tool_init (fun as H F h => by obtain ⟨_, _, _, _, _, _, rfl, _⟩ := h; rfl) fun f cdv A outer s H G y dx as F E hr g0 sg hy h => ?_
  obtain ⟨am, at_, ap, ar, t, xs, rfl, hm, ht, hp, hrs, hrr, ok, rfl⟩ := h
  obtain ⟨pa, hpa, hpq, _⟩ := Wo.parts.ex
  have hl1 := ok.few
  have hm := hm.mono sg
  have ht := ht.mono sg
  have hp := hp.mono sg
  have hrs := hrs.mono sg
  refine xs_setv 6 (v := .non) (xe_call (Rs := [Is (.ref am), Is (.ref at_), Is (.ref ap), Is (.bl t.clears), Is (.ref ar)]) c1 hr (xa_cons (xe_var 1 rfl) (xa_cons (xe_var 2 rfl) (xa_cons (xe_var 3 rfl) (xa_cons (xe_var 4 rfl) (xa_cons (xe_var 5 rfl) xa_nil))))) fun vs H1 s1 hv => ?_) ?_ sc_Tool_init.nd
  · match vs, hv with
    | [v1, v2, v3, v4, v5], hv =>
      cases hv.1; cases hv.2.1; cases hv.2.2.1; cases hv.2.2.2.1; cases hv.2.2.2.2.1
      exact ⟨am, at_, ap, ar, t, xs, rfl, hm.mono s1, ht.mono s1, hp.mono s1, hrs.mono s1, rowsMono (sg.trans s1) hrr, ok, rfl⟩
  refine xs_ifF (XT.cast (xt_notN (xe_var 6 rfl)) rfl) ?_
  refine xs_fld (R := TupV (t.marks.map V.str)) (xe_var 0 rfl) (xe_tupleLT B.tuple (xe_var 1 rfl) hm) hy C.cl (C.na "marks" (by simp)) (by decide) fun v H1 s1 r => ?_
  obtain ⟨q1, rfl, k1⟩ := r
  have e1 := mutS (o := .ins (cTool W) dx (putF "marks" (.ref q1) [])) (sg.trans s1) g0
  have k1 := keepU (u := .ins (cTool W) dx (putF "marks" (.ref q1) [])) (s1 _ _ hy) k1 ntup
  have hm1 : LorT _ am (t.marks.map V.str) := LorT.mono (H := G) (by assumption) e1
  have ht1 : LorT _ at_ (t.told.map V.str) := LorT.mono (H := G) (by assumption) e1
  refine xs_fld (R := TupV (t.norm.told.map V.str)) (xe_var 0 rfl) (xe_tupleL B.tuple (xe_lcKeep (own := [("mark", 7)]) (j := 7) (src := t.marks) (enc := V.str) (pp := fun m => decide (m ∈ t.told)) (xe_var 1 rfl) hm1.sq (by omega) sc_Tool_init.nd (blkOk_by (N := n_Tool_init) (sc := defScope s_Tool_init) (by decide +kernel))
      (fun _ _ _ _ _ => pg_name (i := 7) sc_Tool_init.nd rfl (Or.inl rfl)) (fun _ _ _ _ _ _ _ => xe_var 7 rfl) fun x G' hx' e1 s0 H0 C cl fp => xt_cmp op_in_seq (xe_var 7 rfl) (xe_var 2 rfl) (rv_inS (ht1.mono e1).sq) rfl)) upd_same C.cl (C.na "told" (by simp)) (by show 1 < 1000; decide) fun v H2 s2 r => ?_
  obtain ⟨q2, rfl, k2⟩ := r
  have y1 := s2 _ _ (upd_same (H := H1) (a := y) (o := .ins (cTool W) dx (putF "marks" (.ref q1) [])))
  have e2 := mutS (o := .ins (cTool W) dx (putF "told" (.ref q2) (putF "marks" (.ref q1) []))) (e1.trans s2) g0
  have k1 := keepU (u := .ins (cTool W) dx (putF "told" (.ref q2) (putF "marks" (.ref q1) []))) y1 (s2 _ _ k1) ntup
  have k2 := keepU (u := .ins (cTool W) dx (putF "told" (.ref q2) (putF "marks" (.ref q1) []))) y1 k2 ntup
  have hp2 : LorT _ ap (t.parts.map V.str) := LorT.mono (H := G) (by assumption) e2
  refine xs_fld (R := TupV (t.norm.parts.map V.str)) (xe_var 0 rfl) (xe_tupleL B.tuple (xe_lcKeep (own := [("part", 8)]) (j := 8) (src := lPARTS) (enc := V.str) (pp := fun m => decide (m ∈ t.parts)) (xe_globR hpa) (.inr (hpq _)) (by decide) sc_Tool_init.nd (blkOk_by (N := n_Tool_init) (sc := defScope s_Tool_init) (by decide +kernel))
      (fun _ _ _ _ _ => pg_name (i := 8) sc_Tool_init.nd rfl (Or.inl rfl)) (fun _ _ _ _ _ _ _ => xe_var 8 rfl) fun x G' hx' e1 s0 H0 C cl fp => xt_cmp op_in_seq (xe_var 8 rfl) (xe_var 3 rfl) (rv_inS (hp2.mono e1).sq) rfl)) upd_same C.cl (C.na "parts" (by simp)) (by show 2 < 1000; decide) fun v H3 s3 r => ?_
  obtain ⟨q3, rfl, k3⟩ := r
  have y2 := s3 _ _ (upd_same (H := H2) (a := y) (o := .ins (cTool W) dx (putF "told" (.ref q2) (putF "marks" (.ref q1) []))))
  let o3 : HO := .ins (cTool W) dx (putF "parts" (.ref q3) (putF "told" (.ref q2) (putF "marks" (.ref q1) [])))
  have e3 := mutS (o := o3) (e2.trans s3) g0
  have k1 := keepU (u := o3) y2 (s3 _ _ k1) ntup
  have k2 := keepU (u := o3) y2 (s3 _ _ k2) ntup
  have k3 := keepU (u := o3) y2 k3 ntup
  refine xs_fld (R := Is (.bl t.clears)) (xe_var 0 rfl) (xe_var 4 rfl) upd_same C.cl (C.na "clears" (by simp)) (by show 3 < 1000; decide) fun v H4 s4 r => ?_
  cases r
  have y3 := s4 _ _ (upd_same (H := H3) (a := y) (o := o3))
  let o4 : HO := .ins (cTool W) dx (putF "clears" (.bl t.clears) (putF "parts" (.ref q3) (putF "told" (.ref q2) (putF "marks" (.ref q1) []))))
  have e4 := mutS (o := o4) (e3.trans s4) g0
  have k1 := keepU (u := o4) y3 (s4 _ _ k1) ntup
  have k2 := keepU (u := o4) y3 (s4 _ _ k2) ntup
  have k3 := keepU (u := o4) y3 (s4 _ _ k3) ntup
  have hr4 : LorT _ ar xs := LorT.mono (H := G) (by assumption) e4
  refine xs_fld (R := TupV xs) (xe_var 0 rfl) (xe_tupleLT B.tuple (xe_var 5 rfl) hr4) upd_same C.cl (C.na "rows" (by simp)) (by show 4 < 1000; decide) fun v H5 s5 r => ?_
  obtain ⟨q5, rfl, k5⟩ := r
  have y4 := s5 _ _ (upd_same (H := H4) (a := y) (o := o4))
  let o5 : HO := .ins (cTool W) dx (putF "rows" (.ref q5) (putF "clears" (.bl t.clears) (putF "parts" (.ref q3) (putF "told" (.ref q2) (putF "marks" (.ref q1) [])))))
  have e5 := mutS (o := o5) (e4.trans s5) g0
  have k1 := keepU (u := o5) y4 (s5 _ _ k1) ntup
  have k2 := keepU (u := o5) y4 (s5 _ _ k2) ntup
  have k3 := keepU (u := o5) y4 (s5 _ _ k3) ntup
  have k5 := keepU (u := o5) y4 k5 ntup
  refine xs_fld (R := Is (.str t.blank)) (xe_var 0 rfl) (xe_ixT (xe_fld (v := .ref q1) (xe_var 0 rfl) upd_same C.cl (C.na "marks" (by simp)) rfl) xe_int (SqT.of k1) (head_at ok)) upd_same C.cl (C.na "blank" (by simp)) (by show 5 < 1000; decide) fun v H6 s6 r => ?_
  cases r
  have y5 := s6 _ _ (upd_same (H := H5) (a := y) (o := o5))
  let o6 : HO := .ins (cTool W) dx (putF "blank" (.str t.blank) (putF "rows" (.ref q5) (putF "clears" (.bl t.clears) (putF "parts" (.ref q3) (putF "told" (.ref q2) (putF "marks" (.ref q1) []))))))
  have e6 := mutS (o := o6) (e5.trans s6) g0
  have k1 := keepU (u := o6) y5 (s6 _ _ k1) ntup
  have k2 := keepU (u := o6) y5 (s6 _ _ k2) ntup
  have k3 := keepU (u := o6) y5 (s6 _ _ k3) ntup
  have k5 := keepU (u := o6) y5 (s6 _ _ k5) ntup
  exact xs_nil fun H7 s7 => ⟨e6.trans s7, _, s7 _ _ upd_same, q1, q2, q3, q5, xs, rfl, s7 _ _ k1, s7 _ _ k2, s7 _ _ k3, s7 _ _ k5, rowsMono (e6.trans s7) hrr⟩
end
end LM

set_option maxHeartbeats 4000000
namespace LM
open PySem PySem.Spec PyProof.Rows L2
/-! ### patterns -/
def patV (p : Pat) : List V := [.bl p.1, .bl p.2.1, .bl p.2.2]
def patIx (q : Str) : Nat := if q = "above" then 0 else if q = "own" then 1 else 2
theorem part_cases {q : Str} (h : q ∈ lPARTS) : q = "above" ∨ q = "below" ∨ q = "own" := by simpa [lPARTS] using h
theorem patIx_ok {q : Str} (h : q ∈ lPARTS) (p : Pat) : lORDER[patIx q]? = some q ∧ (∀ m, m < patIx q → lORDER[m]? ≠ some q) ∧ (patV p)[patIx q]? = some (.bl (patAt p q)) := by
  have d1 : ("below" : Str) ≠ "above" := by decide +kernel
  have d2 : ("own" : Str) ≠ "above" := by decide +kernel
  have d3 : ("below" : Str) ≠ "own" := by decide +kernel
  rcases part_cases h with rfl | rfl | rfl
  · have e : patIx "above" = 0 := by decide +kernel
    refine ⟨by decide +kernel, fun m hm => by omega, ?_⟩
    rw [e]
    unfold patAt
    rw [if_pos rfl]
    rfl
  · have e : patIx "below" = 2 := by decide +kernel
    have : ∀ m, m < 2 → lORDER[m]? ≠ some ("below" : Str) := by decide +kernel
    refine ⟨by decide +kernel, by rw [e]; exact this, ?_⟩
    rw [e]
    unfold patAt
    rw [if_neg d1, if_neg d3]
    rfl
  · have e : patIx "own" = 1 := by decide +kernel
    have : ∀ m, m < 1 → lORDER[m]? ≠ some ("own" : Str) := by decide +kernel
    refine ⟨by decide +kernel, by rw [e]; exact this, ?_⟩
    rw [e]
    unfold patAt
    rw [if_neg d2, if_pos rfl]
    rfl
section
variable {W : Wd}
def preHolds (W : Wd) : List V → Hp → VP → Prop := fun vs H R => ∃ (z : Str) (a : Addr) (p : Pat), vs = [.str z, .ref a] ∧ z ∈ lTESTS ∧ SqT W.K H a (patV p) ∧ R = Is (.bl (holdsT p z))
theorem xe_patAt {X : Cx} (Wo : Words (wd X)) {e1 e2 : Expr} {σ : St} {H : Hp} {pos p0 p1 p2 : Pos} {a : Addr} {p : Pat} {q : Str} (h1 : XV X e1 σ H (.ref a)) (hq : SqT X.K H a (patV p)) (h2 : XV X e2 σ H (.str q)) (hp : q ∈ lPARTS) (hg : Gl X "ORDER" := by rfl)
    (hbase : attributeBase (.Name "ORDER" p0) "index" X.env (eval (.Name "ORDER" p0) X.env) = eval (.Name "ORDER" p0) X.env := by rfl)
    (hfew : ((backTo p2 (starEach [e2] X.env)).all (fun x => !x.1) && (backToKw p2 (keywordEach [] X.env)).all (fun x => x.1.isSome)
      && decide ([e2].length + ([] : List Keyword).length + (if ([] : List Keyword).isEmpty then 0 else 1) < 30)) = true := by rfl)
    (hline : (p1.endLine == p2.line) = true := by rfl) (hs1 : starEach [e2] X.env = (false, eval e2 X.env) :: starEach [] X.env := by rfl) (hplain : (backTo p2 (starEach [] X.env)).any (·.1) = false := by rfl) :
    XV X (.Subscript e1 (.Call (.Attribute (.Name "ORDER" p0) "index" p1) [e2] [] p2) pos) σ H (.bl (patAt p q)) := by
  obtain ⟨oa, hoa, hoq, hok⟩ := Wo.order.ex
  obtain ⟨i1, i2, i3⟩ := patIx_ok hp p
  exact xe_ixT h1 (xe_tupIndex (xe_globR hoa hg) h2 (hoq _) hok i1 i2 hbase hfew hline hs1 hplain) hq (atI_nat i3) (fun _ _ => rfl)
theorem cal_holds (Wo : Words W) (c1 : Cal W 1 "part_of" (Pure prePartOf)) (A : DefAt W "holds" s_holds ["test", "same"]) : Cal W 2 "holds" (Pure (preHolds W)) := by
  refine cal_pure A sc_holds (fun vs H R h => by obtain ⟨_, _, _, rfl, _⟩ := h; rfl) fun f cdv A outer s H vs R E hr h => ?_
  obtain ⟨z, a, p, rfl, hz, hq, rfl⟩ := h
  have pc : ∀ {pos : Pos} {p1 p2 : Pos}, XV (cx W n_holds "holds" s_holds f cdv A outer s H E) (.Call (.Name "part_of" p1) [.Name "test" p2] [] pos) (start n_holds [.str z, .ref a]) H (.str (partOf z)) := fun {_ _ _} => xe_call1 c1 hr (xe_var 0 rfl) fun H1 _ => ⟨z, rfl, tests_len hz, rfl⟩
  refine xs_ret (xe_cmp op_eq (xe_patAt Wo (xe_var 1 rfl) hq pc (tests_part hz)) (xe_cmp op_eq (xe_var 0 rfl) pc rv_eqS (nomark _)) rv_eqB (nomark _)) fun v H1 s1 r => ⟨s1, r⟩
/-! ### methods -/
def preTold (W : Wd) : List V → Hp → VP → Prop := fun vs H R => ∃ (t : LT) (a : Addr) (m : Str), vs = [.ref a, .str m] ∧ ToolA W t a H ∧ R = Is (.bl (decide (m ∈ t.told)))
theorem met_told (C : ToolC W) (A : MethAt W (cTool W) "is_told" "Tool.is_told" s_Tool_is_told ["self", "mark"]) : Met W 1 (cTool W) "is_told" (Pure (preTold W)) := by
  refine met_pure A sc_Tool_is_told (fun vs H R h => by obtain ⟨_, _, _, rfl, _⟩ := h; rfl) fun f cdv A outer s H vs R E hr h => ?_
  obtain ⟨t, a, m, rfl, ht, rfl⟩ := h
  refine xs_ret (xe_cmpR (Ra := Is (.str m)) (Rb := TupV (t.told.map V.str)) op_in_seq (xe_var 1 rfl) (xe_told C (xe_var 0 rfl) ht) (fun x y H1 _ hx hy => ?_) rfl) fun v H1 s1 r => ⟨s1, r⟩
  cases hx
  obtain ⟨b, rfl, hb⟩ := hy
  exact rv_inS (.inr (SqT.of hb))
def preMark (W : Wd) : List V → Hp → VP → Prop := fun vs H R => ∃ (t : LT) (a : Addr) (m : Str), vs = [.ref a, .str m] ∧ ToolA W t a H ∧ m ∈ t.marks ∧ R = Is .non
theorem met_need_mark (C : ToolC W) (c1 : Cal W 1 "is_word" (Pure (preIsWord (W := W)))) (A : MethAt W (cTool W) "need_mark" "Tool.need_mark" s_Tool_need_mark ["self", "mark"]) : Met W 2 (cTool W) "need_mark" (Pure (preMark W)) := by
  refine met_pure A sc_Tool_need_mark (fun vs H R h => by obtain ⟨_, _, _, rfl, _⟩ := h; rfl) fun f cdv A outer s H vs R E hr h => ?_
  obtain ⟨t, a, m, rfl, ht, hm, rfl⟩ := h
  refine xs_ifF (xt_not (xt_val (p := true) (xe_callR2 (R1 := Is (.str m)) (R2 := TupV (t.marks.map V.str)) c1 hr (xe_var 1 rfl) (xe_marks C (xe_var 0 rfl) ht) fun v w H1 s1 hv hw => ?_))) (xs_nil fun H1 s1 => ⟨s1, rfl⟩)
  cases hv
  obtain ⟨b, rfl, hb⟩ := hw
  exact ⟨m, b, t.marks, rfl, fun H2 s2 => SqT.of (s2 _ _ hb), by rw [decide_eq_true hm]⟩
theorem fits_mem (o m : Str) : decide (o ∈ (["any", m] : List Str)) = fits o m := by
  unfold fits
  by_cases h1 : o = "any"
  · simp [h1]
  · by_cases h2 : o = m
    · simp [h2]
    · simp [h1, h2]
/-- x in ("any", y) -/
theorem xe_fits {X : Cx} {e1 e2 : Expr} {σ : St} {H : Hp} {pos p1 p2 : Pos} {kk : Nat} {jj : _} {o m : Str} (h1 : XV X e1 σ H (.str o)) (h2 : XV X e2 σ H (.str m)) (hst : starEach [.Constant (.str "any") jj p1, e2] X.env = (false, eval (.Constant (.str "any") jj p1) X.env) :: starEach [e2] X.env := by rfl) (hst2 : starEach [e2] X.env = (false, eval e2 X.env) :: starEach [] X.env := by rfl) :
    XT X (.Compare e1 [.In] [.Tuple [.Constant (.str "any") jj p1, e2] kk p2] pos) σ H (fits o m) := by
  rw [← fits_mem]
  refine xt_cmpR (Ra := Is (.str o)) (Rb := TupV ((["any", m] : List Str).map V.str)) op_in_seq h1 (XE.tupV (xe_tup (Rs := [Is (.str "any"), Is (.str m)]) (xa_cons xe_str (xa_cons h2 xa_nil hst2) hst) (by simp))) (fun x y H1 _ hx hy => ?_) rfl
  cases hx
  obtain ⟨b, rfl, hb⟩ := hy
  exact rv_inS (.inr (SqT.of hb))
section
variable {X : Cx} {e : Expr} {σ : St} {H : Hp} {pos : Pos} {x : V}
theorem xe_runOld {o t : Str} (C : RowC (wd X)) (hx : XV X e σ H x) (hr : RowR (wd X) (.run o t) x H) (hb : attributeBase e "old" X.env (eval e X.env) = eval e X.env := by rfl) : XV X (.Attribute e "old" pos) σ H (.str o) := by
  obtain ⟨a, dx, fs, rfl, ha, n, rfl, hn⟩ := hr
  exact xe_fld (C := cRun (wd X)) hx ha C.clRun (C.nRun "old" (by simp)) rfl hb
theorem xe_runThen {o t : Str} (C : RowC (wd X)) (hx : XV X e σ H x) (hr : RowR (wd X) (.run o t) x H) (hb : attributeBase e "then" X.env (eval e X.env) = eval e X.env := by rfl) : XV X (.Attribute e "then" pos) σ H (.str t) := by
  obtain ⟨a, dx, fs, rfl, ha, n, rfl, hn⟩ := hr
  exact xe_fld (C := cRun (wd X)) hx ha C.clRun (C.nRun "then" (by simp)) rfl hb
theorem xe_leadOld {ts : List Str} {o t : Str} (C : RowC (wd X)) (hx : XV X e σ H x) (hr : RowR (wd X) (.lead ts o t) x H) (hb : attributeBase e "old" X.env (eval e X.env) = eval e X.env := by rfl) : XV X (.Attribute e "old" pos) σ H (.str o) := by
  obtain ⟨a, dx, fs, rfl, ha, q, n, rfl, hq, hn⟩ := hr
  exact xe_fld (C := cLead (wd X)) hx ha C.clLead (C.nLead "old" (by simp)) rfl hb
theorem xe_leadThen {ts : List Str} {o t : Str} (C : RowC (wd X)) (hx : XV X e σ H x) (hr : RowR (wd X) (.lead ts o t) x H) (hb : attributeBase e "then" X.env (eval e X.env) = eval e X.env := by rfl) : XV X (.Attribute e "then" pos) σ H (.str t) := by
  obtain ⟨a, dx, fs, rfl, ha, q, n, rfl, hq, hn⟩ := hr
  exact xe_fld (C := cLead (wd X)) hx ha C.clLead (C.nLead "then" (by simp)) rfl hb
theorem xe_leadTests {ts : List Str} {o t : Str} (C : RowC (wd X)) (hx : XV X e σ H x) (hr : RowR (wd X) (.lead ts o t) x H) (hb : attributeBase e "tests" X.env (eval e X.env) = eval e X.env := by rfl) : XE X (.Attribute e "tests" pos) σ H (TupV (ts.map V.str)) := by
  obtain ⟨a, dx, fs, rfl, ha, q, n, rfl, hq, hn⟩ := hr
  exact (xe_fld (C := cLead (wd X)) (v := .ref q) hx ha C.clLead (C.nLead "tests" (by simp)) rfl hb).is fun H2 e2 => ⟨q, rfl, e2 _ _ hq⟩
theorem xe_joinHere {h c t : Str} (C : RowC (wd X)) (hx : XV X e σ H x) (hr : RowR (wd X) (.join h c t) x H) (hb : attributeBase e "here" X.env (eval e X.env) = eval e X.env := by rfl) : XV X (.Attribute e "here" pos) σ H (.str h) := by
  obtain ⟨a, dx, fs, rfl, ha, n, rfl, hn⟩ := hr
  exact xe_fld (C := cJoin (wd X)) hx ha C.clJoin (C.nJoin "here" (by simp)) rfl hb
theorem xe_joinCame {h c t : Str} (C : RowC (wd X)) (hx : XV X e σ H x) (hr : RowR (wd X) (.join h c t) x H) (hb : attributeBase e "came" X.env (eval e X.env) = eval e X.env := by rfl) : XV X (.Attribute e "came" pos) σ H (.str c) := by
  obtain ⟨a, dx, fs, rfl, ha, n, rfl, hn⟩ := hr
  exact xe_fld (C := cJoin (wd X)) hx ha C.clJoin (C.nJoin "came" (by simp)) rfl hb
theorem xe_joinThen {h c t : Str} (C : RowC (wd X)) (hx : XV X e σ H x) (hr : RowR (wd X) (.join h c t) x H) (hb : attributeBase e "then" X.env (eval e X.env) = eval e X.env := by rfl) : XV X (.Attribute e "then" pos) σ H (.str t) := by
  obtain ⟨a, dx, fs, rfl, ha, n, rfl, hn⟩ := hr
  exact xe_fld (C := cJoin (wd X)) hx ha C.clJoin (C.nJoin "then" (by simp)) rfl hb
end
theorem drop_at {α : Type} {l : List α} {i : Nat} {a : α} (h : l[i]? = some a) : l.drop i = a :: l.drop (i + 1) := by
  obtain ⟨hi, e⟩ := List.getElem?_eq_some_iff.mp h
  rw [List.drop_eq_getElem_cons hi, e]
def preRan (W : Wd) : List V → Hp → VP → Prop := fun vs H R => ∃ (t : LT) (a : Addr) (m : Str), vs = [.ref a, .str m] ∧ ToolA W t a H ∧ m ∈ t.marks ∧ R = Is (.str (t.ran m))
theorem met_ran (B : Blt W) (C : ToolC W) (RC : RowC W) (RK : RowK W) (c1 : Met W 2 (cTool W) "need_mark" (Pure (preMark W))) (A : MethAt W (cTool W) "ran" "Tool.ran" s_Tool_ran ["self", "mark"]) : Met W 3 (cTool W) "ran" (Pure (preRan W)) := by
  refine met_pure A sc_Tool_ran (fun vs H R h => by obtain ⟨_, _, _, rfl, _⟩ := h; rfl) fun f cdv A outer s H vs R E hr h => ?_
  obtain ⟨t, a, m, rfl, ht, hm, rfl⟩ := h
  refine xs_expr (R := Is .non) (xe_tool1 c1 hr (xe_var 0 rfl) ht (xe_var 1 rfl) fun H1 _ ht => ⟨t, a, m, rfl, ht, hm, rfl⟩) fun _ H0 s0 _ => ?_
  have ht0 := ht.mono s0
  refine xs_each (j := 2) (src := t.rows) (rel := RowR W) (Y := YR (t.rows.map (RowR W))) (XI.len (xi_tup ((xe_rows C (xe_var 0 rfl) ht0).imp fun v H2 _ ⟨q, xs, h1, h2, h3⟩ => ⟨q, xs, h1, SqT.of h2, h3⟩)) (by simp)) (fun _ _ _ _ _ _ => ys_R _ _ _ _ _) (fun _ => inferInstance) (pg_name (i := 2) sc_Tool_ran.nd rfl (Or.inl rfl))
    (fun i => ranR (t.rows.drop i) m = t.ran m) rfl (fun i r x u G' hi hC e1 hx => ?_) (fun hC u G' e1 => ?_) ⟨none, rfl⟩
  · rw [drop_at hi] at hC
    cases r with
    | run o th =>
      refine xs_if (b := true && fits o m) (XW.t (xw_and (xt_val (xe_isOwn (r := .run o th) B (RK.ty _) (RK.run _) RK.mRun (xe_var 2 rfl) hx)) fun _ => xw_and1 (xe_fits (xe_runOld RC (xe_var 2 rfl) hx) (xe_var 1 rfl)))) (fun hb => ?_) fun hb => ?_
      · refine xs_ret (xe_runThen RC (xe_var 2 rfl) hx) fun v H2 s2 r => ⟨(s0.trans e1).trans s2, ?_⟩
        cases r
        rw [← hC, ranR, if_pos (by simpa using hb)]
        rfl
      · refine xs_nil fun H2 s2 => xs_nil fun H3 s3 => ⟨?_, s2.trans s3, _, rfl⟩
        rw [ranR, if_neg (by simpa using hb)] at hC
        exact hC
    | lead ts o th =>
      refine xs_ifF (XW.t (xw_and (p := false) (q := true) (xt_val (xe_isOwn (r := .lead ts o th) B (RK.ty _) (RK.run _) RK.mRun (xe_var 2 rfl) hx)) fun q => nomatch q)) (xs_nil fun H2 s2 => ⟨hC, s2, _, rfl⟩)
    | join h c th =>
      refine xs_ifF (XW.t (xw_and (p := false) (q := true) (xt_val (xe_isOwn (r := .join h c th) B (RK.ty _) (RK.run _) RK.mRun (xe_var 2 rfl) hx)) fun q => nomatch q)) (xs_nil fun H2 s2 => ⟨hC, s2, _, rfl⟩)
  · refine xs_ret (xe_var 1 rfl) fun v H2 s2 r => ⟨(s0.trans e1).trans s2, ?_⟩
    cases r
    rw [List.drop_length] at hC
    rw [← hC]
    rfl
end
end LM

set_option maxHeartbeats 4000000
namespace LM
open PySem PySem.Spec PyProof.Rows L2
section
variable {X : Cx} {σ : St} {H : Hp} {j : Nat}
/-- {"here": h, "came": c}.get(t, t) -/
theorem xe_thenOf {e1 e2 e3 e4 : Expr} {j1 j2 : _} {p1 p2 p3 apos pos : Pos} {h c t : Str} (hr : Room j X.A) (h1 : XV X e1 σ H (.str h)) (h2 : XV X e2 σ H (.str c)) (h3 : XV X e3 σ H (.str t)) (h4 : XV X e4 σ H (.str t))
    (hb : attributeBase (.Dict [some (.Constant (.str "here") j1 p1), some (.Constant (.str "came") j2 p2)] [e1, e2] p3) "get" X.env (eval (.Dict [some (.Constant (.str "here") j1 p1), some (.Constant (.str "came") j2 p2)] [e1, e2] p3) X.env) = eval (.Dict [some (.Constant (.str "here") j1 p1), some (.Constant (.str "came") j2 p2)] [e1, e2] p3) X.env := by rfl)
    (hf : ((backTo pos (starEach [e3, e4] X.env)).all (fun x => !x.1) && (backToKw pos (keywordEach [] X.env)).all (fun x => x.1.isSome)
    && decide (([e3, e4] : List Expr).length + ([] : List Keyword).length + (if ([] : List Keyword).isEmpty then 0 else 1) < 30)) = true := by rfl) (hl : (apos.endLine == pos.line) = true := by rfl)
    (ht : backTo pos (starEach [e3, e4] X.env) = [(false, eval e3 X.env), (false, eval e4 X.env)] := by rfl) :
    XV X (.Call (.Attribute (.Dict [some (.Constant (.str "here") j1 p1), some (.Constant (.str "came") j2 p2)] [e1, e2] p3) "get" apos) [e3, e4] [] pos) σ H (.str (thenOf t h c)) :=
  XE.of (pe_dget2 (by have := hr.un; omega) (pe_disp (pps_cons pe_s pe_s (pps_cons pe_s pe_s pps_nil)) rfl rfl (by simp) (by simp)) pe_s pe_s ⟨hb, hf, hl, ht⟩) fun H1 s1 Q k => fun p hp => by
    have s0 : Same H (upd H1 p (.dK [])) := s1.trans (newS hp)
    refine (xe_str (X := X) (i := "here") (j := j1) (pos := p1)).s s0 fun u H2 e2 q => ?_
    cases q
    refine h1.s (s0.trans e2) fun u H3 e3 q => ?_
    cases q
    refine (xe_str (X := X) (i := "came") (j := j2) (pos := p2)).s ((s0.trans e2).trans e3) fun u H4 e4 q => ?_
    cases q
    refine h2.s (((s0.trans e2).trans e3).trans e4) fun u H5 e5 q => ?_
    cases q
    have sp : Same (upd H1 p (.dK [])) H5 := ((e2.trans e3).trans e4).trans e5
    refine ⟨sp _ _ upd_same, [(.inr "here", .str h), (.inr "came", .str c)], rfl, by simp, p, rfl, .inl ⟨_, .inl upd_same⟩, ?_⟩
    have s5 : Same H1 (upd H5 p (.dK (mergeK [] [(.inr "here", .str h), (.inr "came", .str c)]))) := mutS ((newS hp).trans sp) hp
    refine h3.s (s1.trans s5) fun u H6 e6 q => ?_
    cases q
    refine h4.s ((s1.trans s5).trans e6) fun u H7 e7 q => ?_
    cases q
    refine ⟨valV (mergeK [] [(.inr "here", .str h), (.inr "came", .str c)]) (.inr t), DGet.k (k := .inr t) (e7 _ _ (e6 _ _ upd_same)), ?_⟩
    have : (valV (mergeK [] [((.inr "here" : Key), V.str h), (.inr "came", .str c)]) (.inr t)).getD (.str t) = .str (thenOf t h c) := by
      have e : mergeK [] [((.inr "here" : Key), V.str h), (.inr "came", .str c)] = [((.inr "here" : Key), V.str h), (.inr "came", .str c)] := rfl
      rw [e]
      unfold thenOf
      by_cases q1 : t = "here"
      · subst q1; rfl
      · by_cases q2 : t = "came"
        · subst q2; rfl
        · rw [if_neg q1, if_neg q2, valV_neg (by intro z; exact q1 (Sum.inr.inj z).symm), valV_neg (by intro z; exact q2 (Sum.inr.inj z).symm)]
          rfl
    rw [this]
    exact k _ H7 ((s5.trans e6).trans e7) rfl
end
section
variable {W : Wd}
def preLed (W : Wd) : List V → Hp → VP → Prop := fun vs H R => ∃ (t : LT) (a : Addr) (m : Str) (q : Addr) (p : Pat), vs = [.ref a, .str m, .ref q] ∧ ToolA W t a H ∧ m ∈ t.marks ∧ SqT W.K H q (patV p) ∧ (∀ r ∈ t.rows, r.ok) ∧ R = Is (.str (t.led m p))
theorem tests_few {ts : List Str} (h1 : ∀ x ∈ ts, x ∈ lTESTS) (h2 : (ts.map partOf).Nodup) : ts.length ≤ 3 := by
  have := nodup_len (l := lPARTS) h2 fun x hx => by
    obtain ⟨y, hy, rfl⟩ := List.mem_map.mp hx
    exact tests_part (h1 y hy)
  rwa [List.length_map] at this
theorem met_led (B : Blt W) (C : ToolC W) (RC : RowC W) (RK : RowK W) (c1 : Met W 2 (cTool W) "need_mark" (Pure (preMark W))) (c2 : Cal W 2 "holds" (Pure (preHolds W))) (A : MethAt W (cTool W) "led" "Tool.led" s_Tool_led ["self", "mark", "same"]) : Met W 3 (cTool W) "led" (Pure (preLed W)) := by
  refine met_pure A sc_Tool_led (fun vs H R h => by obtain ⟨_, _, _, _, _, rfl, _⟩ := h; rfl) fun f cdv A outer s H vs R E hr h => ?_
  obtain ⟨t, a, m, q, p, rfl, ht, hm, hq, hok, rfl⟩ := h
  refine xs_expr (R := Is .non) (xe_tool1 c1 hr (xe_var 0 rfl) ht (xe_var 1 rfl) fun H1 _ ht => ⟨t, a, m, rfl, ht, hm, rfl⟩) fun _ H0 s0 _ => ?_
  have ht0 := ht.mono s0
  have hq0 := st_mono s0 hq
  have fin : ∀ (σ : St) (G' : Hp) (rest : List Stmt) (pos p1 p2 : Pos), σ[0]? = some (some (.ref a)) → Same H0 G' → XSs (cx W n_Tool_led "Tool.led" s_Tool_led f cdv A outer s H E) (.Return (some (.Attribute (.Name "self" p1) "blank" p2)) pos :: rest) { RetD H (Is (.str t.blank)) with nx := fun _ _ => False } σ G' := fun σ G' rest pos p1 p2 hσ e1 =>
    xs_ret (xe_blank C (xe_var 0 hσ) (ht0.mono e1)) fun v H2 s2 r => ⟨(s0.trans e1).trans s2, r⟩
  by_cases hb : m = t.blank
  · have hv : t.led m p = t.blank := by unfold LT.led; rw [if_pos hb]
    rw [hv]
    refine xs_each (j := 3) (src := ([] : List LR)) (rel := RowR W) (Y := YX []) (xi_tupV (xe_if (p := !decide (m = t.blank)) (xt_cmp op_ne (xe_var 1 rfl) (xe_blank C (xe_var 0 rfl) ht0) rv_neS (nomark _)) (fun q => by rw [decide_eq_true hb] at q; cases q) fun _ => XE.tupV (xs := []) (xe_tup (Rs := []) xa_nil (by simp)))) (fun _ i _ _ _ hi => absurd hi (Nat.not_lt_zero i)) (fun _ => inferInstance) (pg_name (i := 3) sc_Tool_led.nd rfl (Or.inl rfl))
      (fun i => True) trivial (fun i r x u G' hi => by simp at hi) (fun _ u G' e1 => ?_) ⟨none, rfl⟩
    exact (fin _ G' _ _ _ _ rfl e1).ends (fun _ _ z => z.elim) (fun _ _ z => z) (fun _ _ z => z) (fun _ _ z => z)
  · have hv : t.led m p = ledR t.blank t.rows m p := by unfold LT.led; rw [if_neg hb]
    rw [hv]
    refine xs_each (j := 3) (src := t.rows) (rel := RowR W) (Y := YR (t.rows.map (RowR W))) (XI.len (xi_tup ((xe_if (p := !decide (m = t.blank)) (xt_cmp op_ne (xe_var 1 rfl) (xe_blank C (xe_var 0 rfl) ht0) rv_neS (nomark _)) (fun _ => xe_rows C (xe_var 0 rfl) ht0) fun q => by rw [decide_eq_false hb] at q; cases q).imp fun v H2 _ ⟨q, xs, h1, h2, h3⟩ => ⟨q, xs, h1, SqT.of h2, h3⟩)) (by simp)) (fun _ _ _ _ _ _ => ys_R _ _ _ _ _) (fun _ => inferInstance) (pg_name (i := 3) sc_Tool_led.nd rfl (Or.inl rfl))
      (fun i => ledR t.blank (t.rows.drop i) m p = ledR t.blank t.rows m p) rfl (fun i r x u G' hi hC e1 hx => ?_) (fun hC u G' e1 => ?_) ⟨none, rfl⟩
    · rw [drop_at hi] at hC
      have hrok := hok r (List.mem_of_getElem? hi)
      cases r with
      | lead ts o th =>
        refine xs_if (b := true && (fits o m && (ts.map (holdsT p)).all id)) (XW.t (xw_and (xt_val (xe_isOwn (r := .lead ts o th) B (RK.ty _) (RK.lead _) RK.mLead (xe_var 3 rfl) hx)) fun _ => xw_and (xe_fits (xe_leadOld RC (xe_var 3 rfl) hx) (xe_var 1 rfl)) fun _ => xw_and1 (xt_val (xe_all B.all ?_)))) (fun hb => ?_) fun hb => ?_
        · refine XE.bools (g := holdsT p) (xe_lcS (own := [("test", 4)]) (j := 4) (src := ts) (rel := fun z => Is (.str z)) (XI.len (xi_tupV (xe_leadTests RC (xe_var 3 rfl) hx)) (by simp)) (fun _ _ _ _ _ _ => ys_X V.str _ _ _ _ _) (fun _ => inferInstance) (fun _ => inferInstance) (by have := tests_few hrok.1 hrok.2.1; omega) sc_Tool_led.nd (blkOk_by (N := n_Tool_led) (sc := defScope s_Tool_led) (by decide +kernel))
            (fun _ _ _ _ _ => pg_name (i := 4) sc_Tool_led.nd rfl (Or.inl rfl)) fun z x G2 hz e2 hx => ⟨rfl, fun _ s0' H0 Cc cl fp => ?_⟩)
          cases hx
          exact xe_call2 c2 hr (xe_var 4 rfl) (xe_var 2 rfl) fun H1 s1 => ⟨z, q, p, rfl, hrok.1 z hz, st_mono ((e1.trans e2).trans s1) hq0, rfl⟩
        · refine xs_ret (xe_leadThen RC (xe_var 3 rfl) hx) fun v H2 s2 r => ⟨(s0.trans e1).trans s2, ?_⟩
          cases r
          have hb : (fits o m && ts.all (holdsT p)) = true := by
            have := hb
            rw [List.all_map, Bool.true_and] at this
            exact this
          rw [← hC, ledR, if_pos hb]
          rfl
        · refine xs_nil fun H2 s2 => xs_nil fun H3 s3 => ⟨?_, s2.trans s3, _, rfl⟩
          have hb : ¬ (fits o m && ts.all (holdsT p)) = true := by
            have := hb
            rw [List.all_map, Bool.true_and] at this
            rw [show ts.all (holdsT p) = ts.all (id ∘ holdsT p) from rfl, this]
            exact Bool.false_ne_true
          rw [ledR, if_neg hb] at hC
          exact hC
      | run o th =>
        refine xs_ifF (XW.t (xw_and (p := false) (q := true) (xt_val (xe_isOwn (r := .run o th) B (RK.ty _) (RK.lead _) RK.mLead (xe_var 3 rfl) hx)) fun q => nomatch q)) (xs_nil fun H2 s2 => ⟨hC, s2, _, rfl⟩)
      | join h c th =>
        refine xs_ifF (XW.t (xw_and (p := false) (q := true) (xt_val (xe_isOwn (r := .join h c th) B (RK.ty _) (RK.lead _) RK.mLead (xe_var 3 rfl) hx)) fun q => nomatch q)) (xs_nil fun H2 s2 => ⟨hC, s2, _, rfl⟩)
    · rw [List.drop_length] at hC
      rw [← hC]
      exact (fin _ G' _ _ _ _ rfl e1).ends (fun _ _ z => z.elim) (fun _ _ z => z) (fun _ _ z => z) (fun _ _ z => z)
def preJoined (W : Wd) : List V → Hp → VP → Prop := fun vs H R => ∃ (t : LT) (a : Addr) (h c : Str), vs = [.ref a, .str h, .str c] ∧ ToolA W t a H ∧ h ∈ t.marks ∧ c ∈ t.marks ∧ R = Is (.str (t.joined h c))
theorem met_joined (B : Blt W) (C : ToolC W) (RC : RowC W) (RK : RowK W) (c1 : Met W 2 (cTool W) "need_mark" (Pure (preMark W))) (A : MethAt W (cTool W) "joined" "Tool.joined" s_Tool_joined ["self", "here", "came"]) : Met W 3 (cTool W) "joined" (Pure (preJoined W)) := by
  refine met_pure A sc_Tool_joined (fun vs H R h => by obtain ⟨_, _, _, _, rfl, _⟩ := h; rfl) fun f cdv A outer s H vs R E hr h => ?_
  obtain ⟨t, a, m, n, rfl, ht, hm, hn, rfl⟩ := h
  refine xs_expr (R := Is .non) (xe_tool1 c1 hr (xe_var 0 rfl) ht (xe_var 1 rfl) fun H1 _ ht => ⟨t, a, m, rfl, ht, hm, rfl⟩) fun _ H00 s00 _ => ?_
  refine xs_expr (R := Is .non) (xe_tool1 c1 hr (xe_var 0 rfl) (ht.mono s00) (xe_var 2 rfl) fun H1 _ ht => ⟨t, a, n, rfl, ht, hn, rfl⟩) fun _ H0 s01 _ => ?_
  have s0 := s00.trans s01
  have ht0 := ht.mono s0
  refine xs_each (j := 3) (src := t.rows) (rel := RowR W) (Y := YR (t.rows.map (RowR W))) (XI.len (xi_tup ((xe_rows C (xe_var 0 rfl) ht0).imp fun v H2 _ ⟨q, xs, h1, h2, h3⟩ => ⟨q, xs, h1, SqT.of h2, h3⟩)) (by simp)) (fun _ _ _ _ _ _ => ys_R _ _ _ _ _) (fun _ => inferInstance) (pg_name (i := 3) sc_Tool_joined.nd rfl (Or.inl rfl))
    (fun i => joinR (t.rows.drop i) m n = t.joined m n) rfl (fun i r x u G' hi hC e1 hx => ?_) (fun hC u G' e1 => ?_) ⟨none, rfl⟩
  · rw [drop_at hi] at hC
    cases r with
    | join hh cc th =>
      refine xs_if (b := true && (fits hh m && fits cc n)) (XW.t (xw_and (xt_val (xe_isOwn (r := .join hh cc th) B (RK.ty _) (RK.join _) RK.mJoin (xe_var 3 rfl) hx)) fun _ => xw_and (xe_fits (xe_joinHere RC (xe_var 3 rfl) hx) (xe_var 1 rfl)) fun _ => xw_and1 (xe_fits (xe_joinCame RC (xe_var 3 rfl) hx) (xe_var 2 rfl)))) (fun hb => ?_) fun hb => ?_
      · refine xs_ret (xe_thenOf hr (xe_var 1 rfl) (xe_var 2 rfl) (xe_joinThen RC (xe_var 3 rfl) hx) (xe_joinThen RC (xe_var 3 rfl) hx)) fun v H2 s2 r => ⟨(s0.trans e1).trans s2, ?_⟩
        cases r
        rw [← hC, joinR, if_pos (by simpa using hb)]
        rfl
      · refine xs_nil fun H2 s2 => xs_nil fun H3 s3 => ⟨?_, s2.trans s3, _, rfl⟩
        rw [joinR, if_neg (by rw [show (fits hh m && fits cc n) = false by simpa using hb]; exact Bool.false_ne_true)] at hC
        exact hC
    | lead ts o th =>
      refine xs_ifF (XW.t (xw_and (p := false) (q := true) (xt_val (xe_isOwn (r := .lead ts o th) B (RK.ty _) (RK.join _) RK.mJoin (xe_var 3 rfl) hx)) fun q => nomatch q)) (xs_nil fun H2 s2 => ⟨hC, s2, _, rfl⟩)
    | run o th =>
      refine xs_ifF (XW.t (xw_and (p := false) (q := true) (xt_val (xe_isOwn (r := .run o th) B (RK.ty _) (RK.join _) RK.mJoin (xe_var 3 rfl) hx)) fun q => nomatch q)) (xs_nil fun H2 s2 => ⟨hC, s2, _, rfl⟩)
  · refine xs_ret (xe_var 1 rfl) fun v H2 s2 r => ⟨(s0.trans e1).trans s2, ?_⟩
    cases r
    rw [List.drop_length] at hC
    rw [← hC]
    rfl
def preKeeps (W : Wd) : List V → Hp → VP → Prop := fun vs H R => ∃ (t : LT) (a : Addr) (q : Addr) (p : Pat), vs = [.ref a, .ref q] ∧ ToolA W t a H ∧ (∀ x ∈ t.parts, x ∈ lPARTS) ∧ t.parts.length ≤ 1000 ∧ SqT W.K H q (patV p) ∧ R = Is (.bl (t.keeps p))
theorem met_keeps (B : Blt W) (C : ToolC W) (Wo : Words W) (A : MethAt W (cTool W) "keeps" "Tool.keeps" s_Tool_keeps ["self", "same"]) : Met W 1 (cTool W) "keeps" (Pure (preKeeps W)) := by
  refine met_pure A sc_Tool_keeps (fun vs H R h => by obtain ⟨_, _, _, _, rfl, _⟩ := h; rfl) fun f cdv A outer s H vs R E hr h => ?_
  obtain ⟨t, a, q, p, rfl, ht, hp, hlen, hq, rfl⟩ := h
  refine xs_ret (xe_all B.all (XE.bools (g := patAt p) (xe_lcS (own := [("part", 2)]) (j := 2) (src := t.parts) (rel := fun z => Is (.str z)) (XI.len (xi_tupV (xe_parts C (xe_var 0 rfl) ht)) (by simp)) (fun _ _ _ _ _ _ => ys_X V.str _ _ _ _ _) (fun _ => inferInstance) (fun _ => inferInstance) (by omega) sc_Tool_keeps.nd (blkOk_by (N := n_Tool_keeps) (sc := defScope s_Tool_keeps) (by decide +kernel))
            (fun _ _ _ _ _ => pg_name (i := 2) sc_Tool_keeps.nd rfl (Or.inl rfl)) fun z x G2 hz e2 hx => ⟨rfl, fun _ s0' H0 Cc cl fp => ?_⟩))) fun v H1 s1 r => ⟨s1, ?_⟩
  · cases hx
    exact xe_patAt Wo (xe_var 1 rfl) (st_mono e2 hq) (xe_var 2 rfl) (hp z hz)
  · cases r
    rw [List.all_map]
    rfl
end
end LM

set_option maxHeartbeats 4000000
namespace LM
open PySem PySem.Spec PyProof.Rows L2
instance monTupMap {α : Type} {rel : α → VP} [h : ∀ a, Mon (rel a)] (l : List α) : Mon (TupR (l.map rel)) := ⟨fun v H H' e ⟨a, ys, h1, h2, h3⟩ => ⟨a, ys, h1, e _ _ h2, AllR.mono (monL_map h l) e h3⟩⟩
instance monLstMap {α : Type} {rel : α → VP} [h : ∀ a, Mon (rel a)] (l : List α) : Mon (LstR (l.map rel)) := ⟨fun v H H' e ⟨a, ys, h1, h2, h3⟩ => ⟨a, ys, h1, e _ _ h2, AllR.mono (monL_map h l) e h3⟩⟩
/-! ### heeding -/
def heedRow (ps : List Str) : LR → Option LR
  | .lead ts o t => if (ts.any fun x => decide (x = partOf x) && !decide (x ∈ ps)) = true then none else some (.lead (ts.filter fun x => decide (partOf x ∈ ps)) o t)
  | r => some r
def HeedR (W : Wd) (ps : List Str) (r : LR) : VP := match heedRow ps r with
  | none => Is .non
  | some r' => RowR W r'
instance (W : Wd) (ps : List Str) (r : LR) : Mon (HeedR W ps r) := by
  unfold HeedR
  split <;> infer_instance
section
variable {W : Wd}
def preHeedRow (W : Wd) : List V → Hp → VP → Prop := fun vs H R => ∃ (x : V) (r : LR) (ap : Addr) (ps : List Str), vs = [x, .ref ap] ∧ RowR W r x H ∧ r.ok ∧ LorT H ap (ps.map V.str) ∧ R = HeedR W ps r
theorem lead_ok_filter {ts : List Str} {o t : Str} {q : Str → Bool} (h : (LR.lead ts o t).ok) : (LR.lead (ts.filter q) o t).ok := by
  obtain ⟨h1, h2, h3, h4, h5⟩ := h
  refine ⟨fun x hx => h1 x (List.mem_filter.mp hx).1, ?_, h3, h4, h5⟩
  exact h2.sublist (List.filter_sublist.map _)
theorem cal_heeding_row (B : Blt W) (RC : RowC W) (RK : RowK W) (c1 : Cal W 1 "part_of" (Pure prePartOf)) (c2 : Mak W 3 "Lead" (cLead W) (Init (cLead W) preLead)) (A : DefAt W "heeding_row" s_heeding_row ["row", "parts"]) : Cal W 5 "heeding_row" (Pure (preHeedRow W)) := by
  refine cal_pure A sc_heeding_row (fun vs H R h => by obtain ⟨_, _, _, _, rfl, _⟩ := h; rfl) fun f cdv A outer s H vs R E hr h => ?_
  obtain ⟨x, r, ap, ps, rfl, hx, hok, hp, rfl⟩ := h
  cases r with
  | run o th =>
    refine xs_ifT (XT.cast (xt_not (xt_val (xe_isOwn (r := .run o th) B (RK.ty _) (RK.lead _) RK.mLead (xe_var 0 rfl) hx))) rfl) ?_
    exact xs_ret (R := RowR W (.run o th)) ((xe_var 0 rfl).is fun H2 e2 => Mon.mono _ _ _ e2 hx) fun v H1 s1 r => ⟨s1, r⟩
  | join a c th =>
    refine xs_ifT (XT.cast (xt_not (xt_val (xe_isOwn (r := .join a c th) B (RK.ty _) (RK.lead _) RK.mLead (xe_var 0 rfl) hx))) rfl) ?_
    exact xs_ret (R := RowR W (.join a c th)) ((xe_var 0 rfl).is fun H2 e2 => Mon.mono _ _ _ e2 hx) fun v H1 s1 r => ⟨s1, r⟩
  | lead ts o th =>
    have hfew := tests_few hok.1 hok.2.1
    refine xs_ifF (XT.cast (xt_not (xt_val (xe_isOwn (r := .lead ts o th) B (RK.ty _) (RK.lead _) RK.mLead (xe_var 0 rfl) hx))) rfl) ?_
    refine xs_if (b := (ts.map fun x => decide (x = partOf x) && !decide (x ∈ ps)).any id) (xt_val (xe_any B.any (XE.bools (g := fun x => decide (x = partOf x) && !decide (x ∈ ps)) (xe_lcS (own := [("test", 2)]) (j := 2) (src := ts) (rel := fun z => Is (.str z)) (XI.len (xi_tupV (xe_leadTests RC (xe_var 0 rfl) hx)) (by simp)) (fun _ _ _ _ _ _ => ys_X V.str _ _ _ _ _) (fun _ => inferInstance) (fun _ => inferInstance) (by omega) sc_heeding_row.nd (blkOk_by (N := n_heeding_row) (sc := defScope s_heeding_row) (by decide +kernel))
            (fun _ _ _ _ _ => pg_name (i := 2) sc_heeding_row.nd rfl (Or.inl rfl)) fun z x G2 hz e2 hx => ⟨rfl, fun _ s0' H0 Cc cl fp => ?_⟩)))) (fun hb => ?_) fun hb => ?_
    · cases hx
      exact xe_and (xe_cmp op_eq (xe_var 2 rfl) (xe_call1 c1 hr (xe_var 2 rfl) fun H1 _ => ⟨z, rfl, tests_len (hok.1 z hz), rfl⟩) rv_eqS (nomark _)) fun _ => xe_and1 (xe_cmp op_notIn_seq (xe_var 2 rfl) (xe_var 1 rfl) (rv_ninS (hp.mono e2).sq) rfl)
    · refine xs_ret xe_non fun v H1 s1 r => ⟨s1, ?_⟩
      rw [List.any_map] at hb
      have : heedRow ps (.lead ts o th) = none := by unfold heedRow; exact if_pos hb
      unfold HeedR
      rw [this]
      exact r
    · refine xs_nil fun H2 s2 => ?_
      rw [List.any_map] at hb
      have : heedRow ps (.lead ts o th) = some (.lead (ts.filter fun x => decide (partOf x ∈ ps)) o th) := by
        unfold heedRow
        exact if_neg (by
          intro q
          have hb' : (ts.any fun x => decide (x = partOf x) && !decide (x ∈ ps)) = false := hb
          rw [q] at hb'; cases hb')
      refine xs_ret (R := RowR W (.lead (ts.filter fun x => decide (partOf x ∈ ps)) o th)) (xe_make (Rs := [LstV ((ts.filter fun x => decide (partOf x ∈ ps)).map V.str), Is (.str o), Is (.str th)]) c2 hr (xa_cons ?_ (xa_cons (xe_leadOld RC (xe_var 0 rfl) (Mon.mono _ _ _ s2 hx)) (xa_cons (xe_leadThen RC (xe_var 0 rfl) (Mon.mono _ _ _ s2 hx)) xa_nil))) fun vs H1 s1 hv => ?_) fun v H1 s1 r => ⟨s2.trans s1, ?_⟩
      · refine XE.vals (xe_lcS (own := [("test", 2)]) (j := 2) (src := ts) (rel := fun z => Is (.str z)) (ff := fun z => Is (.str z)) (pp := fun x => decide (partOf x ∈ ps)) (XI.len (xi_tupV (xe_leadTests RC (xe_var 0 rfl) (Mon.mono _ _ _ s2 hx))) (by simp)) (fun _ _ _ _ _ _ => ys_X V.str _ _ _ _ _) (fun _ => inferInstance) (fun _ => inferInstance) (by omega) sc_heeding_row.nd (blkOk_by (N := n_heeding_row) (sc := defScope s_heeding_row) (by decide +kernel))
            (fun _ _ _ _ _ => pg_name (i := 2) sc_heeding_row.nd rfl (Or.inl rfl)) fun z x G2 hz e2 hx => ⟨fun s0' H0 Cc cl fp => ?_, fun _ s0' H0 Cc cl fp => ?_⟩)
        · cases hx
          exact xt_cmp op_in_seq (xe_call1 c1 hr (xe_var 2 rfl) fun H1 _ => ⟨z, rfl, tests_len (hok.1 z hz), rfl⟩) (xe_var 1 rfl) (rv_inS ((hp.mono s2).mono e2).sq) rfl
        · cases hx
          exact xe_var 2 rfl
      · match vs, hv with
        | [v1, v2, v3], hv =>
          obtain ⟨q, rfl, hq⟩ := hv.1
          cases hv.2.1; cases hv.2.2.1
          exact ⟨q, _, o, th, rfl, .inl hq, Nat.le_trans (List.length_filter_le _ _) (by omega), lead_ok_filter hok, rfl⟩
      · unfold HeedR
        rw [this]
        exact r
/-! ### rows by number, other rows -/
def preNeedRow (W : Wd) : List V → Hp → VP → Prop := fun vs H R => ∃ (t : LT) (a : Addr) (i : Nat), vs = [.ref a, .int i] ∧ ToolA W t a H ∧ i < t.rows.length ∧ R = Is .non
theorem met_need_row (B : Blt W) (C : ToolC W) (A : MethAt W (cTool W) "need_row" "Tool.need_row" s_Tool_need_row ["self", "at"]) : Met W 1 (cTool W) "need_row" (Pure (preNeedRow W)) := by
  refine met_pure A sc_Tool_need_row (fun vs H R h => by obtain ⟨_, _, _, rfl, _⟩ := h; rfl) fun f cdv A outer s H vs R E hr h => ?_
  obtain ⟨t, a, i, rfl, ht, hi, rfl⟩ := h
  refine xs_ifF (XT.cast (xt_not (xt_chain (x := .int 0) (y := .int i) (z := .int t.rows.length) op_le op_lt xe_int (xe_var 1 rfl) (xe_lenL (x := .non) (R := TupR (t.rows.map (RowR W))) B.len (xe_rows C (xe_var 0 rfl) ht) fun v H1 s1 ⟨q, xs, h1, h2, h3⟩ => ⟨q, xs, h1, .inr (SqT.of h2), by rw [h3.length]; simp⟩) rv_I0 fun _ => rv_I0)) ?_) (xs_nil fun H1 s1 => ⟨s1, rfl⟩)
  · rw [decide_eq_true (show (0 : Int) ≤ (i : Int) by omega), decide_eq_true (show (i : Int) < (t.rows.length : Int) by omega)]
    rfl
def preBut (W : Wd) : List V → Hp → VP → Prop := fun vs H R => ∃ (t : LT) (a ar : Addr) (xs : List V) (rs : List LR), vs = [.ref a, .ref ar] ∧ ToolA W t a H ∧ LorT H ar xs ∧ AllR (rs.map (RowR W)) xs H ∧ ({ t with rows := rs } : LT).ok ∧ R = ToolR W ({ t with rows := rs } : LT).norm
theorem met_but (C : ToolC W) (c1 : Mak W 4 "Tool" (cTool W) (Init (cTool W) (preTool W))) (A : MethAt W (cTool W) "but" "Tool.but" s_Tool_but ["self", "rows"]) : Met W 6 (cTool W) "but" (Pure (preBut W)) := by
  refine met_pure A sc_Tool_but (fun vs H R h => by obtain ⟨_, _, _, _, _, rfl, _⟩ := h; rfl) fun f cdv A outer s H vs R E hr h => ?_
  obtain ⟨t, a, ar, xs, rs, rfl, ht, hq, hrr, hok, rfl⟩ := h
  refine xs_ret (R := ToolR W ({ t with rows := rs } : LT).norm) (xe_make (Rs := [TupV (t.marks.map V.str), TupV (t.told.map V.str), TupV (t.parts.map V.str), Is (.bl t.clears), Is (.ref ar)]) c1 hr (xa_cons (xe_marks C (xe_var 0 rfl) ht) (xa_cons (xe_told C (xe_var 0 rfl) ht) (xa_cons (xe_parts C (xe_var 0 rfl) ht) (xa_cons (xe_clears C (xe_var 0 rfl) ht) (xa_cons (xe_var 1 rfl) xa_nil))))) fun vs H1 s1 hv => ?_) fun v H1 s1 r => ⟨s1, r⟩
  match vs, hv with
  | [v1, v2, v3, v4, v5], hv =>
    obtain ⟨q1, rfl, h1⟩ := hv.1
    obtain ⟨q2, rfl, h2⟩ := hv.2.1
    obtain ⟨q3, rfl, h3⟩ := hv.2.2.1
    cases hv.2.2.2.1; cases hv.2.2.2.2.1
    exact ⟨q1, q2, q3, ar, { t with rows := rs }, xs, rfl, .inr h1, .inr h2, .inr h3, hq.mono s1, rowsMono s1 hrr, hok, rfl⟩
theorem allR_take {Rs : List VP} {xs : List V} {H : Hp} (k : Nat) (h : AllR Rs xs H) : AllR (Rs.take k) (xs.take k) H := by
  induction k generalizing Rs xs with
  | zero => trivial
  | succ k ih =>
    match Rs, xs, h with
    | [], [], _ => trivial
    | R :: Rs, x :: xs, h => exact ⟨h.1, ih h.2⟩
theorem allR_drop {Rs : List VP} {xs : List V} {H : Hp} (k : Nat) (h : AllR Rs xs H) : AllR (Rs.drop k) (xs.drop k) H := by
  induction k generalizing Rs xs with
  | zero => exact h
  | succ k ih =>
    match Rs, xs, h with
    | [], [], _ => trivial
    | R :: Rs, x :: xs, h => exact ih h.2
/-- slices of a tuple told by relations -/
theorem xe_sliceTR {X : Cx} {e : Expr} {σ : St} {H : Hp} {pos p2 : Pos} {Rs : List VP} {lo hi : Option Expr} {i j : Option Int} {cut : List VP} (hm : MonL Rs) (he : XE X e σ H (TupR Rs)) (h1 : SlO X σ H lo i) (h2 : SlO X σ H hi j) (hc : ∀ xs H1, AllR Rs xs H1 → AllR cut (cutV xs i j) H1) : XE X (.Subscript e (.Slice lo hi none p2) pos) σ H (SeqR X.K cut) := by
  obtain ⟨t1, p1, q1⟩ := h1.po
  obtain ⟨t2, p2', q2⟩ := h2.po
  exact XE.of (pe_slice sl_tupA pe_s p1 p2') fun H1 s1 Q k => he.s s1 fun v H2 e2 ⟨ad, xs, hv, hq, hr⟩ => by
    subst hv
    refine q1 H2 (s1.trans e2) _ fun H3 e3 => q2 H3 ((s1.trans e2).trans e3) _ fun H4 e4 => ⟨ad, xs, rfl, SqT.of (e4 _ _ (e3 _ _ hq)), fun hw => ?_, fun _ p hp => ?_⟩
    · have h := hc xs H4 (AllR.mono hm (e3.trans e4) hr)
      rw [cut_whole hw] at h
      exact k _ _ ((e2.trans e3).trans e4) ⟨ad, xs, rfl, .inl (SqT.of (e4 _ _ (e3 _ _ hq))), h⟩
    · exact k _ _ (((e2.trans e3).trans e4).trans (newS hp)) ⟨p, _, rfl, .inl (SqT.of upd_same), hc xs _ (AllR.mono hm ((e3.trans e4).trans (newS hp)) hr)⟩
def LT.without (t : LT) (i : Nat) : LT := { t with rows := t.rows.take i ++ t.rows.drop (i + 1) }
def preWithout (W : Wd) : List V → Hp → VP → Prop := fun vs H R => ∃ (t : LT) (a : Addr) (i : Nat), vs = [.ref a, .int i] ∧ ToolA W t a H ∧ i < t.rows.length ∧ (t.without i).ok ∧ t.rows.length ≤ 1000 ∧ R = ToolR W (t.without i).norm
theorem met_without (C : ToolC W) (c0 : Met W 1 (cTool W) "need_row" (Pure (preNeedRow W))) (c1 : Met W 6 (cTool W) "but" (Pure (preBut W))) (A : MethAt W (cTool W) "without" "Tool.without" s_Tool_without ["self", "at"]) : Met W 7 (cTool W) "without" (Pure (preWithout W)) := by
  refine met_pure A sc_Tool_without (fun vs H R h => by obtain ⟨_, _, _, rfl, _⟩ := h; rfl) fun f cdv A outer s H vs R E hr h => ?_
  obtain ⟨t, a, i, rfl, ht, hi, hok, hlen, rfl⟩ := h
  refine xs_expr (R := Is .non) (xe_tool1 c0 hr (xe_var 0 rfl) ht (xe_var 1 rfl) fun H1 _ ht => ⟨t, a, i, rfl, ht, hi, rfl⟩) fun _ H0 s0 _ => ?_
  have ht0 := ht.mono s0
  have hml : MonL (t.rows.map (RowR W)) := monL_map (fun _ => inferInstance) _
  have ew : ∀ am at_ ap c ar b, (toolFs am at_ ap c ar b).lookup ("but" : Str) = none := by intros; rfl
  obtain ⟨dx, fs, hi', am, at_, ap, ar, xs, rfl, hh⟩ := id ht0
  refine xs_ret (R := ToolR W (t.without i).norm) (xe_meth (Rs := [TupR ((t.without i).rows.map (RowR W))]) c1 hr (xe_var 0 rfl) hi' (ew _ _ _ _ _ _) (xa_cons ?_ xa_nil) fun vs H1 s1 hv => ?_) fun v H1 s1 r => ⟨s0.trans s1, r⟩
  · have e : (t.without i).rows.map (RowR W) = (t.rows.take i).map (RowR W) ++ ((t.rows.drop (i + 1)).map (RowR W) ++ []) := by
      rw [List.append_nil, ← List.map_append]
      rfl
    rw [e]
    refine xe_tup (xa_star (monL_map (fun _ => inferInstance) _) (xe_sliceTR hml (xe_rows C (xe_var 0 rfl) ht0) .none (.some (xe_var 1 rfl)) fun xs H1 h => ?_) (xa_star (monL_map (fun _ => inferInstance) _) (xe_sliceTR (i := some ((i + 1 : Nat) : Int)) hml (xe_rows C (xe_var 0 rfl) ht0) (.some ?_) .none fun xs H1 h => ?_) xa_nil)) ?_
    · rw [cutV_upto, List.map_take]
      exact allR_take i h
    · exact xe_op (x := .int i) (y := .int 1) op_add (xe_var 1 rfl) xe_int rv_I0
    · rw [cutV_from, List.map_drop]
      exact allR_drop (i + 1) h
    · simp only [List.length_append, List.length_map, List.length_take, List.length_drop, List.length_nil]
      omega
  · match vs, hv with
    | [v], hv =>
      obtain ⟨q, ys, rfl, h1, h2⟩ := hv.1
      exact ⟨t, a, q, ys, (t.without i).rows, rfl, ht0.mono s1, .inr h1, h2, hok, rfl⟩
def LT.heeding (t : LT) (ps : List Str) : LT := { t with rows := t.rows.filterMap (heedRow ps) }
def preHeeding (W : Wd) : List V → Hp → VP → Prop := fun vs H R => ∃ (t : LT) (a ap : Addr) (ps : List Str), vs = [.ref a, .ref ap] ∧ ToolA W t a H ∧ LorT H ap (ps.map V.str) ∧ (∀ r ∈ t.rows, r.ok) ∧ (t.heeding ps).ok ∧ t.rows.length ≤ 1000 ∧ R = ToolR W (t.heeding ps).norm
theorem filterMap_filter {ps : List Str} : ∀ (rs : List LR) {W : Wd}, (rs.filter fun r => (heedRow ps r).isSome).map (HeedR W ps) = (rs.filterMap (heedRow ps)).map (RowR W)
  | [], _ => rfl
  | r :: rs, W => by
    have ih := filterMap_filter (ps := ps) rs (W := W)
    cases h : heedRow ps r with
    | none => rw [List.filter_cons, h, List.filterMap_cons, h]; exact ih
    | some r' =>
      rw [List.filter_cons, h, List.filterMap_cons, h]
      have e : HeedR W ps r = RowR W r' := by unfold HeedR; rw [h]
      show HeedR W ps r :: _ = RowR W r' :: _
      rw [e, ih]
theorem met_heeding (C : ToolC W) (c0 : Cal W 5 "heeding_row" (Pure (preHeedRow W))) (c1 : Met W 6 (cTool W) "but" (Pure (preBut W))) (A : MethAt W (cTool W) "heeding" "Tool.heeding" s_Tool_heeding ["self", "parts"]) : Met W 7 (cTool W) "heeding" (Pure (preHeeding W)) := by
  refine met_pure A sc_Tool_heeding (fun vs H R h => by obtain ⟨_, _, _, _, rfl, _⟩ := h; rfl) fun f cdv A outer s H vs R E hr h => ?_
  obtain ⟨t, a, ap, ps, rfl, ht, hp, hrok, hok, hlen, rfl⟩ := h
  refine XL.set (i := 2) (R := LstR ((t.rows.filter fun _ => true).map (HeedR W ps))) ?_ rfl rfl (by rfl) fun v H1 s1 hv => ?_
  · exact xl_lcS (pp := fun _ => true) (own := [("row", 3)]) (j := 3) (src := t.rows) (rel := RowR W) (ff := HeedR W ps) (Y := YR (t.rows.map (RowR W))) (XI.len (xi_tup ((xe_rows C (xe_var 0 rfl) ht).imp fun v H2 _ ⟨q, xs, h1, h2, h3⟩ => ⟨q, xs, h1, SqT.of h2, h3⟩)) (by simp)) (fun _ _ _ _ _ _ => ys_R _ _ _ _ _) (fun _ => inferInstance) (fun _ => inferInstance) (by omega) sc_Tool_heeding.nd (blkOk_by (N := n_Tool_heeding) (sc := defScope s_Tool_heeding) (by decide +kernel))
            (fun _ _ _ _ _ => pg_name (i := 3) sc_Tool_heeding.nd rfl (Or.inl rfl)) fun r x G2 hr' e2 hx => ⟨rfl, fun _ s0' H0 Cc cl fp => xe_call2 c0 hr (xe_var 3 rfl) (xe_var 1 rfl) fun H1 s1 => ⟨x, r, ap, ps, rfl, Mon.mono _ _ _ s1 hx, hrok r hr', (hp.mono e2).mono s1, rfl⟩⟩
  · rw [filter_true] at hv
    have ht1 := ht.mono s1
    obtain ⟨q, ys, rfl, hq, hys⟩ := hv
    obtain ⟨dx, fs, hi', am, at_, ap', ar, xs, rfl, hh⟩ := id ht1
    have ew : ∀ am at_ ap c ar b, (toolFs am at_ ap c ar b).lookup ("but" : Str) = none := by intros; rfl
    refine xs_ret (R := ToolR W (t.heeding ps).norm) (xe_meth (Rs := [LstR ((t.heeding ps).rows.map (RowR W))]) c1 hr (xe_var 0 rfl) hi' (ew _ _ _ _ _ _) (xa_cons ?_ xa_nil) fun vs H2 s2 hv => ?_) fun v H2 s2 r => ⟨s1.trans s2, r⟩
    · rw [show (t.heeding ps).rows.map (RowR W) = (t.rows.filter fun r => (heedRow ps r).isSome).map (HeedR W ps) from (filterMap_filter _).symm]
      refine xe_lcS (own := [("row", 3)]) (j := 3) (src := t.rows) (rel := HeedR W ps) (ff := HeedR W ps) (pp := fun r => (heedRow ps r).isSome) (Y := YR (t.rows.map (HeedR W ps))) (xi_seqR (xe_var 2 rfl) (.inl hq) hys fun _ => inferInstance) (fun _ _ _ _ _ _ => ys_R _ _ _ _ _) (fun _ => inferInstance) (fun _ => inferInstance) (by omega) sc_Tool_heeding.nd (blkOk_by (N := n_Tool_heeding) (sc := defScope s_Tool_heeding) (by decide +kernel))
            (fun _ _ _ _ _ => pg_name (i := 3) sc_Tool_heeding.nd rfl (Or.inl rfl)) fun r x G2 hr' e2 hx => ⟨fun s0' H0 Cc cl fp => ?_, fun _ s0' H0 Cc cl fp => (xe_var 3 rfl).is fun H3 s3 => Mon.mono _ _ _ s3 hx⟩
      refine XT.cast (xt_notN (xe_var 3 rfl)) ?_
      unfold HeedR at hx
      cases h : heedRow ps r with
      | none => rw [h] at hx; cases hx; rfl
      | some r' =>
        rw [h] at hx
        obtain ⟨b, dx', fs', rfl, _⟩ := hx
        rw [decide_eq_false (fun z => nomatch z)]
        rfl
    · match vs, hv with
      | [v], hv =>
        obtain ⟨q', ys', rfl, h1, h2⟩ := hv.1
        exact ⟨t, a, q', ys', (t.heeding ps).rows, rfl, ht1.mono s2, .inl h1, h2, hok, rfl⟩
def preLen (W : Wd) : List V → Hp → VP → Prop := fun vs H R => ∃ (t : LT) (a : Addr), vs = [.ref a] ∧ ToolA W t a H ∧ R = Is (.int t.rows.length)
theorem met_len (B : Blt W) (C : ToolC W) (A : MethAt W (cTool W) "__len__" "Tool.__len__" s_Tool_len ["self"]) : Met W 1 (cTool W) "__len__" (Pure (preLen W)) := by
  refine met_pure A sc_Tool_len (fun vs H R h => by obtain ⟨_, _, rfl, _⟩ := h; rfl) fun f cdv A outer s H vs R E hr h => ?_
  obtain ⟨t, a, rfl, ht, rfl⟩ := h
  exact xs_ret (xe_lenL (x := .non) (R := TupR (t.rows.map (RowR W))) B.len (xe_rows C (xe_var 0 rfl) ht) fun v H1 s1 ⟨q, xs, h1, h2, h3⟩ => ⟨q, xs, h1, .inr (SqT.of h2), by rw [h3.length]; simp⟩) fun v H1 s1 r => ⟨s1, r⟩
end
end LM

set_option maxHeartbeats 4000000
namespace LM
open PySem PySem.Spec PyProof.Rows L2
/-! ### texts of tools -/
def LT.heads (t : LT) : List (List Str) := ["marks" :: t.marks, "told" :: t.told, "parts" :: t.parts]
def sendOf (b : Bool) : Str := if b then "send clear" else "send keep"
def LT.lines (t : LT) : List Str := (t.heads.map (Txt.join " ")) ++ (sendOf t.clears :: (t.rows.map LR.text))
def LT.text (t : LT) : Str := Txt.join "\n" t.lines
structure LT.small (t : LT) : Prop where
  marks : t.marks.length ≤ 20
  mlen : ∀ m ∈ t.marks, m.length ≤ 100
  told : t.told.length ≤ 20
  tlen : ∀ m ∈ t.told, m.length ≤ 100
  parts : t.parts.length ≤ 20
  plen : ∀ m ∈ t.parts, m.length ≤ 100
  rows : t.rows.length ≤ 40
  short : ∀ r ∈ t.rows, r.short
theorem sum_le' {l : List Str} {k : Nat} (h : ∀ x ∈ l, x.length ≤ k) : (l.map (·.length)).sum ≤ k * l.length := by
  induction l with
  | nil => simp
  | cons a r ih =>
    have h1 := h a (by simp)
    have h2 := ih fun x hx => h x (by simp [hx])
    simp only [List.map_cons, List.sum_cons, List.length_cons, Nat.mul_succ]
    omega
theorem head_len {a : Str} {l : List Str} (ha : a.length ≤ 100) (hl : l.length ≤ 20) (h : ∀ x ∈ l, x.length ≤ 100) : ((a :: l).map (·.length)).sum + (a :: l).length * (" " : Str).length ≤ 3000 ∧ (Txt.join " " (a :: l)).length ≤ 3000 := by
  have k5 : (" " : Str).length = 1 := by decide +kernel
  have h1 := sum_le' (k := 100) (l := a :: l) fun x hx => by
    rcases List.mem_cons.mp hx with rfl | hx
    · exact ha
    · exact h x hx
  have h2 := join_len " " (a :: l)
  rw [k5] at h2 ⊢
  simp only [List.length_cons] at h1 h2 ⊢
  omega
theorem heads_len {t : LT} (h : t.small) : ∀ ws ∈ t.heads, (ws.map (·.length)).sum + ws.length * (" " : Str).length ≤ 3000 ∧ (Txt.join " " ws).length ≤ 3000 := by
  intro ws hw
  simp only [LT.heads, List.mem_cons, List.not_mem_nil, or_false] at hw
  rcases hw with rfl | rfl | rfl
  · exact head_len (by decide +kernel) h.marks h.mlen
  · exact head_len (by decide +kernel) h.told h.tlen
  · exact head_len (by decide +kernel) h.parts h.plen
theorem lines_len {t : LT} (h : t.small) : (∀ z ∈ t.lines, z.length ≤ 5000) ∧ t.lines.length ≤ 44 := by
  refine ⟨fun z hz => ?_, ?_⟩
  · rcases List.mem_append.mp hz with q | q
    · obtain ⟨ws, hw, rfl⟩ := List.mem_map.mp q
      have := (heads_len h ws hw).2
      omega
    · rcases List.mem_cons.mp q with rfl | q
      · have : ∀ b, (sendOf b).length ≤ 5000 := by decide +kernel
        exact this _
      · obtain ⟨r, hr, rfl⟩ := List.mem_map.mp q
        exact text_short (h.short r hr)
  · have := h.rows
    simp only [LT.lines, LT.heads, List.length_append, List.length_map, List.length_cons, List.length_nil]
    omega
section
variable {W : Wd}
theorem seqR_of {K : PySem.W.Frag} {xs : List V} {v : V} {H : Hp} (h : TupV xs v H ∨ LstV xs v H) : SeqR K (xs.map Is) v H := by
  rcases h with ⟨a, h1, h2⟩ | ⟨a, h1, h2⟩
  · exact ⟨a, xs, h1, .inl (SqT.of h2), allR_isOf xs⟩
  · exact ⟨a, xs, h1, .inr (SqL.of h2), allR_isOf xs⟩
def preToolStr (W : Wd) : List V → Hp → VP → Prop := fun vs H R => ∃ (t : LT) (a : Addr), vs = [.ref a] ∧ ToolA W t a H ∧ t.small ∧ R = Is (.str t.text)
theorem xe_headL {X : Cx} {e : Expr} {σ : St} {H : Hp} {pos p1 p2 : Pos} {j : _} {w : Str} {ss : List Str} (h : XE X e σ H (TupV (ss.map V.str))) (hl : ss.length ≤ 20) (hst : starEach [.Constant (.str w) j p1, .Starred e p2] X.env = (false, eval (.Constant (.str w) j p1) X.env) :: starEach [.Starred e p2] X.env := by rfl)
    (hs : starEach [.Starred e p2] X.env = (true, eval e X.env) :: starEach [] X.env := by rfl) : XE X (.List [.Constant (.str w) j p1, .Starred e p2] pos) σ H (LstV ((w :: ss).map V.str)) := by
  have := xe_lst (pos := pos) (xa_cons (R := Is (.str w)) (xe_str (j := j) (pos := p1)) (xa_star (Rs' := (ss.map V.str).map Is) (monL_is _) (h.imp fun v H2 _ q => seqR_of (.inl q)) xa_nil hs) hst) (by simp; omega)
  rw [List.append_nil] at this
  exact XE.lstV (xs := (w :: ss).map V.str) this
theorem met_tool_str (B : Blt W) (C : ToolC W) (S : RowStr W) (A : MethAt W (cTool W) "__str__" "Tool.__str__" s_Tool_str ["self"]) : Met W 4 (cTool W) "__str__" (Pure (preToolStr W)) := by
  refine met_pure A sc_Tool_str (fun vs H R h => by obtain ⟨_, _, rfl, _⟩ := h; rfl) fun f cdv A outer s H vs R E hr h => ?_
  obtain ⟨t, a, rfl, ht, hsm, rfl⟩ := h
  refine xs_set (R := LstR (t.heads.map fun ws => LstV (ws.map V.str))) 1 (xe_lst (Rs := t.heads.map fun ws => LstV (ws.map V.str)) (xa_cons (xe_headL (xe_marks C (xe_var 0 rfl) ht) hsm.marks) (xa_cons (xe_headL (xe_told C (xe_var 0 rfl) ht) hsm.told) (xa_cons (xe_headL (xe_parts C (xe_var 0 rfl) ht) hsm.parts) xa_nil))) (by simp [LT.heads])) (fun v H1 s1 hv => ?_) sc_Tool_str.nd
  obtain ⟨q1, xs1, rfl, hq1, hx1⟩ := hv
  refine XL.set (i := 2) (R := LstR ((t.heads.filter fun _ => true).map fun ws => Is (.str (Txt.join " " ws)))) ?_ rfl rfl (by rfl) fun v H2 s2 hv => ?_
  · exact xl_lcS (own := [("words", 4)]) (j := 4) (src := t.heads) (rel := fun ws => LstV (ws.map V.str)) (pp := fun _ => true) (xi_seqR (rel := fun ws => LstV (ws.map V.str)) (xe_var 1 rfl) (.inl hq1) hx1 fun _ => inferInstance) (fun _ _ _ _ _ _ => ys_R _ _ _ _ _) (fun _ => inferInstance) (fun _ => inferInstance) (by simp [LT.heads]) sc_Tool_str.nd (blkOk_by (N := n_Tool_str) (sc := defScope s_Tool_str) (by decide +kernel))
            (fun _ _ _ _ _ => pg_name (i := 4) sc_Tool_str.nd rfl (Or.inl rfl)) fun ws x G2 hw e2 hx => ⟨rfl, fun _ s0' H0 Cc cl fp => by
        obtain ⟨q, rfl, hq⟩ := hx
        exact xe_join (Ra := LstV (ws.map V.str)) xe_str ((xe_var 4 rfl).is fun H3 s3 => ⟨q, rfl, s3 _ _ hq⟩) (fun v H1 s1 ⟨p, hp, hh⟩ => ⟨p, hp, .inl (SqL.of hh)⟩) (by have := (heads_len hsm ws hw).1; omega)⟩
  rw [filter_true] at hv
  obtain ⟨q2, rfl, hq2⟩ : LstV ((t.heads.map (Txt.join " ")).map V.str) v H2 := by
    rw [List.map_map]
    refine lstR_is ?_
    rw [List.map_map]
    exact hv
  have ht2 := (ht.mono s1).mono s2
  refine xs_setv 3 (v := .str (sendOf t.clears)) (xe_if (p := t.clears) (xt_val (xe_clears C (xe_var 0 rfl) ht2)) (fun hb => ?_) fun hb => ?_) ?_ sc_Tool_str.nd
  · rw [hb]; exact xe_str
  · rw [hb]; exact xe_str
  have hll := lines_len hsm
  refine xs_ret (xe_join (ys := t.lines) (Ra := LstV (t.lines.map V.str)) xe_str ?_ (fun v H1 s1 ⟨p, hp, hh⟩ => ⟨p, hp, .inl (SqL.of hh)⟩) ?_) fun v H3 s3 r => ⟨(s1.trans s2).trans s3, r⟩
  · have e : t.lines.map V.str = (t.heads.map (Txt.join " ")).map V.str ++ (.str (sendOf t.clears) :: ((t.rows.map LR.text).map V.str ++ [])) := by
      rw [List.append_nil]
      show ((t.heads.map (Txt.join " ")) ++ (sendOf t.clears :: (t.rows.map LR.text))).map V.str = _
      rw [List.map_append, List.map_cons]
    have e2 : (t.lines.map V.str).map Is = ((t.heads.map (Txt.join " ")).map V.str).map Is ++ (Is (.str (sendOf t.clears)) :: (((t.rows.map LR.text).map V.str).map Is ++ [])) := by
      rw [e, List.map_append, List.map_cons, List.map_append]
      rfl
    refine XE.lstV ?_
    rw [e2]
    refine xe_lst (xa_star (monL_is _) ((xe_var 2 rfl).is fun H3 s3 => seqR_of (.inr ⟨q2, rfl, s3 _ _ hq2⟩)) (xa_cons (xe_var 3 rfl) (xa_star (monL_is _) ?_ xa_nil))) ?_
    · refine XE.imp (R := LstV ((t.rows.map LR.text).map V.str)) ?_ fun v H3 _ q => seqR_of (.inr q)
      have hrw := hsm.rows
      refine XE.imp (R := LstR ((t.rows.filter fun _ => true).map fun r => Is (.str r.text))) (xe_lcS (own := [("row", 5)]) (j := 5) (src := t.rows) (rel := RowR W) (pp := fun _ => true) (Y := YR (t.rows.map (RowR W))) (XI.len (xi_tup ((xe_rows C (xe_var 0 rfl) ht2).imp fun v H2 _ ⟨q, xs, h1, h2, h3⟩ => ⟨q, xs, h1, SqT.of h2, h3⟩)) (by simp)) (fun _ _ _ _ _ _ => ys_R _ _ _ _ _) (fun _ => inferInstance) (fun _ => inferInstance) (by omega) sc_Tool_str.nd (blkOk_by (N := n_Tool_str) (sc := defScope s_Tool_str) (by decide +kernel))
            (fun _ _ _ _ _ => pg_name (i := 5) sc_Tool_str.nd rfl (Or.inl rfl)) fun r x G2 hr' e2 hx => ⟨rfl, fun _ s0' H0 Cc cl fp => xe_strRow S hr B.str ((xe_var 5 rfl).is fun H3 s3 => Mon.mono _ _ _ s3 hx) (hsm.short r hr')⟩) fun v H3 _ q => ?_
      rw [filter_true] at q
      rw [List.map_map]
      refine lstR_is ?_
      rw [List.map_map]
      exact q
    · rw [← e2]
      have := hll.2
      simp only [List.length_map]
      omega
  · have h1 := sum_le' hll.1
    have k5 : ("\n" : Str).length = 1 := by decide +kernel
    rw [k5]
    have := hll.2
    omega
/-! ### tools compared -/
def preToolEq (W : Wd) : List V → Hp → VP → Prop := fun vs H R => ∃ (t u : LT) (a b : Addr), vs = [.ref a, .ref b] ∧ ToolA W t a H ∧ ToolA W u b H ∧ t.small ∧ u.small ∧ R = Is (.bl (decide (t.text = u.text)))
theorem xe_toolStr {X : Cx} {j : Nat} {e : Expr} {σ : St} {H : Hp} {p pos : Pos} {t : LT} {a : Addr} (c : Met (wd X) 4 (cTool (wd X)) "__str__" (Pure (preToolStr (wd X)))) (hr : Room j X.A) (B : Blt (wd X)) (ho : XV X e σ H (.ref a)) (ht : ToolA (wd X) t a H) (hs : t.small) (hk : 6 ≤ j := by decide) (hg : Gl X "str" := by rfl)
    (he : starEach [e] X.env = (false, eval e X.env) :: starEach [] X.env := by rfl) (hpl : (backTo pos (starEach [] X.env)).any (·.1) = false := by rfl) : XV X (.Call (.Name "str" p) [e] [] pos) σ H (.str t.text) :=
  xe_strO c hr B.str (ho.is fun H2 e2 => by
    obtain ⟨dx, fs, h1, h2⟩ := ht.mono e2
    exact ⟨a, dx, fs, rfl, h1, fun H1 s1 => ⟨t, a, rfl, (ht.mono e2).mono s1, hs, rfl⟩⟩) hk hg he hpl
theorem met_tool_eq (B : Blt W) (C : ToolC W) (c1 : Met W 4 (cTool W) "__str__" (Pure (preToolStr W))) (A : MethAt W (cTool W) "__eq__" "Tool.__eq__" s_Tool_eq ["self", "other"]) : Met W 7 (cTool W) "__eq__" (Pure (preToolEq W)) := by
  refine met_pure A sc_Tool_eq (fun vs H R h => by obtain ⟨_, _, _, _, rfl, _⟩ := h; rfl) fun f cdv A outer s H vs R E hr h => ?_
  obtain ⟨t, u, a, b, rfl, ha, hb, hs1, hs2, rfl⟩ := h
  refine xs_ret (xe_and (p := true) (q := decide (t.text = u.text)) (xe_isi B.isi (xe_var 1 rfl) (xe_globR C.mTool) (.own (cTool W)) (fun H1 s1 => by
    obtain ⟨dx, fs, h1, _⟩ := hb.mono s1
    exact C.ty H1 b dx fs h1) (by unfold PySem.W.kitOne; rw [if_pos (by simp)])) fun _ => xe_and1 (xe_cmp op_eq (xe_toolStr c1 hr B (xe_var 0 rfl) ha hs1) (xe_toolStr c1 hr B (xe_var 1 rfl) hb hs2) rv_eqS (nomark _))) fun v H1 s1 r => ⟨s1, r⟩
/-- t != u -/
theorem xt_neT {X : Cx} {j : Nat} {e1 e2 : Expr} {σ : St} {H : Hp} {pos : Pos} {t u : LT} (N : NeC X.K (cTool (wd X))) (c : Met (wd X) 7 (cTool (wd X)) "__eq__" (Pure (preToolEq (wd X)))) (hr : Room j X.A) (h1 : XE X e1 σ H (ToolR (wd X) t)) (h2 : XE X e2 σ H (ToolR (wd X) u)) (s1 : t.small) (s2 : u.small) (hk : 8 ≤ j := by decide) (hm : behindInMarks .NotEq e2 = false := by rfl) :
    XT X (.Compare e1 [.NotEq] [e2] pos) σ H (!decide (t.text = u.text)) :=
  xt_cmpR (op_neO N c (hr.mono hk)) h1 h2 (fun x y H1 _ hx hy => by
    obtain ⟨a, dx, fs, rfl, ha, hf⟩ := hx
    obtain ⟨b, dy, gs, rfl, hb, hg⟩ := hy
    exact rv_neO ha hb fun H2 s => ⟨t, u, a, b, rfl, ToolA.mono s ⟨dx, fs, ha, hf⟩, ToolA.mono s ⟨dy, gs, hb, hg⟩, s1, s2, rfl⟩) hm
end
end LM

set_option maxHeartbeats 4000000
namespace LM
open PySem PySem.Spec PyProof.Rows L2
section
variable {X : Cx} {a b e : Expr} {σ : St} {H : Hp} {pos : Pos} {xs : List V} {v : V} {R : VP}
/-- an item of what a relation tells -/
theorem xe_ixR {i : Int} [Mon R] (ha : XE X a σ H R) (hb : XV X b σ H (.int i)) (hq : ∀ u H1, R u H1 → ∃ p, u = .ref p ∧ SqT X.K H1 p xs) (hv : atI xs i = some v) (hs : PlainIx b := by exact fun _ _ => rfl) : XV X (.Subscript a b pos) σ H v :=
  XE.of (pe_ix ix_tup pe_s pe_s hs) fun H1 s1 Q k => ha.s s1 fun u H2 e2 q => hb.s (s1.trans e2) fun w H3 e3 r => by
    cases r
    obtain ⟨p, rfl, hq⟩ := hq u H2 q
    exact ⟨p, xs, i, v, rfl, rfl, st_mono e3 hq, hv, k _ H3 (e2.trans e3) rfl⟩
/-- a written dict: [key] -/
theorem xe_kdItem {d : Addr} {es : Array DictEntry} {n : Nat} {z : Str} {u0 : Value} (D : KDict X.K X.w d es n) (ha : XV X a σ H (.ref d)) (hb : XV X b σ H (.str z)) (he : PySem.W.nsIn X.K d z = some (some u0)) (r : RelV v u0) (hs : NoSl b := by exact fun _ _ => rfl) : XV X (.Subscript a b pos) σ H v := by
  have hp : PE X (.Subscript a b pos) (fun σ H Q => sE X a σ H fun x H1 => sE X b σ H1 fun y H2 => x = .ref d ∧ y = .str z ∧ Q v H2) := ⟨fun pins s σ H Q I h => by
    refine subD_of PySem.F.slot_dict_getitem.lookup hs (thn (pe_s.run pins s σ H _ I h) fun u s1 ⟨x, H1, I1, rx, q1⟩ => thn (pe_s.run pins s1 σ H1 _ I1 q1) fun iv s2 ⟨y, H2, I2, ry, ex, ey, q2⟩ => ?_)
    subst ex ey
    obtain rfl : u = Value.ref d := rx
    exact ⟨kd_type D I2, op_item_kd D pins s2 σ H2 (.ref d) (.str z) _ _ Q I2 rfl ry ⟨z, u0, v, rfl, rfl, he, r, q2⟩⟩⟩
  exact XE.of hp fun H1 s1 Q k => ha.s s1 fun u H2 e2 q => hb.s (s1.trans e2) fun w H3 e3 q' => ⟨q, q', k v H3 (e2.trans e3) rfl⟩
end
/-! ### lines -/
theorem nl_no {w : Str} (h : Clean w) : 10 ∉ TL.tl w := h.no10
theorem join_no10 : ∀ {ws : List Str}, (∀ y ∈ ws, Clean y) → 10 ∉ TL.tl (Txt.join " " ws) := by
  intro ws h
  rw [tl_join', sp_S]
  induction ws with
  | nil => intro hm; cases hm
  | cons w r ih =>
    intro hm
    cases r with
    | nil => exact (h w (by simp)).no10 hm
    | cons w2 r =>
      have hm : 10 ∈ TL.tl w ++ ([32] ++ TL.joinL [32] ((w2 :: r).map TL.tl)) := hm
      rcases List.mem_append.mp hm with q | q
      · exact (h w (by simp)).no10 q
      · rcases List.mem_append.mp q with q | q
        · simp at q
        · exact ih (fun y hy => h y (by simp only [List.mem_cons] at hy ⊢; exact .inr hy)) q
theorem clean_part {w : Str} (h : w ∈ lPARTS) : Clean w := by
  have : lPARTS.all (fun w => (TL.tl w).all (fun c => decide (97 ≤ c ∧ c ≤ 122))) = true := by decide +kernel
  exact clean_of (List.all_eq_true.mp this w h)
theorem heads_clean {t : LT} (h : t.ok) : ∀ ws ∈ t.heads, ∀ y ∈ ws, Clean y := by
  have k1 : Clean "marks" := clean_of (by decide +kernel)
  have k2 : Clean "told" := clean_of (by decide +kernel)
  have k3 : Clean "parts" := clean_of (by decide +kernel)
  have hm : ∀ m ∈ t.marks, Clean m := fun m hm => clean_name (h.names m hm).2
  intro ws hw y hy
  simp only [LT.heads, List.mem_cons, List.not_mem_nil, or_false] at hw
  rcases hw with rfl | rfl | rfl
  · rcases List.mem_cons.mp hy with rfl | hy
    · exact k1
    · exact hm y hy
  · rcases List.mem_cons.mp hy with rfl | hy
    · exact k2
    · exact hm y (List.mem_of_mem_drop (h.told y hy))
  · rcases List.mem_cons.mp hy with rfl | hy
    · exact k3
    · exact clean_part (h.parts y hy)
theorem split_lines {t : LT} (h : t.ok) : Txt.split t.text "\n" = t.lines := by
  unfold LT.text
  rw [nl_S]
  refine split_join1 10 (by decide) _ (by simp [LT.lines]) fun z hz => ?_
  rcases List.mem_append.mp hz with q | q
  · obtain ⟨ws, hw, rfl⟩ := List.mem_map.mp q
    exact join_no10 (heads_clean h ws hw)
  · rcases List.mem_cons.mp q with rfl | q
    · have : ∀ b, 10 ∉ TL.tl (sendOf b) := by decide +kernel
      exact this _
    · obtain ⟨r, hr, rfl⟩ := List.mem_map.mp q
      exact text_no10 (h.rows r hr)
theorem split_words {ws : List Str} (hne : ws ≠ []) (h : ∀ y ∈ ws, Clean y) : Txt.split (Txt.join " " ws) " " = ws := by
  rw [sp_S]
  exact split_join1 32 (by decide) _ hne fun p hp => (h p hp).no32
def FitLine (i : Nat) (z : Str) : Prop := (3 < i ∧ ∃ r : LR, r.ok ∧ r.short ∧ z = r.text) ∨ (i = 3 ∧ ∃ b, z = sendOf b) ∨
  (i < 3 ∧ ∃ ws : List Str, ws.length ≤ 20 ∧ z = Txt.join " " ((["marks", "told", "parts"] : List Str).getD i "" :: ws) ∧ (∀ w ∈ ws, w.length ≤ 100) ∧ (i = 0 → ws ≠ []) ∧ (i ≠ 2 → ∀ w ∈ ws, isName w = true) ∧ (i = 2 → ∀ w ∈ ws, w ∈ lPARTS))
theorem part_short {w : Str} (h : w ∈ lPARTS) : w.length ≤ 100 := by
  have : lPARTS.all (fun w => decide (w.length ≤ 100)) = true := by decide +kernel
  exact of_decide_eq_true (List.all_eq_true.mp this w h)
theorem fit_lines {t : LT} (h : t.ok) (hs : t.small) {i : Nat} {z : Str} (hz : t.lines[i]? = some z) : FitLine i z := by
  have key : t.lines = Txt.join " " ("marks" :: t.marks) :: Txt.join " " ("told" :: t.told) :: Txt.join " " ("parts" :: t.parts) :: sendOf t.clears :: t.rows.map LR.text := rfl
  rw [key] at hz
  match i, hz with
  | 0, hz =>
    cases hz
    exact .inr (.inr ⟨by omega, t.marks, hs.marks, rfl, hs.mlen, fun _ => h.ne, fun _ m hm => (h.names m hm).2, fun q => absurd q (by decide)⟩)
  | 1, hz =>
    cases hz
    exact .inr (.inr ⟨by omega, t.told, hs.told, rfl, hs.tlen, fun q => absurd q (by decide), fun _ m hm => (h.names m (List.mem_of_mem_drop (h.told m hm))).2, fun q => absurd q (by decide)⟩)
  | 2, hz =>
    cases hz
    exact .inr (.inr ⟨by omega, t.parts, hs.parts, rfl, hs.plen, fun q => absurd q (by decide), fun q => absurd rfl q, fun _ => h.parts⟩)
  | 3, hz =>
    cases hz
    exact .inr (.inl ⟨rfl, _, rfl⟩)
  | i + 4, hz =>
    have hz : (t.rows.map LR.text)[i]? = some z := hz
    rw [List.getElem?_map] at hz
    cases hr : t.rows[i]? with
    | none => rw [hr] at hz; cases hz
    | some r =>
      rw [hr] at hz
      cases hz
      have hm := List.mem_of_getElem? hr
      exact .inl ⟨by omega, r, h.rows r hm, hs.short r hm, rfl⟩
structure SendsC (W : Wd) : Prop where
  ex : ∃ d es n, W.mg "SENDS" = some (.ref d) ∧ KDict W.K W.w d es n ∧ PySem.W.nsIn W.K d "send clear" = some (some (.bool true)) ∧ PySem.W.nsIn W.K d "send keep" = some (some (.bool false))
section
variable {W : Wd}
def preIsRow : List V → Hp → VP → Prop := fun vs H R => ∃ r : LR, vs = [.str r.text] ∧ r.ok ∧ r.short ∧ R = Is (.bl true)
theorem cal_is_row (RK : RowK W) (c1 : CMeth W 6 (cRow W) "read" (Pure (preRowRead W))) (A : DefAt W "is_row" s_is_row ["line"]) : Cal W 7 "is_row" (Pure preIsRow) := by
  refine cal_pure A sc_is_row (fun vs H R h => by obtain ⟨_, rfl, _⟩ := h; rfl) fun f cdv A outer s H vs R E hr h => ?_
  obtain ⟨r, rfl, hok, hs, rfl⟩ := h
  refine xs_try ?_
  refine xs_expr (R := RowR W r) (xe_cmeth1 c1 hr (xe_globR RK.mRow) (xe_var 0 rfl) fun H1 _ => ⟨r, rfl, hok, hs, rfl⟩) fun v H1 s1 _ => xs_nil fun H2 s2 => ?_
  exact xs_ret xe_bl fun v H3 s3 q => ⟨(s1.trans s2).trans s3, q⟩
def preWordsBehind : List V → Hp → VP → Prop := fun vs H R => ∃ (w : Str) (ws : List Str), vs = [.str (Txt.join " " (w :: ws)), .str w] ∧ (∀ y ∈ w :: ws, Clean y) ∧ (∀ y ∈ w :: ws, y.length ≤ 100) ∧ ws.length ≤ 100 ∧ R = LstV (ws.map V.str)
theorem cal_words_behind (A : DefAt W "words_behind" s_words_behind ["line", "word"]) : Cal W 1 "words_behind" (Pure preWordsBehind) := by
  refine cal_pure A sc_words_behind (fun vs H R h => by obtain ⟨_, _, rfl, _⟩ := h; rfl) fun f cdv A outer s H vs R E hr h => ?_
  obtain ⟨w, ws, rfl, hc, hlen, hl, rfl⟩ := h
  have hj := join_len " " (w :: ws)
  have k5 : (" " : Str).length = 1 := by decide +kernel
  have hsum := sum_le' hlen
  rw [k5] at hj
  simp only [List.length_cons] at hj hsum
  refine xs_set (R := LstV ((w :: ws).map V.str)) 2 (by
    have := split_words (ws := w :: ws) (by simp) hc
    conv => arg 5; rw [← this]
    exact xe_split (xe_var 0 rfl) xe_str (by decide +kernel) (by omega)) (fun v H1 s1 hv => ?_) sc_words_behind.nd
  obtain ⟨q, rfl, hq⟩ := hv
  refine xs_ret (xe_if (p := true) (XT.cast (xt_cmp (x := .str w) (y := .str w) op_eq (xe_ixL (xe_var 2 rfl) xe_int (SqL.of hq) (atI_nat (j := 0) rfl)) (xe_var 1 rfl) rv_eqS (nomark _)) (decide_eq_true rfl)) (fun _ => ?_) fun q => nomatch q) fun v H2 s2 r => ⟨s1.trans s2, r⟩
  have := cutV_from ((w :: ws).map V.str) 1
  exact xe_sliceLc (xe_var 2 rfl) (SqL.of hq) (.some xe_int) .none (by rw [show (1 : Int) = ((1 : Nat) : Int) from rfl, this]; rfl)
def preIsFit : List V → Hp → VP → Prop := fun vs H R => ∃ (i : Nat) (z : Str), vs = [.int i, .str z] ∧ i ≤ 100000 ∧ FitLine i z ∧ R = Is (.bl true)
theorem clean_kw : ∀ i, Clean ((["marks", "told", "parts"] : List Str).getD i "") ∧ ((["marks", "told", "parts"] : List Str).getD i "").length ≤ 100 := by
  have h : (["marks", "told", "parts"] : List Str).all (fun w => (TL.tl w).all (fun c => decide (97 ≤ c ∧ c ≤ 122)) && decide (w.length ≤ 100)) = true := by decide +kernel
  intro i
  match i with
  | 0 => exact ⟨clean_of (by decide +kernel), by decide +kernel⟩
  | 1 => exact ⟨clean_of (by decide +kernel), by decide +kernel⟩
  | 2 => exact ⟨clean_of (by decide +kernel), by decide +kernel⟩
  | i + 3 => exact ⟨(fun c hc => (List.not_mem_nil hc).elim), (by show (0 : Nat) ≤ 100; omega)⟩
theorem cal_is_fit (B : Blt W) (Wo : Words W) (SC : SendsC W) (c1 : Cal W 7 "is_row" (Pure preIsRow)) (c2 : Cal W 1 "words_behind" (Pure preWordsBehind)) (c3 : Cal W 1 "is_name" (Pure preIsName)) (A : DefAt W "is_fit" s_is_fit ["at", "line"]) : Cal W 8 "is_fit" (Pure preIsFit) := by
  refine cal_pure A sc_is_fit (fun vs H R h => by obtain ⟨_, _, rfl, _⟩ := h; rfl) fun f cdv A outer s H vs R E hr h => ?_
  obtain ⟨i, z, rfl, hi, hf, rfl⟩ := h
  obtain ⟨pa, hpa, hpq, _⟩ := Wo.parts.ex
  obtain ⟨d, es, n, hm, D, hs1, hs2⟩ := SC.ex
  rcases hf with ⟨h3, r, hok, hsh, rfl⟩ | ⟨rfl, b, rfl⟩ | ⟨h3, ws, hl, rfl, hlen, hne, hnm, hpt⟩
  · refine xs_ifT (XT.cast (xt_cmp (x := .int i) (y := .int 3) op_gt (xe_var 0 rfl) xe_int rv_I0 (nomark _)) (decide_eq_true (by omega))) ?_
    exact xs_ret (xe_call1 c1 hr (xe_var 1 rfl) fun H1 _ => ⟨r, rfl, hok, hsh, rfl⟩) fun v H1 s1 r => ⟨s1, r⟩
  · refine xs_ifF (xt_cmp (x := .int 3) (y := .int 3) op_gt (xe_var 0 rfl) xe_int rv_I0 (nomark _)) ?_
    refine xs_ifT (XT.cast (xt_cmp (x := .int 3) (y := .int 3) op_eq (xe_var 0 rfl) xe_int rv_eqI (nomark _)) rfl) ?_
    refine xs_ret (xe_cmp (op_in_kd D) (xe_var 1 rfl) (xe_globR hm) (fun H1 s1 Q k => ?_) (by rfl)) fun v H1 s1 r => ⟨s1, r⟩
    cases b with
    | true => exact ⟨_, _, rfl, rfl, hs1, k _ H1 (Same.refl _) rfl⟩
    | false => exact ⟨_, _, rfl, rfl, hs2, k _ H1 (Same.refl _) rfl⟩
  · refine xs_ifF (XT.cast (xt_cmp (x := .int i) (y := .int 3) op_gt (xe_var 0 rfl) xe_int rv_I0 (nomark _)) (decide_eq_false (by omega))) ?_
    refine xs_ifF (XT.cast (xt_cmp (x := .int i) (y := .int 3) op_eq (xe_var 0 rfl) xe_int rv_eqI (nomark _)) (decide_eq_false (by omega))) ?_
    have hkw := clean_kw i
    have hcl : ∀ w ∈ ws, Clean w := fun w hw => by
      by_cases q : i = 2
      · exact clean_part (hpt q w hw)
      · exact clean_name (hnm q w hw)
    refine xs_set (R := LstV (ws.map V.str)) 2 (xe_call2 c2 hr (xe_var 1 rfl) (xe_ixR (R := TupV ((["marks", "told", "parts"] : List Str).map V.str)) (XE.tupV (xs := (["marks", "told", "parts"] : List Str).map V.str) (xe_tup (Rs := [Is (.str "marks"), Is (.str "told"), Is (.str "parts")]) (xa_cons xe_str (xa_cons xe_str (xa_cons xe_str xa_nil))) (by simp))) (xe_var 0 rfl) (fun u H1 ⟨p, h1, h2⟩ => ⟨p, h1, SqT.of h2⟩) (v := .str ((["marks", "told", "parts"] : List Str).getD i "")) (atI_nat (by
      match i, h3 with
      | 0, _ => rfl
      | 1, _ => rfl
      | 2, _ => rfl))) fun H1 _ => ⟨_, ws, rfl, fun y hy => by
        rcases List.mem_cons.mp hy with rfl | hy
        · exact hkw.1
        · exact hcl y hy, fun y hy => by
        rcases List.mem_cons.mp hy with rfl | hy
        · exact hkw.2
        · exact hlen y hy, by omega, rfl⟩) (fun v H1 s1 hv => ?_) sc_is_fit.nd
    obtain ⟨q, rfl, hq⟩ := hv
    refine xs_ifF (XT.cast (XW.t (xw_or (p := false) (q := decide (i = 0) && decide (ws.length = 0)) (XT.cast (xt_isN (xe_var 2 rfl)) (decide_eq_false fun q => nomatch q)) fun _ => xw_or1 (XW.t (xw_and (XT.cast (xt_cmp (x := .int i) (y := .int 0) op_eq (xe_var 0 rfl) xe_int rv_eqI (nomark _)) (by
        by_cases q : i = 0
        · subst q; rfl
        · rw [decide_eq_false q]; exact decide_eq_false (by omega))) fun _ => xw_and1 (XT.cast (xt_cmp (x := .int ws.length) (y := .int 0) op_eq (xe_lenL (x := .non) B.len (xe_var 2 rfl) fun v H1 s1 r => ⟨q, _, r, .inl (SqL.of (s1 _ _ hq)), by simp⟩) xe_int rv_eqI (nomark _)) (by
        by_cases q : ws.length = 0
        · rw [q]; rfl
        · rw [decide_eq_false q]; exact decide_eq_false (by omega))))))) ?_) ?_
    · by_cases q : i = 0
      · have : ws.length ≠ 0 := fun z => hne q (List.length_eq_zero_iff.mp z)
        rw [decide_eq_false this, Bool.and_false]
        rfl
      · rw [decide_eq_false q]
        rfl
    · refine xs_ret (xe_all B.all (XE.bools (g := fun _ : Str => true) (xe_lcS (own := [("word", 3)]) (j := 3) (src := ws) (rel := fun z => Is (.str z)) (XI.len (xi_listX (xe_var 2 rfl) (SqL.of hq)) (by simp)) (fun _ _ _ _ _ _ => ys_X V.str _ _ _ _ _) (fun _ => inferInstance) (fun _ => inferInstance) (by omega) sc_is_fit.nd (blkOk_by (N := n_is_fit) (sc := defScope s_is_fit) (by decide +kernel))
            (fun _ _ _ _ _ => pg_name (i := 3) sc_is_fit.nd rfl (Or.inl rfl)) fun w x G2 hw e2 hx => ⟨rfl, fun _ s0' H0 Cc cl fp => ?_⟩))) fun v H3 s3 r => ⟨s1.trans s3, ?_⟩
      · cases hx
        refine xe_if (p := decide (i = 2)) (XT.cast (xt_cmp (x := .int i) (y := .int 2) op_eq (xe_var 0 rfl) xe_int rv_eqI (nomark _)) (by
          by_cases q : i = 2
          · subst q; rfl
          · rw [decide_eq_false q]; exact decide_eq_false (by omega))) (fun hp => ?_) fun hp => ?_
        · exact XE.cast (xe_cmp op_in_seq (xe_var 3 rfl) (xe_globR hpa) (rv_inS (.inr (hpq _))) rfl) (by rw [decide_eq_true (hpt (of_decide_eq_true hp) w hw)])
        · exact xe_call1 c3 hr (xe_var 3 rfl) fun H1 _ => ⟨w, rfl, by have := hlen w hw; omega, by rw [hnm (of_decide_eq_false hp) w hw]⟩
      · cases r
        rw [all_id_true fun _ _ => rfl]
        rfl
end
end LM

set_option maxHeartbeats 4000000
namespace LM
open PySem PySem.Spec PyProof.Rows L2
section
variable {W : Wd}
def preFaultIn : List V → Hp → VP → Prop := fun vs H R => ∃ (a : Addr) (zs : List Str), vs = [.ref a] ∧ H a = some (.lst (zs.map V.str)) ∧ (∀ i z, zs[i]? = some z → FitLine i z) ∧ 4 ≤ zs.length ∧ zs.length ≤ 1000 ∧ R = Is .non
theorem keptN_none {n : Nat} {f : Nat → VP} : keptN n (fun _ => false) f = [] := by
  unfold keptN
  rw [show (List.range n).filter (fun _ => false) = [] by simp]
  rfl
theorem cal_fault_in (B : Blt W) (c1 : Cal W 8 "is_fit" (Pure preIsFit)) (A : DefAt W "fault_in" s_fault_in ["lines"]) : Cal W 9 "fault_in" (Pure preFaultIn) := by
  refine cal_pure A sc_fault_in (fun vs H R h => by obtain ⟨_, _, rfl, _⟩ := h; rfl) fun f cdv A outer s H vs R E hr h => ?_
  obtain ⟨a, zs, rfl, ha, hf, h4, hl, rfl⟩ := h
  have hll : (zs.map V.str).length = zs.length := by simp
  refine XL.set (i := 1) (R := LstR (keptN (zs.map V.str).length (fun _ => false) fun i => Is (.int (i : Nat)))) ?_ rfl rfl (by rfl) fun v H1 s1 hv => ?_
  · refine xl_lcP (own := [("at", 2), ("line", 3)]) (ja := 2) (jb := 3) (fun _ => inferInstance) (xi_enum B.enum (xe_var 0 rfl) (SqL.of ha)) yp_enum (by omega) sc_fault_in.nd (blkOk_by (N := n_fault_in) (sc := defScope s_fault_in) (by decide +kernel))
      (fun _ _ _ _ _ => pg_2 rfl sc_fault_in.nd rfl rfl (Or.inl rfl) (Or.inl rfl) (.inr rfl) (.inr rfl)) fun i u v x G2 G' hi e1 e2 hr' => ⟨?_, fun q => nomatch q⟩
    obtain ⟨rfl, hv⟩ := hr'
    rw [List.getElem?_map] at hv
    cases hz : zs[i]? with
    | none => rw [hz] at hv; cases hv
    | some z =>
      rw [hz] at hv
      cases hv
      intro s0' H0 Cc cl fp
      exact XT.cast (xt_not (xt_val (p := true) (xe_call2 c1 hr (xe_var 2 rfl) (xe_var 3 rfl) fun H1 _ => ⟨i, z, rfl, by omega, hf i z hz, rfl⟩))) rfl
  rw [keptN_none] at hv
  obtain ⟨q, ys, rfl, hq, hy⟩ := hv
  cases ys with
  | cons y r => exact hy.elim
  | nil =>
    refine xs_ifF (XT.cast (xt_cmp (x := .int ([] : List V).length) (y := .int 0) op_gt (xe_len B.len (xe_var 1 rfl) (.inl (SqL.of hq))) xe_int rv_I0 (nomark _)) rfl) ?_
    refine xs_ret (xe_if (p := false) (XT.cast (xt_cmp (x := .int zs.length) (y := .int 4) op_lt (xe_lenL (x := .non) B.len (xe_var 0 rfl) fun v H2 s2 r => ⟨a, _, r, .inl (SqL.of (s2 _ _ (s1 _ _ ha))), hll⟩) xe_int rv_I0 (nomark _)) (decide_eq_false (by omega))) (fun q => nomatch q) fun _ => xe_non) fun v H2 s2 r => ⟨s1.trans s2, r⟩
end
/-! ### a class held by a local -/
section
variable {X : Cx} {CX : CXT} {k j i : Nat} {C f : Addr} {fd : FuncData} {ps : List Str} {sp : Sp} {dvs : List V} {ds : List Value} {E : XK} {x : Str} {p pos : Pos} {e : Expr} {es : List Expr} {t : TA} {σ : St} {H : Hp} {Rs : List VP}
theorem pe_makeL (M : Mk X.K C f) (F : FnOk X.prog X.w X.K X.mg X.base CX k f fd ps sp) (hr : Room (k + 1) X.A) (hN : X.N[i]? = some x) (hv : Vis X.env.scope x) (hb : Binds X.K fd ps ds) (hd : Vals dvs ds) (hx : Passes CX X E)
    (ha : PA X (e :: es) t) (hdb : (x == ("__debug__" : Str)) = false := by decide) (hcd : (x == ("__classdict__" : Str)) = false := by decide) (he : starEach (e :: es) X.env = (false, eval e X.env) :: starEach es X.env := by rfl) (hpl : (backTo pos (starEach es X.env)).any (·.1) = false := by rfl) :
    PE X (.Call (.Name x p) (e :: es) [] pos) (fun σ H Q => σ[i]? = some (some (.ref C)) ∧ tMake C sp dvs E t σ H Q) := by
  refine ⟨fun pins s σ H Q I h => ?_⟩
  obtain ⟨hs, ht⟩ := h
  refine wpAny_Call_Name_kw (thn ((pe_var (pos := p) hN hv hdb hcd).run pins s σ H (fun v H1 => v = .ref C ∧ H1 = H) I ⟨.ref C, hs, rfl, rfl⟩) fun u s1 ⟨v, H1, I1, r1, q1⟩ => ?_)
  obtain ⟨rfl, rfl⟩ := q1
  cases r1
  refine PySem.W.callWith_K (h₀ := X.base) I.ok.mod.kin M.kp (thn (ha.run pos pins s1 σ _ _ I1 ht) fun us s2 ⟨vs, H2, I2, r, q⟩ => ⟨I2.kIn, ?_⟩) he hpl
  exact run_make M F hr hb hd hx I2 r q
theorem xe_makeL {y : Str} {F : List (Str × V) → Hp → Prop} {ipre : List V → Hp → (List (Str × V) → Hp → Prop) → Prop} (c : Mak (wd X) k y C (Init C ipre)) (hr : Room j X.A) (i : Nat) (hσ : σ[i]? = some (some (.ref C))) (ha : XA X (e :: es) σ H Rs) (hp : ∀ vs H1, Same H H1 → AllR Rs vs H1 → ipre vs H1 F)
    (hk : k + 1 ≤ j := by decide) (hN : X.N[i]? = some x := by rfl) (hv : Vis X.env.scope x := by first | exact Or.inl rfl | exact Or.inr (Or.inl rfl) | exact Or.inr (Or.inr rfl))
    (hdb : (x == ("__debug__" : Str)) = false := by decide) (hcd : (x == ("__classdict__" : Str)) = false := by decide) (he : starEach (e :: es) X.env = (false, eval e X.env) :: starEach es X.env := by rfl) (hpl : (backTo pos (starEach es X.env)).any (·.1) = false := by rfl) : XE X (.Call (.Name x p) (e :: es) [] pos) σ H (InsR C F) := by
  obtain ⟨f, fd, ps, M, G, hm, b⟩ := c.ex
  exact XE.of (pe_makeL (i := i) M G (hr.mono hk) hN hv b .nil pass0 pa_s hdb hcd he hpl) fun H1 e1 Q k => ⟨hσ, ha.s e1 fun vs H2 e2 q => fun y dx ny nd ne =>
    ⟨y, dx, vs, H2, F, by rw [List.append_nil], ny, made_same ny nd, upd_same, hp vs H2 (e1.trans e2) q, fun H3 fs e3 h3 hf => ⟨rfl, k _ H3 (e2.trans e3) ⟨y, dx, fs, rfl, h3, hf⟩⟩⟩⟩
theorem xe_sliceLV {lo hi : Option Expr} {a b : Option Int} {p2 : Pos} {xs : List V} (he : XE X e σ H (LstV xs)) (h1 : SlO X σ H lo a) (h2 : SlO X σ H hi b) : XE X (.Subscript e (.Slice lo hi none p2) pos) σ H (LstV (cutV xs a b)) := by
  obtain ⟨t1, p1, q1⟩ := h1.po
  obtain ⟨t2, p2', q2⟩ := h2.po
  exact XE.of (pe_slice sl_list pe_s p1 p2') fun H1 s1 Q k => he.s s1 fun v H2 e2 ⟨ad, hv, hq⟩ => by
    subst hv
    exact q1 H2 (s1.trans e2) _ fun H3 e3 => q2 H3 ((s1.trans e2).trans e3) _ fun H4 e4 => ⟨ad, xs, rfl, SqL.of (e4 _ _ (e3 _ _ hq)), fun p hp => k _ _ (((e2.trans e3).trans e4).trans (newS hp)) ⟨p, rfl, upd_same⟩⟩
end
section
variable {W : Wd}
def preRead (W : Wd) : List V → Hp → VP → Prop := fun vs H R => ∃ t : LT, vs = [.ref (cTool W), .str t.text] ∧ t.ok ∧ t.small ∧ R = ToolR W t.norm
theorem LstR_three {R1 R2 R3 : VP} {v : V} {H : Hp} (h : LstR [R1, R2, R3] v H) : ∃ a x y z, v = .ref a ∧ H a = some (.lst [x, y, z]) ∧ R1 x H ∧ R2 y H ∧ R3 z H := by
  obtain ⟨a, xs, rfl, ha, hr⟩ := h
  match xs, hr with
  | [x, y, z], hr => exact ⟨a, x, y, z, rfl, ha, hr.1, hr.2.1, hr.2.2.1⟩
theorem text_len {t : LT} (h : t.small) : t.text.length ≤ 300000 := by
  have hll := lines_len h
  have h1 := join_len "\n" t.lines
  have h2 := sum_le' hll.1
  have k5 : ("\n" : Str).length = 1 := by decide +kernel
  rw [k5] at h1
  unfold LT.text
  have := hll.2
  omega
theorem cm_tool_read (B : Blt W) (RK : RowK W) (SC : SendsC W) (c1 : Cal W 9 "fault_in" (Pure preFaultIn)) (c2 : Mak W 4 "Tool" (cTool W) (Init (cTool W) (preTool W))) (c3 : CMeth W 6 (cRow W) "read" (Pure (preRowRead W))) (A : CMethAt W (cTool W) "read" "Tool.read" s_Tool_read ["cls", "text"]) : CMeth W 10 (cTool W) "read" (Pure (preRead W)) := by
  refine cmeth_pure A sc_Tool_read (fun vs H R h => by obtain ⟨_, rfl, _⟩ := h; rfl) fun f cdv A outer s H vs R E hr h => ?_
  obtain ⟨t, rfl, hok, hsm, rfl⟩ := h
  obtain ⟨d, es, n, hm, D, hs1, hs2⟩ := SC.ex
  have hll := lines_len hsm
  have htl := text_len hsm
  have hrw := hsm.rows
  have key : t.lines = t.heads.map (Txt.join " ") ++ (sendOf t.clears :: t.rows.map LR.text) := rfl
  have hlen4 : t.lines.length = 4 + t.rows.length := by rw [key]; simp [LT.heads]; omega
  refine xs_set (R := LstV (t.lines.map V.str)) 2 (by
    rw [← split_lines hok]
    exact xe_split (xe_var 1 rfl) xe_str (by decide +kernel) (by omega)) (fun v H1 s1 hv => ?_) sc_Tool_read.nd
  obtain ⟨q, rfl, hq⟩ := hv
  refine xs_setv 3 (v := .non) (xe_call1 c1 hr (xe_var 2 rfl) fun H2 s2 => ⟨q, t.lines, rfl, s2 _ _ hq, fun i z hz => fit_lines hok hsm hz, by omega, by omega, rfl⟩) ?_ sc_Tool_read.nd
  refine xs_ifF (XT.cast (xt_notN (xe_var 3 rfl)) rfl) ?_
  refine xs_asg (R := LstR ((t.heads.filter fun _ => true).map fun ws => LstV ((ws.drop 1).map V.str))) (g := gUnl W.K 3 (gCons (gName 4) (gCons (gName 5) (gCons (gName 6) gNil)))) (pg_unl rfl (pgs_cons (pg_name (i := 4) sc_Tool_read.nd rfl (Or.inl rfl)) (pgs_cons (pg_name (i := 5) sc_Tool_read.nd rfl (Or.inl rfl)) (pgs_cons (pg_name (i := 6) sc_Tool_read.nd rfl (Or.inl rfl)) pgs_nil)))) ?_ fun v H2 s2 hv => ?_
  · refine xe_lcS (own := [("line", 7)]) (j := 7) (src := t.heads) (rel := fun ws => Is (.str (Txt.join " " ws))) (pp := fun _ => true) (Y := YX (t.heads.map fun ws => .str (Txt.join " " ws))) (XI.len (XI.of (pi_list pe_s) fun H2 e2 R k => (xe_sliceLV (a := none) (b := some 3) (xs := t.lines.map V.str) ((xe_var 2 rfl).is fun H3 s3 => ⟨q, rfl, s3 _ _ hq⟩) .none (.some xe_int)).s e2 fun v H3 e3 ⟨b, hv, hb⟩ => ⟨b, hv, ⟨_, SqL.of hb⟩, k _ H3 e3 (walk_list.mono (fun H' e => SqL.of (e _ _ hb)) fun i H' x H'' _ _ y => ⟨y.1, ?_⟩)⟩) ?_) (fun _ _ _ _ _ _ => ys_X (fun ws => V.str (Txt.join " " ws)) _ _ _ _ _) (fun _ => inferInstance) (fun _ => inferInstance) (by simp [LT.heads]) sc_Tool_read.nd (blkOk_by (N := n_Tool_read) (sc := defScope s_Tool_read) (by decide +kernel))
            (fun _ _ _ _ _ => pg_name (i := 7) sc_Tool_read.nd rfl (Or.inl rfl)) fun ws x G2 hw e2 hx => ⟨rfl, fun _ s0' H0 Cc cl fp => ?_⟩
    · have y2 := y.2
      rw [show (3 : Int) = ((3 : Nat) : Int) from rfl, cutV_upto] at y2
      exact y2
    · rw [show (3 : Int) = ((3 : Nat) : Int) from rfl, cutV_upto, List.length_take, List.length_map, hlen4]
      simp only [LT.heads, List.length_cons, List.length_nil]
      omega
    · cases hx
      have hne : ws ≠ [] := by
        simp only [LT.heads, List.mem_cons, List.not_mem_nil, or_false] at hw
        rcases hw with rfl | rfl | rfl <;> simp
      have h2 := split_words hne (heads_clean hok ws hw)
      have h3 := (heads_len hsm ws hw).2
      have e := cutV_from (ws.map V.str) 1
      rw [← List.map_drop] at e
      rw [← e]
      refine xe_sliceLV (xs := ws.map V.str) ?_ (.some xe_int) .none
      conv => arg 5; rw [← h2]
      exact xe_split (xe_var 7 rfl) xe_str (by decide +kernel) (by omega)
  · rw [filter_true] at hv
    obtain ⟨b, x, y, z, rfl, hb, ⟨am, rfl, ham⟩, ⟨at_, rfl, hat⟩, ⟨ap, rfl, hap⟩⟩ := LstR_three hv
    refine ⟨b, _, rfl, SqL.of hb, rfl, _, _, rfl, _, _, rfl, _, _, rfl, rfl, ?_⟩
    have hq2 := s2 _ _ hq
    refine xs_ret (R := ToolR W t.norm) (xe_makeL (Rs := [Is (.ref am), Is (.ref at_), Is (.ref ap), Is (.bl t.clears), LstR (t.rows.map (RowR W))]) c2 hr 0 rfl (xa_cons (xe_var 4 rfl) (xa_cons (xe_var 5 rfl) (xa_cons (xe_var 6 rfl) (xa_cons ?_ (xa_cons ?_ xa_nil))))) fun vs H3 s3 hv => ?_) fun v H3 s3 r => ⟨(s1.trans s2).trans s3, r⟩
    · have hi : atI (t.lines.map V.str) 3 = some (.str (sendOf t.clears)) := atI_nat (j := 3) rfl
      cases hc : t.clears with
      | true => rw [hc] at hi; exact xe_kdItem D (xe_globR hm) (xe_ixL (xe_var 2 rfl) xe_int (SqL.of hq2) hi) hs1 rfl
      | false => rw [hc] at hi; exact xe_kdItem D (xe_globR hm) (xe_ixL (xe_var 2 rfl) xe_int (SqL.of hq2) hi) hs2 rfl
    · rw [← filter_true t.rows]
      refine xe_lcS (own := [("line", 7)]) (j := 7) (src := t.rows) (rel := fun r => Is (.str r.text)) (ff := RowR W) (pp := fun _ => true) (Y := YX (t.rows.map fun r => .str r.text)) (XI.len (XI.of (pi_list pe_s) fun H2 e2 R k => (xe_sliceLV (a := some 4) (b := none) (xs := t.lines.map V.str) ((xe_var 2 rfl).is fun H3 s3 => ⟨q, rfl, s3 _ _ hq2⟩) (.some xe_int) .none).s e2 fun v H3 e3 ⟨b, hv, hb⟩ => ⟨b, hv, ⟨_, SqL.of hb⟩, k _ H3 e3 (walk_list.mono (fun H' e => SqL.of (e _ _ hb)) fun i H' x H'' _ _ y => ⟨y.1, ?_⟩)⟩) ?_) (fun _ _ _ _ _ _ => ys_X (fun r : LR => V.str r.text) _ _ _ _ _) (fun _ => inferInstance) (fun _ => inferInstance) (by omega) sc_Tool_read.nd (blkOk_by (N := n_Tool_read) (sc := defScope s_Tool_read) (by decide +kernel))
            (fun _ _ _ _ _ => pg_name (i := 7) sc_Tool_read.nd rfl (Or.inl rfl)) fun r x G2 hr' e2 hx => ⟨rfl, fun _ s0' H0 Cc cl fp => ?_⟩
      · have y2 := y.2
        rw [show (4 : Int) = ((4 : Nat) : Int) from rfl, cutV_from] at y2
        have : (t.lines.map V.str).drop 4 = t.rows.map fun r => V.str r.text := by
          rw [key, List.map_append]
          show (t.rows.map LR.text).map V.str = _
          rw [List.map_map]
          rfl
        rw [this] at y2
        exact y2
      · rw [show (4 : Int) = ((4 : Nat) : Int) from rfl, cutV_from, List.length_drop, List.length_map, hlen4]
        omega
      · cases hx
        exact xe_cmeth1 c3 hr (xe_globR RK.mRow) (xe_var 7 rfl) fun H1 _ => ⟨r, rfl, hok.rows r hr', hsm.short r hr', rfl⟩
    · match vs, hv with
      | [v1, v2, v3, v4, v5], hv =>
        cases hv.1; cases hv.2.1; cases hv.2.2.1; cases hv.2.2.2.1
        obtain ⟨ar, xs, rfl, har, hxs⟩ := hv.2.2.2.2.1
        exact ⟨am, at_, ap, ar, t, xs, rfl, .inl (s3 _ _ ham), .inl (s3 _ _ hat), .inl (s3 _ _ hap), .inl har, hxs, hok, rfl⟩
end
end LM

set_option maxHeartbeats 4000000
/-! plain: steps, what can come about -/
namespace LM
open PySem L2
def lEIGHT : List Pat := [(false, false, false), (false, false, true), (false, true, false), (false, true, true), (true, false, false), (true, false, true), (true, true, false), (true, true, true)]
structure SD where
  begin : It2
  mach : It2 → List It2
  led : It2 → Pat → It2
  joined : It2 → It2 → It2
/-- new ones are known, and wait -/
def addAll (k p : List It2) : List It2 → List It2 × List It2
  | [] => (k, p)
  | y :: r => if y ∈ k then addAll k p r else addAll (k ++ [y]) (p ++ [y]) r
inductive Bfs (next : It2 → List It2) : List It2 → List It2 → List It2 → Prop
  | done {k} : Bfs next k [] k
  | step {k x p r} : Bfs next (addAll k p (next x)).1 (addAll k p (next x)).2 r → Bfs next k (x :: p) r
theorem Bfs.det {next : It2 → List It2} {k p r r' : List It2} (h : Bfs next k p r) (h' : Bfs next k p r') : r = r' := by
  induction h with
  | done => cases h'; rfl
  | step _ ih => cases h' with | step h' => exact ih h'
inductive EditR (S : SD) : List It2 → List It2 → List It2 → List It2 → List It2 → Prop
  | done {k f} : EditR S k f [] k f
  | step {k f x p k' f'} : EditR S (addAll k p (lEIGHT.map (S.led x))).1 (f ++ [x]) (addAll k p (lEIGHT.map (S.led x))).2 k' f' → EditR S k f (x :: p) k' f'
theorem EditR.det {S : SD} {k f p k1 f1 k2 f2 : List It2} (h : EditR S k f p k1 f1) (h' : EditR S k f p k2 f2) : k1 = k2 ∧ f1 = f2 := by
  induction h with
  | done => cases h'; exact ⟨rfl, rfl⟩
  | step _ ih => cases h' with | step h' => exact ih h'
def heardL (S : SD) (coming layer : List It2) : List It2 := layer.flatMap fun x => coming.map (S.joined x)
inductive HearR (S : SD) (coming : List It2) : List It2 → List (It2 × Nat) → List It2 → Nat → List (It2 × Nat) → Prop
  | done {k hs n} : HearR S coming k hs [] n hs
  | step {k hs x l n k1 f1 r} : EditR S k [] (x :: l) k1 f1 → HearR S coming (addAll k1 [] (heardL S coming f1)).1 (hs ++ f1.map fun y => (y, n)) (addAll k1 [] (heardL S coming f1)).2 (n + 1) r → HearR S coming k hs (x :: l) n r
theorem HearR.det {S : SD} {c k l : List It2} {hs r r' : List (It2 × Nat)} {n : Nat} (h : HearR S c k hs l n r) (h' : HearR S c k hs l n r') : r = r' := by
  induction h with
  | done => cases h'; rfl
  | step he _ ih => cases h' with
    | step he' h' =>
      obtain ⟨rfl, rfl⟩ := he.det he'
      exact ih h'
def addKey (ks : List It2) (y : It2) : List It2 := if y ∈ ks then ks else ks ++ [y]
def comeOf (S : SD) (ks : List It2) (x : It2) : List It2 := (lEIGHT.map (S.led x)).foldl addKey (addKey ks x)
def comingOf (S : SD) (m : List It2) : List It2 := m.foldl (comeOf S) []
structure WaysD where
  machine : List It2
  coming : List It2
  hearings : List (It2 × Nat)
structure WaysP (S : SD) (w : WaysD) : Prop where
  machine : Bfs S.mach [S.begin] [S.begin] w.machine
  coming : w.coming = comingOf S w.machine
  hearings : HearR S w.coming [S.begin] [] [S.begin] 0 w.hearings
theorem WaysP.det {S : SD} {w w' : WaysD} (h : WaysP S w) (h' : WaysP S w') : w = w' := by
  obtain ⟨m, c, q⟩ := w
  obtain ⟨m', c', q'⟩ := w'
  obtain rfl : m = m' := h.machine.det h'.machine
  obtain rfl : c = c' := h.coming.trans h'.coming.symm
  obtain rfl : q = q' := h.hearings.det h'.hearings
  rfl
/-! what stays so -/
theorem addAll_nodup {k p l : List It2} (h : k.Nodup) : (addAll k p l).1.Nodup := by
  induction l generalizing k p with
  | nil => exact h
  | cons y r ih =>
    unfold addAll
    split
    · exact ih h
    · rename_i hy
      refine ih ?_
      rw [List.nodup_append]
      exact ⟨h, by simp, fun a ha b hb => by rw [List.mem_singleton.mp hb]; exact fun e => hy (e ▸ ha)⟩
theorem addAll_mem {P : It2 → Prop} {k p l : List It2} (hk : ∀ x ∈ k, P x) (hp : ∀ x ∈ p, P x) (hl : ∀ x ∈ l, P x) : (∀ x ∈ (addAll k p l).1, P x) ∧ ∀ x ∈ (addAll k p l).2, P x := by
  induction l generalizing k p with
  | nil => exact ⟨hk, hp⟩
  | cons y r ih =>
    have hy := hl y (by simp)
    have hr : ∀ x ∈ r, P x := fun x hx => hl x (by simp [hx])
    unfold addAll
    split
    · exact ih hk hp hr
    · refine ih (fun x hx => ?_) (fun x hx => ?_) hr
      · rcases List.mem_append.mp hx with q | q
        · exact hk x q
        · rw [List.mem_singleton.mp q]; exact hy
      · rcases List.mem_append.mp hx with q | q
        · exact hp x q
        · rw [List.mem_singleton.mp q]; exact hy
theorem addAll_len {k p l : List It2} : (addAll k p l).1.length + p.length = k.length + (addAll k p l).2.length := by
  induction l generalizing k p with
  | nil => show k.length + p.length = k.length + p.length; rfl
  | cons y r ih =>
    unfold addAll
    split
    · exact ih
    · have := ih (k := k ++ [y]) (p := p ++ [y])
      simp only [List.length_append, List.length_cons, List.length_nil] at this
      omega
theorem addAll_snoc {k p l : List It2} {y : It2} : addAll k p (l ++ [y]) = if y ∈ (addAll k p l).1 then addAll k p l else ((addAll k p l).1 ++ [y], (addAll k p l).2 ++ [y]) := by
  induction l generalizing k p with
  | nil => rfl
  | cons z r ih =>
    rw [List.cons_append]
    unfold addAll
    split
    · exact ih
    · exact ih
theorem addAll_sub {k p l : List It2} {x : It2} (h : x ∈ k) : x ∈ (addAll k p l).1 := by
  induction l generalizing k p with
  | nil => exact h
  | cons y r ih =>
    unfold addAll
    split
    · exact ih h
    · exact ih (List.mem_append_left _ h)
theorem addAll_ge {k p l : List It2} : k.length ≤ (addAll k p l).1.length ∧ p.length ≤ (addAll k p l).2.length := by
  induction l generalizing k p with
  | nil => exact ⟨Nat.le_refl _, Nat.le_refl _⟩
  | cons y r ih =>
    unfold addAll
    split
    · exact ih
    · have := ih (k := k ++ [y]) (p := p ++ [y])
      simp only [List.length_append, List.length_cons, List.length_nil] at this
      omega
theorem foldAdd_snoc {S : SD} {ks : List It2} {l : List It2} {y : It2} : (l ++ [y]).foldl addKey ks = addKey (l.foldl addKey ks) y := by rw [List.foldl_append]; rfl
end LM

set_option maxHeartbeats 4000000
namespace LM
open PySem PySem.Spec PyProof.Rows L2
/-! ### items and steps as values -/
def ItR (K : PySem.W.Frag) (x : It2) : VP := fun v H => ∃ a, v = .ref a ∧ SqT K H a (itV x)
instance (K : PySem.W.Frag) (x : It2) : Mon (ItR K x) := ⟨fun v H H' e ⟨a, h1, h2⟩ => ⟨a, h1, st_mono e h2⟩⟩
def PatR (K : PySem.W.Frag) (p : Pat) : VP := fun v H => ∃ a, v = .ref a ∧ SqT K H a (patV p)
instance (K : PySem.W.Frag) (p : Pat) : Mon (PatR K p) := ⟨fun v H H' e ⟨a, h1, h2⟩ => ⟨a, h1, st_mono e h2⟩⟩
/-- a pair (deed, item) -/
def StepR (K : PySem.W.Frag) (x : It2) : VP := fun v H => ∃ T d y, v = .ref T ∧ SqT K H T [d, y] ∧ ItR K x y H
instance (K : PySem.W.Frag) (x : It2) : Mon (StepR K x) := ⟨fun v H H' e ⟨T, d, y, h1, h2, h3⟩ => ⟨T, d, y, h1, st_mono e h2, Mon.mono _ _ _ e h3⟩⟩
structure EightC (W : Wd) : Prop where
  ex : ∃ e xs, W.mg "EIGHT" = some (.ref e) ∧ (∀ H, SqT W.K H e xs) ∧ ∀ H, AllR (lEIGHT.map (PatR W.K)) xs H
theorem xi_eight {X : Cx} {tg : Expr} {σ : St} {H : Hp} {pos : Pos} (E : EightC (wd X)) (hg : Gl X "EIGHT" := by rfl) : XI X tg (.Name "EIGHT" pos) σ H lEIGHT.length (YR (lEIGHT.map (PatR X.K))) := by
  obtain ⟨e, xs, hm, hq, hr⟩ := E.ex
  exact XI.len (xi_tup ((xe_globR hm hg).is fun H2 e2 => ⟨e, xs, rfl, hq _, hr _⟩)) rfl
def itD (x : It2) : PyData := .tuple [.str x.1, match x.2 with
  | .inl b => .bool b
  | .inr z => .str z]
theorem itR_data {K : PySem.W.Frag} {x : It2} {v : V} {H : Hp} (h : ItR K x v H) : Dp K H v (itD x) := by
  obtain ⟨a, rfl, hq⟩ := h
  obtain ⟨m, b⟩ := x
  cases b with
  | inl b => exact .tup hq (.cons (.str m) (.cons (.bl b) .nil))
  | inr z => exact .tup hq (.cons (.str m) (.cons (.str z) .nil))
theorem itR_all {K : PySem.W.Frag} {H : Hp} : ∀ {l : List It2} {vs : List V}, AllR (l.map (ItR K)) vs H → DpAll K H vs (l.map itD)
  | [], [], _ => .nil
  | x :: l, v :: vs, h => .cons (itR_data h.1) (itR_all h.2)
  | [], _ :: _, h => h.elim
  | _ :: _, [], h => h.elim
def okIt (x : It2) : Prop := PyData.strOk x.1 = true ∧ match x.2 with
  | .inl _ => True
  | .inr z => PyData.strOk z = true
theorem depth_list {l : List PyData} {k : Nat} (h : ∀ d ∈ l, d.depth ≤ k) : (PyData.list l).depth ≤ k + 1 := by
  have key : ∀ l : List PyData, (∀ d ∈ l, d.depth ≤ k) → PyData.depthAll l ≤ k := by
    intro l
    induction l with
    | nil => intro _; simp [PyData.depthAll]
    | cons d r ih =>
      intro h
      have h1 := h d (by simp)
      have h2 := ih fun x hx => h x (by simp [hx])
      simp only [PyData.depthAll]
      omega
  have := key l h
  simp only [PyData.depth]
  omega
theorem lay_list {l : List PyData} (h : ∀ d ∈ l, d.canLay0 = true) : (PyData.list l).canLay0 = true := by
  have key : ∀ l : List PyData, (∀ d ∈ l, d.canLay0 = true) → PyData.canLayAll0 l = true := by
    intro l
    induction l with
    | nil => intro _; simp [PyData.canLayAll0]
    | cons d r ih =>
      intro h
      simp only [PyData.canLayAll0, h d (by simp), ih fun x hx => h x (by simp [hx]), Bool.and_self]
  simp only [PyData.canLay0]
  exact key l h
theorem itD_shape {x : It2} (h : okIt x) : (itD x).canLay0 = true ∧ (itD x).depth ≤ 1 := by
  obtain ⟨m, b⟩ := x
  obtain ⟨h1, h2⟩ := h
  cases b with
  | inl b => exact ⟨by simp only [itD, PyData.canLay0, PyData.canLayAll0, h1, Bool.and_self], by simp [itD, PyData.depth, PyData.depthAll]⟩
  | inr z => exact ⟨by simp only [itD, PyData.canLay0, PyData.canLayAll0, h1, show PyData.strOk z = true from h2, Bool.and_self], by simp [itD, PyData.depth, PyData.depthAll]⟩
theorem shaped_items {l : List It2} (h : ∀ x ∈ l, okIt x) : SeqAt.shaped (.list (l.map itD)) = true := by
  unfold SeqAt.shaped
  rw [Bool.and_eq_true]
  refine ⟨lay_list fun d hd => ?_, decide_eq_true (Nat.le_trans (depth_list (k := 1) fun d hd => ?_) (by decide))⟩
  · obtain ⟨x, hx, rfl⟩ := List.mem_map.mp hd
    exact (itD_shape (h x hx)).1
  · obtain ⟨x, hx, rfl⟩ := List.mem_map.mp hd
    exact (itD_shape (h x hx)).2
/-- l != [] -/
theorem xt_some {X : Cx} {e : Expr} {σ : St} {H : Hp} {pos p2 : Pos} {j : Nat} {a : Addr} {l : List It2} {vs : List V} (hr : Room j X.A) (he : XV X e σ H (.ref a)) (hq : H a = some (.lst vs)) (hv : AllR (l.map (ItR X.K)) vs H) (hl : ∀ x ∈ l, okIt x) : XT X (.Compare e [.NotEq] [.List [] p2] pos) σ H (!decide (l = [])) :=
  xt_cmpR (Ra := Is (.ref a)) (Rb := LstV []) (op_neD (by have := hr.un; omega)) he (XE.lstV (xs := []) (xe_lst (Rs := []) xa_nil (by simp))) (fun x y H1 s1 hx hy => fun H2 s2 Q k => by
    cases hx
    obtain ⟨b, rfl, hb⟩ := hy
    have s := s1.trans s2
    refine ⟨.list (l.map itD), .list [], .lst (SqL.of (s _ _ hq)) (itR_all (AllR.mono (monL_map (fun _ => inferInstance) l) s hv)), .lst (SqL.of (s2 _ _ hb)) .nil, shaped_items hl, by decide, ?_⟩
    have : PyData.eqv (.list (l.map itD)) (.list []) = decide (l = []) := by
      cases l with
      | nil => rfl
      | cons x r => simp [PyData.eqv, PyData.eqvAll]
    rw [this]
    exact k _ H2 (Same.refl _) rfl) (by with_unfolding_all rfl)
/-! ### what steps are -/
def preMachS (K : PySem.W.Frag) (S : SD) (SA : Addr → Hp → Prop) (ok : It2 → Prop) : List V → Hp → VP → Prop := fun vs H R => ∃ a it x, vs = [.ref a, .ref it] ∧ SA a H ∧ SqT K H it (itV x) ∧ ok x ∧ R = LstR ((S.mach x).map (StepR K))
def preLedS (K : PySem.W.Frag) (S : SD) (SA : Addr → Hp → Prop) (ok : It2 → Prop) : List V → Hp → VP → Prop := fun vs H R => ∃ a it q x p, vs = [.ref a, .ref it, .ref q] ∧ SA a H ∧ SqT K H it (itV x) ∧ ok x ∧ SqT K H q (patV p) ∧ R = ItR K (S.led x p)
def preJoinS (K : PySem.W.Frag) (S : SD) (SA : Addr → Hp → Prop) (ok : It2 → Prop) : List V → Hp → VP → Prop := fun vs H R => ∃ a it jt x y, vs = [.ref a, .ref it, .ref jt] ∧ SA a H ∧ SqT K H it (itV x) ∧ ok x ∧ SqT K H jt (itV y) ∧ ok y ∧ R = ItR K (S.joined x y)
structure StepsW (W : Wd) (C : Addr) (S : SD) (SA : Addr → Hp → Prop) (ok : It2 → Prop) (U : List It2) : Prop where
  mono : ∀ {a H H'}, Same H H' → SA a H → SA a H'
  obj : ∀ {a H}, SA a H → ∃ (dx : Addr) (fs : List (Str × V)) (b : Addr), H a = some (.ins C dx fs) ∧ fs.lookup ("begin" : Str) = some (.ref b) ∧ SqT W.K H b (itV S.begin) ∧ fs.lookup ("machine_steps" : Str) = none ∧ fs.lookup ("led" : Str) = none ∧ fs.lookup ("joined" : Str) = none
  cl : Cls W.K C
  nb : NoAttr W.K C "begin"
  mach : Met W 5 C "machine_steps" (Pure (preMachS W.K S SA ok))
  led : Met W 4 C "led" (Pure (preLedS W.K S SA ok))
  joined : Met W 4 C "joined" (Pure (preJoinS W.K S SA ok))
  okB : ok S.begin
  okM : ∀ x, ok x → ∀ y ∈ S.mach x, ok y
  okL : ∀ x p, ok x → ok (S.led x p)
  okJ : ∀ x y, ok x → ok y → ok (S.joined x y)
  few : ∀ x, (S.mach x).length ≤ 100
  okU : ∀ x, ok x → x ∈ U
  lenU : U.length ≤ 1000
  okI : ∀ x, ok x → okIt x
section
variable {X : Cx} {o : Expr} {σ : St} {H : Hp} {pos apos : Pos} {j : Nat} {C a : Addr} {S : SD} {SA : Addr → Hp → Prop} {ok : It2 → Prop} {U : List It2}
theorem xe_begin (T : StepsW (wd X) C S SA ok U) (ho : XV X o σ H (.ref a)) (hs : SA a H) (hb : attributeBase o "begin" X.env (eval o X.env) = eval o X.env := by rfl) : ∃ b, SqT X.K H b (itV S.begin) ∧ ∀ {pos : Pos}, XV X (.Attribute o "begin" pos) σ H (.ref b) := by
  obtain ⟨dx, fs, b, h1, h2, h3, _⟩ := T.obj hs
  exact ⟨b, h3, fun {pos} => xe_fld ho h1 T.cl T.nb h2 hb⟩
theorem xe_mach {e1 : Expr} {it : Addr} {x : It2} {pl : Sem Bool} (T : StepsW (wd X) C S SA ok U) (hr : Room j X.A) (ho : XV X o σ H (.ref a)) (hs : SA a H) (h1 : XV X e1 σ H (.ref it)) (hq : SqT X.K H it (itV x)) (hx : ok x) (hk : 5 ≤ j := by decide)
    (hst : starEach [e1] X.env = (false, eval e1 X.env) :: starEach [] X.env := by rfl) (hpl : (backTo pos (starEach [] X.env)).any (·.1) = false := by rfl)
    (ht : eval (.Call (.Attribute o "machine_steps" apos) [e1] [] pos) X.env = (do
      let ov ← eval o X.env
      standAt apos.atName
      let (f, first) ← holding [ov] (getMethod ov "machine_steps" pl)
      callWith pos f first (backTo pos (starEach [e1] X.env)) (backToKw pos (keywordEach [] X.env))) := by rfl) : XE X (.Call (.Attribute o "machine_steps" apos) [e1] [] pos) σ H (LstR ((S.mach x).map (StepR X.K))) := by
  obtain ⟨dx, fs, b, i1, _, _, n1, _⟩ := T.obj hs
  exact xe_meth1 T.mach hr ho i1 n1 h1 (fun H1 s => ⟨a, it, x, rfl, T.mono s hs, st_mono s hq, hx, rfl⟩) hk hst hpl ht
theorem xe_stepLed {e1 e2 : Expr} {it q : Addr} {x : It2} {p : Pat} {pl : Sem Bool} (T : StepsW (wd X) C S SA ok U) (hr : Room j X.A) (ho : XV X o σ H (.ref a)) (hs : SA a H) (h1 : XV X e1 σ H (.ref it)) (hq : SqT X.K H it (itV x)) (hx : ok x) (h2 : XV X e2 σ H (.ref q)) (hp : SqT X.K H q (patV p)) (hk : 4 ≤ j := by decide)
    (hst : starEach [e1, e2] X.env = (false, eval e1 X.env) :: starEach [e2] X.env := by rfl) (hst2 : starEach [e2] X.env = (false, eval e2 X.env) :: starEach [] X.env := by rfl) (hpl : (backTo pos (starEach [e2] X.env)).any (·.1) = false := by rfl)
    (ht : eval (.Call (.Attribute o "led" apos) [e1, e2] [] pos) X.env = (do
      let ov ← eval o X.env
      standAt apos.atName
      let (f, first) ← holding [ov] (getMethod ov "led" pl)
      callWith pos f first (backTo pos (starEach [e1, e2] X.env)) (backToKw pos (keywordEach [] X.env))) := by rfl) : XE X (.Call (.Attribute o "led" apos) [e1, e2] [] pos) σ H (ItR X.K (S.led x p)) := by
  obtain ⟨dx, fs, b, i1, _, _, _, n1, _⟩ := T.obj hs
  exact xe_meth2 T.led hr ho i1 n1 h1 h2 (fun H1 s => ⟨a, it, q, x, p, rfl, T.mono s hs, st_mono s hq, hx, st_mono s hp, rfl⟩) hk hst hst2 hpl ht
theorem xe_stepJoin {e1 e2 : Expr} {it jt : Addr} {x y : It2} {pl : Sem Bool} (T : StepsW (wd X) C S SA ok U) (hr : Room j X.A) (ho : XV X o σ H (.ref a)) (hs : SA a H) (h1 : XV X e1 σ H (.ref it)) (hq : SqT X.K H it (itV x)) (hx : ok x) (h2 : XV X e2 σ H (.ref jt)) (hp : SqT X.K H jt (itV y)) (hy : ok y) (hk : 4 ≤ j := by decide)
    (hst : starEach [e1, e2] X.env = (false, eval e1 X.env) :: starEach [e2] X.env := by rfl) (hst2 : starEach [e2] X.env = (false, eval e2 X.env) :: starEach [] X.env := by rfl) (hpl : (backTo pos (starEach [e2] X.env)).any (·.1) = false := by rfl)
    (ht : eval (.Call (.Attribute o "joined" apos) [e1, e2] [] pos) X.env = (do
      let ov ← eval o X.env
      standAt apos.atName
      let (f, first) ← holding [ov] (getMethod ov "joined" pl)
      callWith pos f first (backTo pos (starEach [e1, e2] X.env)) (backToKw pos (keywordEach [] X.env))) := by rfl) : XE X (.Call (.Attribute o "joined" apos) [e1, e2] [] pos) σ H (ItR X.K (S.joined x y)) := by
  obtain ⟨dx, fs, b, i1, _, _, _, _, n1⟩ := T.obj hs
  exact xe_meth2 T.joined hr ho i1 n1 h1 h2 (fun H1 s => ⟨a, it, jt, x, y, rfl, T.mono s hs, st_mono s hq, hx, st_mono s hp, hy, rfl⟩) hk hst hst2 hpl ht
end
end LM

set_option maxHeartbeats 4000000
/-! plain: marks stay marks; the steps of one tool, of two tools that do alike -/
namespace LM
open PySem L2
theorem LT.blank_mem {t : LT} (h : t.ok) : t.blank ∈ t.marks := by
  unfold LT.blank
  have := h.ne
  cases e : t.marks with
  | nil => exact absurd e this
  | cons x r => simp
theorem thn_name {rs : List LR} {ms : List Str} (hin : ∀ r ∈ rs, ∀ n ∈ r.names, n ∈ ms) {r : LR} (hr : r ∈ rs) {z : Str} (hz : z ∈ r.words) (hn : isName z = true) : z ∈ ms := hin r hr z (List.mem_filter.mpr ⟨hz, hn⟩)
theorem ranR_mem {rs : List LR} {ms : List Str} (hok : ∀ r ∈ rs, r.ok) (hin : ∀ r ∈ rs, ∀ n ∈ r.names, n ∈ ms) {m : Str} (hm : m ∈ ms) : ranR rs m ∈ ms := by
  induction rs with
  | nil => exact hm
  | cons r rs ih =>
    have ih := ih (fun x hx => hok x (by simp [hx])) (fun x hx => hin x (by simp [hx]))
    have hr := hok r (by simp)
    cases r with
    | run o t =>
      unfold ranR
      split
      · exact thn_name hin (r := .run o t) (by simp) (by simp [LR.words]) hr.2.2
      · exact ih
    | lead ts o t => exact ih
    | join a b t => exact ih
theorem ledR_mem {rs : List LR} {ms : List Str} {b : Str} (hb : b ∈ ms) (hok : ∀ r ∈ rs, r.ok) (hin : ∀ r ∈ rs, ∀ n ∈ r.names, n ∈ ms) {m : Str} {p : Pat} : ledR b rs m p ∈ ms := by
  induction rs with
  | nil => exact hb
  | cons r rs ih =>
    have ih := ih (fun x hx => hok x (by simp [hx])) (fun x hx => hin x (by simp [hx]))
    have hr := hok r (by simp)
    cases r with
    | run o t => exact ih
    | lead ts o t =>
      unfold ledR
      split
      · exact thn_name hin (r := .lead ts o t) (by simp) (by simp [LR.words]) hr.2.2.2.2
      · exact ih
    | join a b t => exact ih
theorem joinR_mem {rs : List LR} {ms : List Str} (hok : ∀ r ∈ rs, r.ok) (hin : ∀ r ∈ rs, ∀ n ∈ r.names, n ∈ ms) {h c : Str} (hh : h ∈ ms) (hc : c ∈ ms) : joinR rs h c ∈ ms := by
  induction rs with
  | nil => exact hh
  | cons r rs ih =>
    have ih := ih (fun x hx => hok x (by simp [hx])) (fun x hx => hin x (by simp [hx]))
    have hr := hok r (by simp)
    cases r with
    | run o t => exact ih
    | lead ts o t => exact ih
    | join a b t =>
      unfold joinR
      split
      · unfold thenOf
        split
        · exact hh
        · split
          · exact hc
          · rename_i h1 h2
            rcases hr.2.2.2 with h3 | h3 | h3
            · exact thn_name hin (r := .join a b t) (by simp) (by simp [LR.words]) h3
            · exact absurd h3 h1
            · exact absurd h3 h2
      · exact ih
theorem LT.ran_mem {t : LT} (h : t.ok) {m : Str} (hm : m ∈ t.marks) : t.ran m ∈ t.marks := ranR_mem h.rows h.inM hm
theorem LT.led_mem {t : LT} (h : t.ok) {m : Str} {p : Pat} : t.led m p ∈ t.marks := by
  unfold LT.led
  split
  · exact t.blank_mem h
  · exact ledR_mem (t.blank_mem h) h.rows h.inM
theorem LT.joined_mem {t : LT} (h : t.ok) {a c : Str} (ha : a ∈ t.marks) (hc : c ∈ t.marks) : t.joined a c ∈ t.marks := joinR_mem h.rows h.inM ha hc
theorem name_strOk {z : Str} (h : isName z = true) : PyData.strOk z = true := by
  have k := isName_all h
  show z.cps.all (· < 0x110000) = true
  rw [Array.all_eq_true_iff_forall_mem]
  intro c hc
  have := k c (show c ∈ TL.tl z from by show c ∈ z.cps.toList; simpa using hc)
  simp only [decide_eq_true_eq]
  omega
theorem LT.mark_strOk {t : LT} (h : t.ok) {m : Str} (hm : m ∈ t.marks) : PyData.strOk m = true := name_strOk (h.names m hm).2
/-! one tool -/
def bOf (x : It2) : Bool := match x.2 with
  | .inl b => b
  | .inr _ => false
def singleS (t : LT) : SD where
  begin := (t.blank, .inl false)
  mach x := (t.ran x.1, .inl true) :: lEIGHT.map fun p => (t.led x.1 p, .inl (bOf x && t.keeps p))
  led x p := (t.led x.1 p, .inl (bOf x && t.keeps p))
  joined x y := (t.joined x.1 y.1, .inl (bOf x || bOf y))
def okS (t : LT) (x : It2) : Prop := ∃ m b, x = (m, .inl b) ∧ m ∈ t.marks
def univS (t : LT) : List It2 := t.marks.flatMap fun m => [(m, .inl true), (m, .inl false)]
theorem okS_univ {t : LT} {x : It2} (h : okS t x) : x ∈ univS t := by
  obtain ⟨m, b, rfl, hm⟩ := h
  refine List.mem_flatMap.mpr ⟨m, hm, ?_⟩
  cases b <;> simp
theorem univS_len {t : LT} (h : t.marks.length ≤ 20) : (univS t).length ≤ 1000 := by
  have e : ∀ l : List Str, (l.flatMap fun m => ([(m, .inl true), (m, .inl false)] : List It2)).length = 2 * l.length := fun l => by
    induction l with
    | nil => rfl
    | cons a r ih => rw [List.flatMap_cons, List.length_append, ih, List.length_cons]; simp; omega
  unfold univS
  rw [e]
  omega
theorem okS_it {t : LT} (h : t.ok) {x : It2} (hx : okS t x) : okIt x := by
  obtain ⟨m, b, rfl, hm⟩ := hx
  exact ⟨t.mark_strOk h hm, trivial⟩
/-! two tools that do alike -/
structure LT.like (p q : LT) : Prop where
  marks : p.marks = q.marks
  told : p.told = q.told
  parts : p.parts = q.parts
  clears : p.clears = q.clears
  ran : ∀ m, p.ran m = q.ran m
  led : ∀ m s, p.led m s = q.led m s
  joined : ∀ h c, p.joined h c = q.joined h c
def pairS (p : LT) : SD where
  begin := (p.blank, .inr p.blank)
  mach x := (p.ran x.1, .inr (p.ran x.1)) :: (lEIGHT.map fun s => (p.led x.1 s, .inr (p.led x.1 s))) ++ [(if p.clears then p.blank else x.1, .inr (if p.clears then p.blank else x.1))]
  led x s := (p.led x.1 s, .inr (p.led x.1 s))
  joined x y := (p.joined x.1 y.1, .inr (p.joined x.1 y.1))
def okP (p : LT) (x : It2) : Prop := ∃ m, x = (m, .inr m) ∧ m ∈ p.marks
def univP (p : LT) : List It2 := p.marks.map fun m => (m, .inr m)
theorem okP_univ {t : LT} {x : It2} (h : okP t x) : x ∈ univP t := by
  obtain ⟨m, rfl, hm⟩ := h
  exact List.mem_map.mpr ⟨m, hm, rfl⟩
theorem okP_it {t : LT} (h : t.ok) {x : It2} (hx : okP t x) : okIt x := by
  obtain ⟨m, rfl, hm⟩ := hx
  exact ⟨t.mark_strOk h hm, t.mark_strOk h hm⟩
theorem LT.like.blank {p q : LT} (h : p.like q) : p.blank = q.blank := by unfold LT.blank; rw [h.marks]
theorem LT.like.keeps {p q : LT} (h : p.like q) (s : Pat) : p.keeps s = q.keeps s := by unfold LT.keeps; rw [h.parts]
theorem LT.like.single {p q : LT} (h : p.like q) : singleS p = singleS q := by
  unfold singleS
  simp only [h.blank, h.ran, h.led, h.joined, h.keeps]
theorem LT.like.symm {p q : LT} (h : p.like q) : q.like p := ⟨h.marks.symm, h.told.symm, h.parts.symm, h.clears.symm, fun m => (h.ran m).symm, fun m s => (h.led m s).symm, fun a c => (h.joined a c).symm⟩
end LM

set_option maxHeartbeats 4000000
namespace LM
open PySem PySem.Spec PyProof.Rows L2
def FTdW (W : Wd) (H : Hp) (d : Addr) (es : List Ent) : Prop := (∃ o, H d = some (.frz o (TD W.P W.w d es))) ∧ TKs W.K H es
theorem TKs.snoc {K : PySem.W.Frag} {H : Hp} {es : List Ent} {x : It2} {a : Addr} {v : V} (h : TKs K H es) (hq : SqT K H a (itV x)) : TKs K H (es ++ [(x, a, v)]) := fun e he => by
  rcases List.mem_append.mp he with q | q
  · exact h e q
  · rw [List.mem_singleton.mp q]; exact hq
theorem allItems {K : PySem.W.Frag} {H : Hp} {l : List It2} {vs : List V} {H' : Hp} (e : Same H H') (h : AllR (l.map (ItR K)) vs H) : AllR (l.map (ItR K)) vs H' := AllR.mono (monL_map (fun _ => inferInstance) l) e h
theorem allItems_snoc {K : PySem.W.Frag} {H : Hp} {l : List It2} {vs : List V} {x : It2} {v : V} (h : AllR (l.map (ItR K)) vs H) (hx : ItR K x v H) : AllR ((l ++ [x]).map (ItR K)) (vs ++ [v]) H := by
  rw [List.map_append]
  exact h.append ⟨hx, trivial⟩
section
variable {W : Wd}
def preElders (W : Wd) : List V → Hp → VP → Prop := fun vs H R => ∃ a C S SA ok U, vs = [.ref a] ∧ StepsW W C S SA ok U ∧ SA a H ∧ R = fun v H' => ∃ d es, v = .ref d ∧ FTdW W H' d es ∧ Bfs S.mach [S.begin] [S.begin] (keysT es) ∧ ∀ x ∈ keysT es, ok x
theorem okM2 {P : Program} {w : World} {e p : Addr} {es : List Ent} {vs : List V} (h : e ≠ p) : OkM [(e, TD P w e es), (p, .lst vs)] := by
  refine ⟨by simp [h], fun q hq => ?_⟩
  rcases List.mem_cons.mp hq with rfl | hq
  · exact okM_td
  · rw [List.mem_singleton.mp hq]; trivial
theorem fresh2 {G : Hp} {e p : Addr} {o u o' u' : HO} (h : Fresh [(e, o), (p, u)] G) : Fresh [(e, o'), (p, u')] G := fun q hq => by
  rcases List.mem_cons.mp hq with rfl | hq
  · exact h (e, o) (by simp)
  · rw [List.mem_singleton.mp hq]; exact h (p, u) (by simp)
theorem cal_machine_elders (A : DefAt W "machine_elders" s_machine_elders ["steps"]) : Cal W 6 "machine_elders" (Pure (preElders W)) := by
  refine cal_pure A sc_machine_elders (fun vs H R h => by obtain ⟨_, _, _, _, _, _, rfl, _⟩ := h; rfl) fun f cdv A outer s H vs R E hr h => ?_
  obtain ⟨a, C, S, SA, ok, U, rfl, T, hs, rfl⟩ := h
  obtain ⟨dx, fs, b, hi, hfb, hb, _⟩ := T.obj hs
  refine xs_par 1 2 (R1 := OneTd (cx W n_machine_elders "machine_elders" s_machine_elders f cdv A outer s H E) H S.begin b) (R2 := NewL H [.ref b]) (xa_cons (xe_tdone hr (xe_fld (xe_var 0 rfl) hi T.cl T.nb hfb) hb xe_non) (xa_cons (xe_lstN (xs := [.ref b]) (xa_cons (xe_fld (xe_var 0 rfl) hi T.cl T.nb hfb) xa_nil) (by simp)) xa_nil)) (fun v w H1 s1 hv hw => ?_) sc_machine_elders.nd
  obtain ⟨e, u0, rfl, he0, he⟩ := hv
  obtain ⟨p, rfl, hp0, hp⟩ := hw
  have hep : e ≠ p := fun q => by subst q; rw [he] at hp; cases hp
  obtain ⟨G, rfl, sG, fG⟩ := split_new (M := [(e, TD W.P W.w e [(S.begin, b, u0)]), (p, .lst [.ref b])]) (okM2 hep).1 (fun q hq => by
    rcases List.mem_cons.mp hq with rfl | hq
    · exact he
    · rw [List.mem_singleton.mp hq]; exact hp) (fun q hq => by
    rcases List.mem_cons.mp hq with rfl | hq
    · exact he0
    · rw [List.mem_singleton.mp hq]; exact hp0) s1
  -- the loop
  let Iv : Nat → St → Hp → Prop := fun m σ' H' => ∃ (G : Hp) (es : List Ent) (pend : List It2) (vs : List V) (u3 u4 u5 : Option V), H' = Upds G [(e, TD W.P W.w e es), (p, .lst vs)] ∧ Same H G ∧ Fresh [(e, TD W.P W.w e es), (p, .lst vs)] G ∧ TKs W.K G es ∧ AllR (pend.map (ItR W.K)) vs G ∧ (keysT es).Nodup ∧
    (∀ x ∈ keysT es, ok x) ∧ (∀ x ∈ pend, ok x) ∧ (∀ r, Bfs S.mach (keysT es) pend r → Bfs S.mach [S.begin] [S.begin] r) ∧ σ' = [some (.ref a), some (.ref e), some (.ref p), u3, u4, u5] ∧ pend.length ≤ es.length ∧ m = 2 * (U.length - es.length) + pend.length
  have lenOk : ∀ es : List Ent, (keysT es).Nodup → (∀ x ∈ keysT es, ok x) → es.length ≤ U.length := fun es h1 h2 => by
    have := nodup_len h1 fun x hx => T.okU x (h2 x hx)
    unfold keysT at this
    rwa [List.length_map] at this
  have hU := T.lenU
  refine xs_while Iv (2 * (U.length - 1) + 1) (fun H1 s1 => ?_) fun m σ' H' hw => ?_
  · obtain ⟨G1, rfl, s2, f2⟩ := renorm (okM2 hep).1 fG s1
    refine ⟨G1, [(S.begin, b, u0)], [S.begin], [.ref b], _, _, _, rfl, sG.trans s2, f2, ?_, ⟨⟨b, rfl, st_mono (sG.trans s2) hb⟩, trivial⟩, by simp [keysT], ?_, ?_, fun r h => h, rfl, Nat.le_refl _, rfl⟩
    · intro x hx
      rw [List.mem_singleton.mp hx]
      exact st_mono (sG.trans s2) hb
    · intro x hx
      rw [List.mem_singleton.mp (show x ∈ [S.begin] from hx)]
      exact T.okB
    · intro x hx
      rw [List.mem_singleton.mp hx]
      exact T.okB
  · obtain ⟨G, es, pend, vs, u3, u4, u5, rfl, sG, fG, hk, hv, nd, ok1, ok2, hB, rfl, hpl, rfl⟩ := hw
    have hM := okM2 (P := W.P) (w := W.w) (es := es) (vs := vs) hep
    refine ⟨!decide (pend = []), xt_some hr (xe_var 2 rfl) (upds_at (i := 1) hM.1 rfl) (allItems (upds_ge fG) hv) fun x hx => T.okI x (ok2 x hx), fun hb H2 s2 => ?_, fun hb H2 s2 => ?_⟩
    · cases pend with
      | nil => cases hb
      | cons x pr =>
        obtain ⟨G, rfl, sG', fG⟩ := renorm hM.1 fG s2
        have sG := sG.trans sG'
        have hk := hk.mono sG'
        have hv := allItems sG' hv
        cases vs with
        | nil => exact hv.elim
        | cons v vr =>
          obtain ⟨⟨it, hit0, hit⟩, hvr⟩ := id hv
          subst hit0
          have okx := ok2 x (by simp)
          have okp : ∀ y ∈ pr, ok y := fun y hy => ok2 y (by simp [hy])
          refine xs_setU 3 (xu_popAt (k := 0) (y := .ref it) (xe_var 2 rfl) xe_int (upds_at (i := 1) hM.1 rfl) (by decide) (by simp [seqIndex?]) rfl) (fun v H1 H2 s1 hv' => ?_) sc_machine_elders.nd
          obtain ⟨rfl, H3, s3, rfl⟩ := hv'
          obtain ⟨G, rfl, sG', fG⟩ := renorm hM.1 fG (s1.trans s3)
          have sG := sG.trans sG'
          have hk := hk.mono sG'
          have hv := allItems sG' hvr
          have hit := st_mono sG' hit
          rw [upds_set (i := 1) hM.1 rfl]
          have hM := okM2 (P := W.P) (w := W.w) (es := es) (vs := vr) hep
          have fG : Fresh [(e, TD W.P W.w e es), (p, .lst vr)] G := fresh2 fG
          show XSs _ _ _ _ (Upds G [(e, TD W.P W.w e es), (p, .lst vr)])
          refine xs_for (M := [(e, TD W.P W.w e es), (p, .lst vr)]) (g := g2 W.K 4 5) (xi_list (Rs := (S.mach x).map (StepR W.K)) ((xe_mach T hr (xe_var 0 rfl) (T.mono sG hs) (xe_var 3 rfl) hit okx).imp fun v H2 _ ⟨q, xs, h1, h2, h3⟩ => ⟨q, xs, h1, SqL.of h2, h3⟩)) hM fG (pg_2 rfl sc_machine_elders.nd rfl rfl (Or.inl rfl) (Or.inl rfl) (.inr rfl) (.inr rfl)) gmon_2
            (fun G2 i σ' H' => ∃ (G3 : Hp) (es3 : List Ent) (p3 : List It2) (vs3 : List V) (u4 u5 : Option V), H' = Upds G3 [(e, TD W.P W.w e es3), (p, .lst vs3)] ∧ Same G2 G3 ∧ Fresh [(e, TD W.P W.w e es3), (p, .lst vs3)] G3 ∧ TKs W.K G3 es3 ∧ AllR (p3.map (ItR W.K)) vs3 G3 ∧ (keysT es3, p3) = addAll (keysT es) pr ((S.mach x).take i) ∧ σ' = [some (.ref a), some (.ref e), some (.ref p), some (.ref it), u4, u5])
            (fun G2 s2 f2 => ⟨G2, es, pr, vr, _, _, rfl, Same.refl _, f2, hk.mono s2, allItems s2 hv, rfl, rfl⟩) (fun G2 i σ' H' ⟨G3, es3, p3, vs3, u4, u5, hH, s3, f3, _⟩ => by rw [hH]; exact s3.trans (upds_ge f3)) (fun G2 i z σ' H' H'' s2 hi hP hy => ?_) (fun G2 σ' H' s2 hP => ?_)
          · obtain ⟨G3, es3, p3, vs3, u4, u5, rfl, s3, f3, k3, v3, hadd, rfl⟩ := hP
            obtain ⟨rfl, R, hR, hz⟩ := hy
            rw [List.getElem?_map] at hR
            rw [List.length_map] at hi
            cases hyi : (S.mach x)[i]? with
            | none => rw [hyi] at hR; cases hR
            | some y =>
              rw [hyi] at hR
              cases hR
              obtain ⟨Tt, d, yv, rfl, hT, ya, rfl, hya⟩ := hz
              have oky : ok y := T.okM x okx y (List.mem_of_getElem? hyi)
              have hya3 := st_mono s3 hya
              have hM3 := okM2 (P := W.P) (w := W.w) (es := es3) (vs := vs3) hep
              have et : (S.mach x).take (i + 1) = (S.mach x).take i ++ [y] := by rw [List.take_succ, hyi]; rfl
              have k1 : keysT es3 = (addAll (keysT es) pr ((S.mach x).take i)).1 := congrArg Prod.fst hadd
              have k2 : p3 = (addAll (keysT es) pr ((S.mach x).take i)).2 := congrArg Prod.snd hadd
              have all3 := addAll_mem (P := ok) (k := keysT es) (p := pr) (l := (S.mach x).take i) ok1 okp fun z hz => T.okM x okx z (List.mem_of_mem_take hz)
              have nd3 : (keysT es3).Nodup := by rw [k1]; exact addAll_nodup nd
              have len3 := lenOk es3 nd3 (by rw [k1]; exact all3.1)
              refine g2_ok (st_mono (s3.trans (upds_ge f3)) hT) (xs_if (b := !decide (y ∈ keysT es3)) (XT.cast (xt_cmp (op_tdNin (room1 (X := cx W n_machine_elders "machine_elders" s_machine_elders f cdv A outer s H E) hr)) (xe_var 5 rfl) (xe_var 1 rfl) (rv_tdIn (x := y) (st_mono (upds_ge f3) hya3) (.inl (upds_at (i := 0) hM3.1 rfl)) (k3.mono (upds_ge f3))) (by rfl)) (Bool.true_xor _)) (fun hb => ?_) fun hb => ?_)
              · have hny : y ∉ keysT es3 := by simpa using hb
                refine xs_tdput (x := y) hr (R := TupV [.ref it, d]) (XE.tupV (xs := [.ref it, d]) (xe_tup (Rs := [Is (.ref it), Is d]) (xa_cons (xe_var 3 rfl) (xa_cons (xe_var 4 rfl) xa_nil)) (by simp))) (xe_var 1 rfl) (xe_var 5 rfl) (upds_at (i := 0) hM3.1 rfl) (k3.mono (upds_ge f3)) (st_mono (upds_ge f3) hya3) hny (by omega) fun v H4 s4 _ => ?_
                obtain ⟨G4, rfl, sG4, f4⟩ := renorm hM3.1 f3 s4
                rw [upds_set (i := 0) hM3.1 rfl]
                show XSs _ _ _ _ (Upds G4 [(e, TD W.P W.w e (es3 ++ [(y, ya, v)])), (p, .lst vs3)])
                have hM4 := okM2 (P := W.P) (w := W.w) (es := es3 ++ [(y, ya, v)]) (vs := vs3) hep
                have f4 : Fresh [(e, TD W.P W.w e (es3 ++ [(y, ya, v)])), (p, .lst vs3)] G4 := fresh2 f4
                have lp : vs3.length ≤ 3000 := by
                  have h1 := v3.length
                  have h2 := addAll_len (k := keysT es) (p := pr) (l := (S.mach x).take i)
                  rw [← k1, ← k2] at h2
                  have l1 : (keysT es).length = es.length := by unfold keysT; simp
                  have l3 : (keysT es3).length = es3.length := by unfold keysT; simp
                  rw [l1, l3] at h2
                  rw [h1, List.length_map]
                  simp only [List.length_cons] at hpl
                  omega
                refine xs_append (R := Is (.ref ya)) (xe_var 2 rfl) (xe_var 5 rfl) (upds_at (i := 1) hM4.1 rfl) (by omega) fun v' H5 s5 hv' => ?_
                cases hv'
                obtain ⟨G5, rfl, sG5, f5⟩ := renorm hM4.1 f4 s5
                rw [upds_set (i := 1) hM4.1 rfl]
                refine xs_nil fun H6 s6 => xs_nil fun H7 s7 => ?_
                have f5 : Fresh [(e, TD W.P W.w e (es3 ++ [(y, ya, v)])), (p, .lst (vs3 ++ [.ref ya]))] G5 := fresh2 f5
                obtain ⟨G6, rfl, sG6, f6⟩ := renorm (okM2 (P := W.P) (w := W.w) (es := es3 ++ [(y, ya, v)]) (vs := vs3 ++ [.ref ya]) hep).1 f5 (s6.trans s7)
                have s36 := (sG4.trans sG5).trans sG6
                refine ⟨G6, es3 ++ [(y, ya, v)], p3 ++ [y], vs3 ++ [.ref ya], _, _, rfl, s3.trans s36, f6, (k3.mono s36).snoc (st_mono s36 hya3), allItems_snoc (allItems s36 v3) ⟨ya, rfl, st_mono s36 hya3⟩, ?_, rfl⟩
                rw [et, addAll_snoc, ← k1, if_neg hny, ← k2, keysT_snoc]
              · have hy3 : y ∈ keysT es3 := by simpa using hb
                refine xs_nil fun H6 s6 => xs_nil fun H7 s7 => ?_
                obtain ⟨G6, rfl, sG6, f6⟩ := renorm hM3.1 f3 (s6.trans s7)
                refine ⟨G6, es3, p3, vs3, _, _, rfl, s3.trans sG6, f6, k3.mono sG6, allItems sG6 v3, ?_, rfl⟩
                rw [et, addAll_snoc, ← k1, if_pos hy3, hadd]
          · obtain ⟨G3, es3, p3, vs3, u4, u5, rfl, s3, f3, k3, v3, hadd, rfl⟩ := hP
            rw [List.length_map, List.take_length] at hadd
            have k1 : keysT es3 = (addAll (keysT es) pr (S.mach x)).1 := congrArg Prod.fst hadd
            have k2 : p3 = (addAll (keysT es) pr (S.mach x)).2 := congrArg Prod.snd hadd
            have all3 := addAll_mem (P := ok) (k := keysT es) (p := pr) (l := S.mach x) ok1 okp fun z hz => T.okM x okx z hz
            have nd3 : (keysT es3).Nodup := by rw [k1]; exact addAll_nodup nd
            have len3 := lenOk es3 nd3 (by rw [k1]; exact all3.1)
            refine xs_nil fun H6 s6 => ?_
            obtain ⟨G6, rfl, sG6, f6⟩ := renorm (okM2 (P := W.P) (w := W.w) (es := es3) (vs := vs3) hep).1 f3 s6
            refine ⟨_, ?_, G6, es3, p3, vs3, _, _, _, rfl, (sG.trans s2).trans (s3.trans sG6), f6, k3.mono sG6, allItems sG6 v3, nd3, by rw [k1]; exact all3.1, by rw [k2]; exact all3.2, fun r h => hB r (.step (by rw [← k1, ← k2]; exact h)), rfl, ?_, rfl⟩
            all_goals
             have h1 := addAll_len (k := keysT es) (p := pr) (l := S.mach x)
             have h2 := addAll_ge (k := keysT es) (p := pr) (l := S.mach x)
             rw [← k1, ← k2] at h1 h2
             have l1 : (keysT es).length = es.length := by unfold keysT; simp
             have l3 : (keysT es3).length = es3.length := by unfold keysT; simp
             rw [l1, l3] at h1 h2
             have len0 := lenOk es nd ok1
             simp only [List.length_cons] at hpl ⊢
             omega
    · have hp : pend = [] := by simpa using hb
      subst hp
      obtain ⟨G, rfl, sG', fG⟩ := renorm hM.1 fG s2
      have sG := sG.trans sG'
      refine xs_lock (d := e) (u := TD W.P W.w e es) (upds_at (i := 0) hM.1 rfl) trivial fun o => ?_
      rw [upds_set (i := 0) hM.1 rfl]
      refine xs_ret (xe_var 1 rfl) fun v H4 s4 hv => ⟨?_, ?_⟩
      · refine Same.trans (Same.trans sG (upds_ge (M := [(e, .frz o (TD W.P W.w e es)), (p, .lst vs)]) (fresh2 fG))) s4
      · cases hv
        refine ⟨e, es, rfl, ⟨⟨o, s4 _ _ (upds_at (i := 0) (M := [(e, .frz o (TD W.P W.w e es)), (p, .lst vs)]) (by simp [hep]) rfl)⟩, ?_⟩, hB _ .done, ok1⟩
        exact (hk.mono sG').mono ((upds_ge (M := [(e, .frz o (TD W.P W.w e es)), (p, .lst vs)]) (fresh2 fG)).trans s4)
end
end LM

set_option maxHeartbeats 4000000
namespace LM
open PySem PySem.Spec PyProof.Rows L2
abbrev cWays (W : Wd) : Addr := He.ga W.K "Ways"
def waysFs (st m c h e : Addr) : List (Str × V) := [("steps", .ref st), ("machine", .ref m), ("coming", .ref c), ("hearings", .ref h), ("elders", .ref e)]
structure WaysC (W : Wd) : Prop where
  cl : Cls W.K (cWays W)
  na : ∀ f ∈ (["steps", "machine", "coming", "hearings", "elders"] : List Str), NoAttr W.K (cWays W) f
def valsT (es : List Ent) : List (It2 × V) := es.map fun e => (e.1, e.2.2)
theorem valsT_snoc {es : List Ent} {e : Ent} : valsT (es ++ [e]) = valsT es ++ [(e.1, e.2.2)] := by unfold valsT; rw [List.map_append]; rfl
theorem keysT_len {es : List Ent} : (keysT es).length = es.length := by unfold keysT; simp
theorem keys_vals {es : List Ent} : keysT es = (valsT es).map (·.1) := by unfold keysT valsT; rw [List.map_map]; rfl
structure WInv (ok : It2 → Prop) (k hk l : List It2) : Prop where
  nk : k.Nodup
  nh : hk.Nodup
  nl : l.Nodup
  okk : ∀ x ∈ k, ok x
  hsub : ∀ x ∈ hk, x ∈ k
  lsub : ∀ x ∈ l, x ∈ k
  dis : ∀ x ∈ l, x ∉ hk
theorem addAll_inv {ok : It2 → Prop} {k hk p : List It2} {l : List It2} (h : WInv ok k hk p) (hl : ∀ x ∈ l, ok x) : WInv ok (addAll k p l).1 hk (addAll k p l).2 := by
  induction l generalizing k p with
  | nil => exact h
  | cons y r ih =>
    unfold addAll
    split
    · exact ih h fun x hx => hl x (by simp [hx])
    · rename_i hy
      refine ih ⟨nodup_snoc h.nk hy, h.nh, nodup_snoc h.nl fun q => hy (h.lsub y q), fun x hx => ?_, fun x hx => List.mem_append_left _ (h.hsub x hx), fun x hx => ?_, fun x hx => ?_⟩ fun x hx => hl x (by simp [hx])
      · rcases List.mem_append.mp hx with q | q
        · exact h.okk x q
        · rw [List.mem_singleton.mp q]; exact hl y (by simp)
      · rcases List.mem_append.mp hx with q | q
        · exact List.mem_append_left _ (h.lsub x q)
        · exact List.mem_append_right _ q
      · rcases List.mem_append.mp hx with q | q
        · exact h.dis x q
        · rw [List.mem_singleton.mp q]; exact fun z => hy (h.hsub y z)
theorem xe_listL {X : Cx} {e : Expr} {σ : St} {H : Hp} {p pos : Pos} {a : Addr} {xs : List V} (hm : X.mg "list" = none) (ha : XV X e σ H (.ref a)) (hq : LorT H a xs) (hg : Gl X "list" := by rfl)
    (he : starEach [e] X.env = (false, eval e X.env) :: starEach [] X.env := by rfl) (hpl : (backTo pos (starEach [] X.env)).any (·.1) = false := by rfl) : XE X (.Call (.Name "list" p) [e] [] pos) σ H (NewL H xs) :=
  xe_callTy call_list_of hm (xa_cons ha xa_nil he) (fun vs H1 s1 hr H2 s2 Q k => by
    match vs, hr with
    | [v], hr =>
      cases hr.1
      exact ⟨a, xs, rfl, (hq.mono (s1.trans s2)).sq, fun l hl => k _ _ (newS hl) ⟨l, rfl, none_of (s1.trans s2) hl, upd_same⟩⟩) (by decide +kernel) hg (by decide) (by decide) he hpl
def AnyRef : VP := fun v _ => ∃ T, v = .ref T
instance : Mon AnyRef := ⟨fun _ _ _ _ h => h⟩
section
variable {W : Wd}
def spEdited (W : Wd) : Sp := fun vs H Q _ => ∃ (y l : Addr) (n : Nat) (G : Hp) (e h : Addr) (es hs : List Ent) (C : Addr) (S : SD) (SA : Addr → Hp → Prop) (ok : It2 → Prop) (U : List It2) (st m c dx : Addr) (layer : List It2) (lv : List V),
  vs = [.ref y, .ref l, .int n] ∧ H = Upds G [(e, TD W.P W.w e es), (h, TD W.P W.w h hs)] ∧ e ≠ h ∧ Fresh [(e, TD W.P W.w e es), (h, TD W.P W.w h hs)] G ∧ StepsW W C S SA ok U ∧ SA st G ∧ G y = some (.ins (cWays W) dx (waysFs st m c h e)) ∧ G l = some (.lst lv) ∧ AllR (layer.map (ItR W.K)) lv G ∧
  TKs W.K G es ∧ TKs W.K G hs ∧ WInv ok (keysT es) (keysT hs) layer ∧ layer ≠ [] ∧
  ∀ (G' : Hp) (es' hs' : List Ent) (q : Addr) (fv : List V) (f1 : List It2), Same G G' → Fresh [(e, TD W.P W.w e es'), (h, TD W.P W.w h hs')] G' → TKs W.K G' es' → TKs W.K G' hs' → AllR (f1.map (ItR W.K)) fv G' → G' q = some (.lst fv) → EditR S (keysT es) [] layer (keysT es') f1 →
    valsT hs' = valsT hs ++ f1.map (fun x => (x, .int n)) → WInv ok (keysT es') (keysT hs') [] → (∀ x ∈ f1, x ∈ keysT es') → Q (.ref q) (Upds G' [(e, TD W.P W.w e es'), (h, TD W.P W.w h hs')])
abbrev M4 (W : Wd) (e h f p : Addr) (es hs : List Ent) (fv pv : List V) : Mp := [(e, TD W.P W.w e es), (h, TD W.P W.w h hs), (f, .lst fv), (p, .lst pv)]
structure Ap4 (e h f p : Addr) : Prop where
  eh : e ≠ h
  ef : e ≠ f
  ep : e ≠ p
  hf : h ≠ f
  hp : h ≠ p
  fp : f ≠ p
theorem okM4 {e h f p : Addr} {es hs : List Ent} {fv pv : List V} (a : Ap4 e h f p) : OkM (M4 W e h f p es hs fv pv) := by
  refine ⟨by simp [a.eh, a.ef, a.ep, a.hf, a.hp, a.fp], fun q hq => ?_⟩
  rcases List.mem_cons.mp hq with rfl | hq
  · exact okM_td
  · rcases List.mem_cons.mp hq with rfl | hq
    · exact okM_td
    · rcases List.mem_cons.mp hq with rfl | hq
      · trivial
      · rw [List.mem_singleton.mp hq]; trivial
theorem fresh4 {G : Hp} {e h f p : Addr} {es hs : List Ent} {fv pv : List V} {es' hs' : List Ent} {fv' pv' : List V} (hF : Fresh (M4 W e h f p es hs fv pv) G) : Fresh (M4 W e h f p es' hs' fv' pv') G := fun q hq => by
  have k1 := hF (e, TD W.P W.w e es) (by simp)
  have k2 := hF (h, TD W.P W.w h hs) (by simp)
  have k3 := hF (f, .lst fv) (by simp)
  have k4 := hF (p, .lst pv) (by simp)
  simp only [List.mem_cons, List.not_mem_nil, or_false] at hq
  rcases hq with rfl | rfl | rfl | rfl
  · exact k1
  · exact k2
  · exact k3
  · exact k4
theorem met_edited (B : Blt W) (WC : WaysC W) (EC : EightC W) (A : MethAt W (cWays W) "edited" "Ways.edited" s_Ways_edited ["self", "layer", "many"]) : Met W 5 (cWays W) "edited" (spEdited W) := by
  refine met_raw A sc_Ways_edited (fun vs H Q E h => by obtain ⟨_, _, _, _, _, _, _, _, _, _, _, _, _, _, _, _, _, _, _, rfl, _⟩ := h; rfl) fun f0 cdv A outer s H vs Q E hr hh => ?_
  obtain ⟨y, l, n, G0, e, h, es0, hs0, C, S, SA, ok, U, st, m, c, dx, layer, lv, rfl, rfl, eh, fG0, T, hsa, hy, hl, hlv, kes0, khs0, inv0, hne, hq⟩ := hh
  have ge := upds_ge fG0
  have hU := T.lenU
  have lenOk : ∀ (es : List Ent) (hk l), WInv ok (keysT es) hk l → es.length ≤ U.length ∧ l.length ≤ U.length ∧ hk.length ≤ U.length := fun es hk l w => by
    have h1 := nodup_len w.nk fun x hx => T.okU x (w.okk x hx)
    rw [keysT_len] at h1
    exact ⟨h1, nodup_len w.nl fun x hx => T.okU x (w.okk x (w.lsub x hx)), nodup_len w.nh fun x hx => T.okU x (w.okk x (w.hsub x hx))⟩
  have ll : lv.length = layer.length := by rw [hlv.length, List.length_map]
  have l0 := lenOk es0 _ _ inv0
  refine xs_par 3 4 (R1 := NewL (Upds G0 [(e, TD W.P W.w e es0), (h, TD W.P W.w h hs0)]) []) (R2 := NewL (Upds G0 [(e, TD W.P W.w e es0), (h, TD W.P W.w h hs0)]) lv) (xa_cons (xe_lstN (xs := []) xa_nil (by simp)) (xa_cons (xe_listL (xs := lv) B.list (xe_var 1 rfl) (.inl (ge _ _ hl))) xa_nil)) (fun v w H1 s1 hv hw => ?_) sc_Ways_edited.nd
  obtain ⟨f, rfl, hf0, hf⟩ := hv
  obtain ⟨p, rfl, hp0, hp⟩ := hw
  have he1 : H1 e = some (TD W.P W.w e es0) := s1 _ _ (upds_at (i := 0) (by simp [eh]) rfl)
  have hh1 : H1 h = some (TD W.P W.w h hs0) := s1 _ _ (upds_at (i := 1) (by simp [eh]) rfl)
  have hfp : f ≠ p := by
    intro q
    subst q
    rw [hf] at hp
    cases hp
    cases layer with
    | nil => exact hne rfl
    | cons x r => simp at ll
  have ap : Ap4 e h f p := ⟨eh, (fun q => by subst q; rw [he1] at hf; cases hf), (fun q => by subst q; rw [he1] at hp; cases hp), (fun q => by subst q; rw [hh1] at hf; cases hf), (fun q => by subst q; rw [hh1] at hp; cases hp), hfp⟩
  obtain ⟨G, rfl, sG0, fG⟩ := split_new (H := G0) (M := M4 W e h f p es0 hs0 [] lv) (okM4 ap).1 (fun q hq => by
    simp only [List.mem_cons, List.not_mem_nil, or_false] at hq
    rcases hq with rfl | rfl | rfl | rfl
    · exact he1
    · exact hh1
    · exact hf
    · exact hp) (fun q hq => by
    simp only [List.mem_cons, List.not_mem_nil, or_false] at hq
    rcases hq with rfl | rfl | rfl | rfl
    · exact fG0 (e, _) (by simp)
    · exact fG0 (h, _) (by simp)
    · exact none_of ge hf0
    · exact none_of ge hp0) (ge.trans s1)
  let Iv : Nat → St → Hp → Prop := fun m σ' H' => ∃ (G : Hp) (es hs : List Ent) (fd pd : List It2) (fv pv : List V) (u5 u6 u7 : Option V), H' = Upds G (M4 W e h f p es hs fv pv) ∧ Same G0 G ∧ Fresh (M4 W e h f p es hs fv pv) G ∧ TKs W.K G es ∧ TKs W.K G hs ∧ AllR (fd.map (ItR W.K)) fv G ∧ AllR (pd.map (ItR W.K)) pv G ∧
    WInv ok (keysT es) (keysT hs) pd ∧ valsT hs = valsT hs0 ++ fd.map (fun x => (x, .int n)) ∧ (∀ x ∈ fd, x ∈ keysT es) ∧ (∀ k' f', EditR S (keysT es) fd pd k' f' → EditR S (keysT es0) [] layer k' f') ∧ σ' = [some (.ref y), some (.ref l), some (.int n), some (.ref f), some (.ref p), u5, u6, u7] ∧ m = 2 * (U.length - es.length) + pd.length
  refine xs_while Iv (2 * (U.length - es0.length) + layer.length) (fun H1 s1 => ?_) fun m' σ' H' hw => ?_
  · obtain ⟨G1, rfl, s2, f2⟩ := renorm (okM4 ap).1 fG s1
    have s := sG0.trans s2
    exact ⟨G1, es0, hs0, [], layer, [], lv, _, _, _, rfl, s, f2, kes0.mono s, khs0.mono s, trivial, allItems s hlv, inv0, by simp, (fun x hx => by cases hx), fun k' f' h => h, rfl, rfl⟩
  · obtain ⟨G, es, hs, fd, pd, fv, pv, u5, u6, u7, rfl, sG, fG, kes, khs, hfv, hpv, inv, hvals, hfk, hE, rfl, rfl⟩ := hw
    have hM : OkM (M4 W e h f p es hs fv pv) := okM4 ap
    have okp : ∀ x ∈ pd, ok x := fun x hx => inv.okk x (inv.lsub x hx)
    refine ⟨!decide (pd = []), xt_some hr (xe_var 4 rfl) (upds_at (i := 3) hM.1 rfl) (allItems (upds_ge fG) hpv) fun x hx => T.okI x (okp x hx), fun hb H2 s2 => ?_, fun hb H2 s2 => ?_⟩
    · cases pd with
      | nil => cases hb
      | cons x pr =>
        cases pv with
        | nil => exact hpv.elim
        | cons v vr =>
          obtain ⟨⟨it, hit0, hit⟩, hvr⟩ := id hpv
          subst hit0
          have okx := okp x (by simp)
          have lens := lenOk es _ _ inv
          simp only [List.length_cons] at lens
          -- item = pending.pop(0)
          refine xs_setU 5 (xu_popAt (k := 0) (y := .ref it) (xs := .ref it :: vr) (xe_var 4 rfl) xe_int (s2 _ _ (upds_at (i := 3) hM.1 rfl)) (by decide) (by simp [seqIndex?]) rfl) (fun v H1 H3 s1 hv' => ?_) sc_Ways_edited.nd
          obtain ⟨rfl, H4, s3, rfl⟩ := hv'
          obtain ⟨G, rfl, sG', fG⟩ := renorm hM.1 fG ((s2.trans s1).trans s3)
          have sG := sG.trans sG'
          have kes := kes.mono sG'
          have khs := khs.mono sG'
          have hfv := allItems sG' hfv
          have hvr := allItems sG' hvr
          have hit := st_mono sG' hit
          rw [upds_set (i := 3) hM.1 rfl]
          show XSs _ _ _ _ (Upds G (M4 W e h f p es hs fv vr))
          have hM : OkM (M4 W e h f p es hs fv vr) := okM4 ap
          have fG : Fresh (M4 W e h f p es hs fv vr) G := fresh4 fG
          have lfv : fv.length ≤ U.length := by
            have h1 := hfv.length
            have h2 : (fd.length : Nat) ≤ (keysT hs).length := by
              rw [keys_vals, hvals]; simp
            have h3 := lens.2.2
            rw [h1, List.length_map]
            omega
          -- found.append(item)
          refine xs_append (R := Is (.ref it)) (xe_var 3 rfl) (xe_var 5 rfl) (upds_at (i := 2) hM.1 rfl) (by omega) fun v' H5 s5 hv' => ?_
          cases hv'
          obtain ⟨G, rfl, sG', fG⟩ := renorm hM.1 fG s5
          have sG := sG.trans sG'
          have kes := kes.mono sG'
          have khs := khs.mono sG'
          have hfv := allItems sG' hfv
          have hvr := allItems sG' hvr
          have hit := st_mono sG' hit
          rw [upds_set (i := 2) hM.1 rfl]
          show XSs _ _ _ _ (Upds G (M4 W e h f p es hs (fv ++ [.ref it]) vr))
          have hM : OkM (M4 W e h f p es hs (fv ++ [.ref it]) vr) := okM4 ap
          have fG : Fresh (M4 W e h f p es hs (fv ++ [.ref it]) vr) G := fresh4 fG
          -- self.hearings[item] = many
          have hyG := sG _ _ hy
          have xnh : x ∉ keysT hs := inv.dis x (by simp)
          refine xs_tdput (x := x) hr (R := Is (.int n)) (xe_var 2 rfl) (xe_fld (v := .ref h) (xe_var 0 rfl) (upds_ge fG _ _ hyG) WC.cl (WC.na "hearings" (by simp)) rfl) (xe_var 5 rfl) (upds_at (i := 1) hM.1 rfl) (khs.mono (upds_ge fG)) (st_mono (upds_ge fG) hit) xnh (by have := lens.2.2; rw [keysT_len] at this; omega) fun v H6 s6 hv => ?_
          cases hv
          obtain ⟨G, rfl, sG', fG⟩ := renorm hM.1 fG s6
          have sG := sG.trans sG'
          have kes := kes.mono sG'
          have khs := khs.mono sG'
          have hfv := allItems sG' hfv
          have hvr := allItems sG' hvr
          have hit := st_mono sG' hit
          have hyG := sG' _ _ hyG
          rw [upds_set (i := 1) hM.1 rfl]
          show XSs _ _ _ _ (Upds G (M4 W e h f p es (hs ++ [(x, it, .int n)]) (fv ++ [.ref it]) vr))
          have hM : OkM (M4 W e h f p es (hs ++ [(x, it, .int n)]) (fv ++ [.ref it]) vr) := okM4 ap
          have fG : Fresh (M4 W e h f p es (hs ++ [(x, it, .int n)]) (fv ++ [.ref it]) vr) G := fresh4 fG
          have khs' : TKs W.K G (hs ++ [(x, it, .int n)]) := khs.snoc hit
          have hfv' : AllR ((fd ++ [x]).map (ItR W.K)) (fv ++ [.ref it]) G := allItems_snoc hfv ⟨it, rfl, hit⟩
          have inv' : WInv ok (keysT es) (keysT (hs ++ [(x, it, .int n)])) pr := by
            obtain ⟨i1, i2, i3, i4, i5, i6, i7⟩ := inv
            obtain ⟨n1, n2⟩ := List.nodup_cons.mp i3
            refine ⟨i1, by rw [keysT_snoc]; exact nodup_snoc i2 xnh, n2, i4, fun z hz => ?_, fun z hz => i6 z (by simp [hz]), fun z hz => ?_⟩
            · rw [keysT_snoc] at hz
              rcases List.mem_append.mp hz with q | q
              · exact i5 z q
              · rw [List.mem_singleton.mp q]; exact i6 x (by simp)
            · rw [keysT_snoc]
              intro q
              rcases List.mem_append.mp q with q | q
              · exact i7 z (by simp [hz]) q
              · rw [List.mem_singleton.mp q] at hz; exact n1 hz
          -- for pattern in EIGHT
          refine xs_for (M := M4 W e h f p es (hs ++ [(x, it, .int n)]) (fv ++ [.ref it]) vr) (g := gName 6) (xi_eight EC) hM fG (pg_name (i := 6) sc_Ways_edited.nd rfl (Or.inl rfl)) gmon_name
            (fun G2 i σ' H' => ∃ (G3 : Hp) (es3 : List Ent) (p3 : List It2) (pv3 : List V) (u6 u7 : Option V), H' = Upds G3 (M4 W e h f p es3 (hs ++ [(x, it, .int n)]) (fv ++ [.ref it]) pv3) ∧ Same G2 G3 ∧ Fresh (M4 W e h f p es3 (hs ++ [(x, it, .int n)]) (fv ++ [.ref it]) pv3) G3 ∧ TKs W.K G3 es3 ∧ AllR (p3.map (ItR W.K)) pv3 G3 ∧
              (keysT es3, p3) = addAll (keysT es) pr ((lEIGHT.take i).map (S.led x)) ∧ σ' = [some (.ref y), some (.ref l), some (.int n), some (.ref f), some (.ref p), some (.ref it), u6, u7])
            (fun G2 s2 f2 => ⟨G2, es, pr, vr, _, _, rfl, Same.refl _, f2, kes.mono s2, allItems s2 hvr, rfl, rfl⟩) (fun G2 i σ' H' ⟨G3, es3, p3, pv3, u6, u7, hH, s3, f3, _⟩ => by rw [hH]; exact s3.trans (upds_ge f3)) (fun G2 i z σ' H' H'' s2 hi hP hy' => ?_) (fun G2 σ' H' s2 hP => ?_)
          · obtain ⟨G3, es3, p3, pv3, u6, u7, rfl, s3, f3, k3, v3, hadd, rfl⟩ := hP
            obtain ⟨rfl, R, hR, hz⟩ := hy'
            rw [List.getElem?_map] at hR
            cases hpi : lEIGHT[i]? with
            | none => rw [hpi] at hR; cases hR
            | some pt =>
              rw [hpi] at hR
              cases hR
              obtain ⟨pa, rfl, hpa⟩ := hz
              have k1 : keysT es3 = (addAll (keysT es) pr ((lEIGHT.take i).map (S.led x))).1 := congrArg Prod.fst hadd
              have k2 : p3 = (addAll (keysT es) pr ((lEIGHT.take i).map (S.led x))).2 := congrArg Prod.snd hadd
              have okl : ∀ l' : List Pat, ∀ z ∈ l'.map (S.led x), ok z := fun l' z hz => by
                obtain ⟨q, _, rfl⟩ := List.mem_map.mp hz
                exact T.okL x q okx
              have inv3 : WInv ok (keysT es3) (keysT (hs ++ [(x, it, .int n)])) p3 := by rw [k1, k2]; exact addAll_inv inv' (okl _)
              have lens3 := lenOk es3 _ _ inv3
              have et : (lEIGHT.take (i + 1)).map (S.led x) = (lEIGHT.take i).map (S.led x) ++ [S.led x pt] := by rw [List.take_succ, hpi, List.map_append]; rfl
              have hM3 : OkM (M4 W e h f p es3 (hs ++ [(x, it, .int n)]) (fv ++ [.ref it]) pv3) := okM4 ap
              have s23 := s2.trans s3
              have hy3 := s23 _ _ hyG
              -- later = self.steps.led(item, pattern)
              refine xs_set (R := Up G3 (M4 W e h f p es3 (hs ++ [(x, it, .int n)]) (fv ++ [.ref it]) pv3) (ItR W.K (S.led x pt))) 7 ((xe_stepLed T hr (xe_fld (v := .ref st) (xe_var 0 rfl) hy3 WC.cl (WC.na "steps" (by simp)) rfl) (T.mono (sG.trans s23) hsa) (xe_var 5 rfl) (st_mono s23 hit) okx (xe_var 6 rfl) (st_mono s3 hpa)).up hM3 f3) (fun lv' H7 s7 hlv' => ?_) sc_Ways_edited.nd
              obtain ⟨G4, rfl, sG4, f4, la, rfl, hla⟩ := hlv'
              have hy4 := sG4 _ _ hy3
              -- if later not in self.elders
              refine xs_if (b := !decide (S.led x pt ∈ keysT es3)) (XT.cast (xt_cmp (op_tdNin (room1 (X := cx W n_Ways_edited "Ways.edited" s_Ways_edited f0 cdv A outer s (Upds G0 [(e, TD W.P W.w e es0), (h, TD W.P W.w h hs0)]) E) hr)) (xe_var 7 rfl) (xe_fld (v := .ref e) (xe_var 0 rfl) (upds_ge f4 _ _ hy4) WC.cl (WC.na "elders" (by simp)) rfl) (rv_tdIn (x := S.led x pt) (st_mono (upds_ge f4) hla) (.inl (upds_at (i := 0) hM3.1 rfl)) ((k3.mono sG4).mono (upds_ge f4))) (by rfl)) (Bool.true_xor _)) (fun hb => ?_) fun hb => ?_
              · have hny : S.led x pt ∉ keysT es3 := by simpa using hb
                refine xs_tdput (x := S.led x pt) hr (R := AnyRef) ((xe_tup (Rs := [Is (.ref it), TupR [Is (.str "edit"), Is (.ref pa)]]) (xa_cons (xe_var 5 rfl) (xa_cons (m := ⟨fun v H H' e ⟨a, ys, h1, h2, h3⟩ => ⟨a, ys, h1, e _ _ h2, AllR.mono (monL_is [.str "edit", .ref pa]) e h3⟩⟩) (xe_tup (Rs := [Is (.str "edit"), Is (.ref pa)]) (xa_cons xe_str (xa_cons (xe_var 6 rfl) xa_nil)) (by simp)) xa_nil)) (by simp)).imp fun v H2 _ ⟨a, _, h1, _⟩ => ⟨a, h1⟩) (xe_fld (v := .ref e) (xe_var 0 rfl) (upds_ge f4 _ _ hy4) WC.cl (WC.na "elders" (by simp)) rfl) (xe_var 7 rfl) (upds_at (i := 0) hM3.1 rfl) ((k3.mono sG4).mono (upds_ge f4)) (st_mono (upds_ge f4) hla) hny (by omega) (fun v H8 s8 _ => ?_)
                obtain ⟨G5, rfl, sG5, f5⟩ := renorm hM3.1 f4 s8
                rw [upds_set (i := 0) hM3.1 rfl]
                show XSs _ _ _ _ (Upds G5 (M4 W e h f p (es3 ++ [(S.led x pt, la, v)]) (hs ++ [(x, it, .int n)]) (fv ++ [.ref it]) pv3))
                have hM5 : OkM (M4 W e h f p (es3 ++ [(S.led x pt, la, v)]) (hs ++ [(x, it, .int n)]) (fv ++ [.ref it]) pv3) := okM4 ap
                have f5 : Fresh (M4 W e h f p (es3 ++ [(S.led x pt, la, v)]) (hs ++ [(x, it, .int n)]) (fv ++ [.ref it]) pv3) G5 := fresh4 f5
                have lp : pv3.length ≤ U.length := by rw [v3.length, List.length_map]; exact lens3.2.1
                refine xs_append (R := Is (.ref la)) (xe_var 4 rfl) (xe_var 7 rfl) (upds_at (i := 3) hM5.1 rfl) (by omega) fun v' H9 s9 hv' => ?_
                cases hv'
                obtain ⟨G6, rfl, sG6, f6⟩ := renorm hM5.1 f5 s9
                rw [upds_set (i := 3) hM5.1 rfl]
                refine xs_nil fun H10 s10 => xs_nil fun H11 s11 => ?_
                have f6 : Fresh (M4 W e h f p (es3 ++ [(S.led x pt, la, v)]) (hs ++ [(x, it, .int n)]) (fv ++ [.ref it]) (pv3 ++ [.ref la])) G6 := fresh4 f6
                obtain ⟨G7, rfl, sG7, f7⟩ := renorm (okM4 (W := W) (es := es3 ++ [(S.led x pt, la, v)]) (hs := hs ++ [(x, it, .int n)]) (fv := fv ++ [.ref it]) (pv := pv3 ++ [.ref la]) ap).1 f6 (s10.trans s11)
                have s47 := (sG5.trans sG6).trans sG7
                have s37 := sG4.trans s47
                refine ⟨G7, es3 ++ [(S.led x pt, la, v)], p3 ++ [S.led x pt], pv3 ++ [.ref la], _, _, rfl, s3.trans s37, f7, (k3.mono s37).snoc (st_mono s47 hla), allItems_snoc (allItems s37 v3) ⟨la, rfl, st_mono s47 hla⟩, ?_, rfl⟩
                rw [et, addAll_snoc, ← k1, if_neg hny, ← k2, keysT_snoc]
              · have hy3 : S.led x pt ∈ keysT es3 := by simpa using hb
                refine xs_nil fun H6 s6 => xs_nil fun H7 s7 => ?_
                obtain ⟨G6, rfl, sG6, f6⟩ := renorm hM3.1 f4 (s6.trans s7)
                have s36 := sG4.trans sG6
                refine ⟨G6, es3, p3, pv3, _, _, rfl, s3.trans s36, f6, k3.mono s36, allItems s36 v3, ?_, rfl⟩
                rw [et, addAll_snoc, ← k1, if_pos hy3, hadd]
          · obtain ⟨G3, es3, p3, pv3, u6, u7, rfl, s3, f3, k3, v3, hadd, rfl⟩ := hP
            have et : lEIGHT.take lEIGHT.length = lEIGHT := List.take_length
            rw [et] at hadd
            have k1 : keysT es3 = (addAll (keysT es) pr (lEIGHT.map (S.led x))).1 := congrArg Prod.fst hadd
            have k2 : p3 = (addAll (keysT es) pr (lEIGHT.map (S.led x))).2 := congrArg Prod.snd hadd
            have inv3 : WInv ok (keysT es3) (keysT (hs ++ [(x, it, .int n)])) p3 := by
              rw [k1, k2]
              exact addAll_inv inv' fun z hz => by
                obtain ⟨q, _, rfl⟩ := List.mem_map.mp hz
                exact T.okL x q okx
            have lens3 := lenOk es3 _ _ inv3
            refine xs_nil fun H6 s6 => ?_
            obtain ⟨G6, rfl, sG6, f6⟩ := renorm (okM4 (W := W) (es := es3) (hs := hs ++ [(x, it, .int n)]) (fv := fv ++ [.ref it]) (pv := pv3) ap).1 f3 s6
            have s26 := s3.trans sG6
            refine ⟨_, ?_, G6, es3, hs ++ [(x, it, .int n)], fd ++ [x], p3, fv ++ [.ref it], pv3, _, _, _, rfl, (sG.trans s2).trans s26, f6, k3.mono sG6, khs'.mono (s2.trans s26), allItems (s2.trans s26) hfv', allItems sG6 v3, inv3, ?_, ?_, fun k' f' h => hE k' f' (.step (by rw [← k1, ← k2]; exact h)), rfl, rfl⟩
            · have h1 := addAll_len (k := keysT es) (p := pr) (l := lEIGHT.map (S.led x))
              have h2 := addAll_ge (k := keysT es) (p := pr) (l := lEIGHT.map (S.led x))
              rw [← k1, ← k2, keysT_len, keysT_len] at h1 h2
              simp only [List.length_cons]
              omega
            · rw [valsT_snoc, hvals, List.map_append, List.append_assoc]
              rfl
            · intro z hz
              rw [k1]
              refine addAll_sub ?_
              rcases List.mem_append.mp hz with q | q
              · exact hfk z q
              · rw [List.mem_singleton.mp q]; exact inv.lsub x (by simp)
    · have hpd : pd = [] := by simpa using hb
      subst hpd
      obtain ⟨G, rfl, sG', fG⟩ := renorm hM.1 fG s2
      refine xs_ret (xe_var 3 rfl) fun v H4 s4 hv => ?_
      cases hv
      obtain ⟨G5, rfl, sG5, f5⟩ := renorm hM.1 fG s4
      have s5 := sG'.trans sG5
      have fr2 : Fresh [(f, HO.lst fv), (p, .lst pv)] G5 := fun q hq => f5 q (by
        rcases List.mem_cons.mp hq with rfl | hq
        · simp
        · rw [List.mem_singleton.mp hq]; simp)
      have g5 := upds_ge fr2
      have nd2 : ([(f, HO.lst fv), (p, HO.lst pv)].map (·.1)).Nodup := by simp [ap.fp]
      exact hq (Upds G5 [(f, .lst fv), (p, .lst pv)]) es hs f fv fd ((sG.trans s5).trans g5) (fun q hq => by
        rcases List.mem_cons.mp hq with rfl | hq
        · show Upds G5 [(f, .lst fv), (p, .lst pv)] e = none
          rw [upds_out (by simp [ap.ef, ap.ep])]
          exact f5 (e, TD W.P W.w e es) (by simp)
        · rw [List.mem_singleton.mp hq]
          show Upds G5 [(f, .lst fv), (p, .lst pv)] h = none
          rw [upds_out (by simp [ap.hf, ap.hp])]
          exact f5 (h, TD W.P W.w h hs) (by simp)) ((kes.mono s5).mono g5) ((khs.mono s5).mono g5) (allItems (s5.trans g5) hfv) (upds_at (i := 0) nd2 rfl) (hE _ _ .done) hvals inv hfk
end
end LM

set_option maxHeartbeats 4000000
namespace LM
open PySem PySem.Spec PyProof.Rows L2
/-- the values of coming: pairs -/
def CVals (K : PySem.W.Frag) (H : Hp) (es : List Ent) : Prop := ∀ e ∈ es, ∃ T s p, e.2.2 = .ref T ∧ SqT K H T [s, p]
theorem CVals.mono {K : PySem.W.Frag} {H H' : Hp} {es : List Ent} (e : Same H H') (h : CVals K H es) : CVals K H' es := fun x hx => by
  obtain ⟨T, s, p, h1, h2⟩ := h x hx
  exact ⟨T, s, p, h1, st_mono e h2⟩
section
variable {W : Wd}
theorem FTdW.x {X : Cx} {H : Hp} {d : Addr} {es : List Ent} (h : FTdW (wd X) H d es) : FTd X H d es := h
theorem FTdW.mono {H H' : Hp} {d : Addr} {es : List Ent} (e : Same H H') : FTdW W H d es → FTdW W H' d es
  | ⟨⟨o, h⟩, k⟩ => ⟨⟨o, e _ _ h⟩, k.mono e⟩
/-- came, (sent, pattern) -/
abbrev g3 (K : PySem.W.Frag) (i j k : Nat) : TG := gTup K 2 (gCons (gName i) (gCons (g2 K j k) gNil))
theorem gmon_3 {K : PySem.W.Frag} {i j k : Nat} : GMon (g3 K i j k) := gmon_tup (gmon_cons gmon_name (gmon_cons gmon_2 gmon_nil))
theorem g3_ok {K : PySem.W.Frag} {i j k : Nat} {a T : Addr} {u s p : V} {σ : St} {H : Hp} {Q : St → Hp → Prop} (hq : SqT K H a [u, .ref T]) (hT : SqT K H T [s, p]) (h : Q (((σ.set i (some u)).set j (some s)).set k (some p)) H) : g3 K i j k (.ref a) σ H Q :=
  ⟨a, [u, .ref T], rfl, hq, rfl, u, [.ref T], rfl, .ref T, [], rfl, g2_ok hT ⟨rfl, h⟩⟩
def spHeard (W : Wd) : Sp := fun vs H Q _ => ∃ (y l : Addr) (G : Hp) (e : Addr) (es : List Ent) (ces : List Ent) (C : Addr) (S : SD) (SA : Addr → Hp → Prop) (ok : It2 → Prop) (U : List It2) (st m c h dx : Addr) (layer : List It2) (lv : List V),
  vs = [.ref y, .ref l] ∧ H = Upds G [(e, TD W.P W.w e es)] ∧ Fresh [(e, TD W.P W.w e es)] G ∧ StepsW W C S SA ok U ∧ SA st G ∧ G y = some (.ins (cWays W) dx (waysFs st m c h e)) ∧ G l = some (.lst lv) ∧ AllR (layer.map (ItR W.K)) lv G ∧
  TKs W.K G es ∧ FTdW W G c ces ∧ CVals W.K G ces ∧ (keysT es).Nodup ∧ (∀ x ∈ keysT es, ok x) ∧ (∀ x ∈ keysT ces, ok x) ∧ (∀ x ∈ layer, ok x) ∧
  ∀ (G' : Hp) (es' : List Ent) (q : Addr) (fv : List V), Same G G' → Fresh [(e, TD W.P W.w e es')] G' → TKs W.K G' es' → AllR ((addAll (keysT es) [] (heardL S (keysT ces) layer)).2.map (ItR W.K)) fv G' → G' q = some (.lst fv) → keysT es' = (addAll (keysT es) [] (heardL S (keysT ces) layer)).1 → Q (.ref q) (Upds G' [(e, TD W.P W.w e es')])
theorem met_heard (B : Blt W) (WC : WaysC W) (A : MethAt W (cWays W) "heard" "Ways.heard" s_Ways_heard ["self", "layer"]) : Met W 5 (cWays W) "heard" (spHeard W) := by
  refine met_raw A sc_Ways_heard (fun vs H Q E h => by obtain ⟨_, _, _, _, _, _, _, _, _, _, _, _, _, _, _, _, _, _, rfl, _⟩ := h; rfl) fun f0 cdv A outer s H vs Q E hr hh => ?_
  obtain ⟨y, l, G0, e, es0, ces, C, S, SA, ok, U, st, m, c, h, dx, layer, lv, rfl, rfl, fG0, T, hsa, hy, hl, hlv, kes0, hce, hcv, nd0, ok0, okc, okl, hq⟩ := hh
  have ge := upds_ge fG0
  have hU := T.lenU
  have lenOk : ∀ (k : List It2), k.Nodup → (∀ x ∈ k, ok x) → k.length ≤ U.length := fun k h1 h2 => nodup_len h1 fun x hx => T.okU x (h2 x hx)
  have okH : ∀ ls cs : List It2, (∀ x ∈ ls, ok x) → (∀ x ∈ cs, ok x) → ∀ z ∈ heardL S cs ls, ok z := fun ls cs h1 h2 z hz => by
    obtain ⟨x, hx, h3⟩ := List.mem_flatMap.mp hz
    obtain ⟨c, hc, rfl⟩ := List.mem_map.mp h3
    exact T.okJ x c (h1 x hx) (h2 c hc)
  refine xs_set (R := NewL (Upds G0 [(e, TD W.P W.w e es0)]) []) 2 (xe_lstN (xs := []) xa_nil (by simp)) (fun v H1 s1 hv => ?_) sc_Ways_heard.nd
  obtain ⟨f, rfl, hf0, hf⟩ := hv
  have he1 : H1 e = some (TD W.P W.w e es0) := s1 _ _ (upds_at (i := 0) (by simp) rfl)
  have ef : e ≠ f := fun q => by subst q; rw [he1] at hf; cases hf
  obtain ⟨G, rfl, sG0, fG⟩ := split_new (H := G0) (M := [(e, TD W.P W.w e es0), (f, .lst [])]) (okM2 ef).1 (fun q hq => by
    rcases List.mem_cons.mp hq with rfl | hq
    · exact he1
    · rw [List.mem_singleton.mp hq]; exact hf) (fun q hq => by
    rcases List.mem_cons.mp hq with rfl | hq
    · exact fG0 (e, TD W.P W.w e es0) (by simp)
    · rw [List.mem_singleton.mp hq]; exact none_of ge hf0) (ge.trans s1)
  -- what is known: P lists
  let Kn : List It2 → Hp → St → Hp → Prop := fun L G2 σ' H' => ∃ (G3 : Hp) (es : List Ent) (f3 : List It2) (fv : List V) (u3 u4 u5 u6 u7 : Option V), H' = Upds G3 [(e, TD W.P W.w e es), (f, .lst fv)] ∧ Same G2 G3 ∧ Fresh [(e, TD W.P W.w e es), (f, .lst fv)] G3 ∧ TKs W.K G3 es ∧ AllR (f3.map (ItR W.K)) fv G3 ∧
    (keysT es, f3) = addAll (keysT es0) [] L ∧ σ' = [some (.ref y), some (.ref l), some (.ref f), u3, u4, u5, u6, u7]
  have facts : ∀ L : List It2, (∀ z ∈ L, ok z) → ∀ (es : List Ent) (f3 : List It2), (keysT es, f3) = addAll (keysT es0) [] L → (keysT es).Nodup ∧ (∀ x ∈ keysT es, ok x) ∧ es.length ≤ U.length ∧ f3.length ≤ U.length := fun L hL es f3 hadd => by
    have k1 : keysT es = (addAll (keysT es0) [] L).1 := congrArg Prod.fst hadd
    have k2 : f3 = (addAll (keysT es0) [] L).2 := congrArg Prod.snd hadd
    have h1 : (keysT es).Nodup := by rw [k1]; exact addAll_nodup nd0
    have h2 : ∀ x ∈ keysT es, ok x := by rw [k1]; exact (addAll_mem (P := ok) ok0 (fun x hx => by cases hx) hL).1
    have h3 := lenOk _ h1 h2
    have h4 := addAll_len (k := keysT es0) (p := []) (l := L)
    rw [← k1, ← k2] at h4
    simp only [List.length_nil] at h4
    exact ⟨h1, h2, by rw [← keysT_len]; exact h3, by omega⟩
  refine xs_for (M := [(e, TD W.P W.w e es0), (f, .lst [])]) (g := gName 3) (xi_seqR (rel := ItR W.K) (xe_var 1 rfl) (.inl (sG0 _ _ hl)) (allItems sG0 hlv) fun _ => inferInstance) (okM2 ef) fG (pg_name (i := 3) sc_Ways_heard.nd rfl (Or.inl rfl)) gmon_name
    (fun G2 i σ' H' => Kn (heardL S (keysT ces) (layer.take i)) G2 σ' H') (fun G2 s2 f2 => ⟨G2, es0, [], [], _, _, _, _, _, rfl, Same.refl _, f2, (kes0.mono sG0).mono s2, trivial, rfl, rfl⟩) (fun G2 i σ' H' ⟨G3, es, f3, fv, _, _, _, _, _, hH, s3, hf3, _⟩ => by rw [hH]; exact s3.trans (upds_ge hf3)) (fun G2 i z σ' H' H'' s2 hi hP hy' => ?_) (fun G2 σ' H' s2 hP => ?_)
  · obtain ⟨G3, es, f3, fv, u3, u4, u5, u6, u7, rfl, s3, hf3, kes, hfv, hadd, rfl⟩ := hP
    obtain ⟨rfl, R, hR, hz⟩ := hy'
    rw [List.getElem?_map] at hR
    cases hxi : layer[i]? with
    | none => rw [hxi] at hR; cases hR
    | some x =>
      rw [hxi] at hR
      cases hR
      obtain ⟨it, rfl, hit⟩ := hz
      have okx := okl x (List.mem_of_getElem? hxi)
      have et : layer.take (i + 1) = layer.take i ++ [x] := by rw [List.take_succ, hxi]; rfl
      have hM3 : OkM [(e, TD W.P W.w e es), (f, .lst fv)] := okM2 ef
      have s03 := (sG0.trans s2).trans s3
      have hy3 := s03 _ _ hy
      have hc3 := hce.mono s03
      have hcv3 := hcv.mono s03
      have hit3 := st_mono s3 hit
      have hc3x : FTd (cx W n_Ways_heard "Ways.heard" s_Ways_heard f0 cdv A outer s (Upds G0 [(e, TD W.P W.w e es0)]) E) G3 c ces := hc3
      show XSs _ _ _ _ (Upds G3 [(e, TD W.P W.w e es), (f, .lst fv)])
      refine xs_for (M := [(e, TD W.P W.w e es), (f, .lst fv)]) (g := g3 W.K 4 5 6) (xi_ti (xe_fld (v := .ref c) (xe_var 0 rfl) hy3 WC.cl (WC.na "coming" (by simp)) rfl) hc3x) hM3 hf3 (pg_tup rfl (pgs_cons (pg_name (i := 4) sc_Ways_heard.nd rfl (Or.inl rfl)) (pgs_cons (pg_2 rfl sc_Ways_heard.nd rfl rfl (Or.inl rfl) (Or.inl rfl) (.inr rfl) (.inr rfl)) pgs_nil))) gmon_3
        (fun G4 j σ' H' => ∃ (G5 : Hp) (es : List Ent) (f3 : List It2) (fv : List V) (u4 u5 u6 u7 : Option V), H' = Upds G5 [(e, TD W.P W.w e es), (f, .lst fv)] ∧ Same G4 G5 ∧ Fresh [(e, TD W.P W.w e es), (f, .lst fv)] G5 ∧ TKs W.K G5 es ∧ AllR (f3.map (ItR W.K)) fv G5 ∧
          (keysT es, f3) = addAll (keysT es0) [] (heardL S (keysT ces) (layer.take i) ++ ((keysT ces).take j).map (S.joined x)) ∧ σ' = [some (.ref y), some (.ref l), some (.ref f), some (.ref it), u4, u5, u6, u7])
        (fun G4 s4 f4 => ⟨G4, es, f3, fv, _, _, _, _, rfl, Same.refl _, f4, kes.mono s4, allItems s4 hfv, by rw [hadd]; simp, rfl⟩) (fun G4 j σ' H' ⟨G5, es, f3, fv, _, _, _, _, hH, s5, f5, _⟩ => by rw [hH]; exact s5.trans (upds_ge f5)) (fun G4 j z σ' H' H'' s4 hj hP hy' => ?_) (fun G4 σ' H' s4 hP => ?_)
      · obtain ⟨G5, es5, f5, fv5, u4, u5, u6, u7, rfl, s5, fr5, k5, v5, hadd5, rfl⟩ := hP
        obtain ⟨Tn, en, hen, rfl, hTn, rfl⟩ := hy'
        have hM5 : OkM [(e, TD W.P W.w e es5), (f, .lst fv5)] := okM2 ef
        obtain ⟨G6, hG6, sG6, fr6⟩ := renorm hM5.1 fr5 (newS hTn (o := .tup [.ref en.2.1, en.2.2]))
        have s35 := s4.trans s5
        have s36 := s35.trans sG6
        obtain ⟨Tv, sv, pv, hval, hTv⟩ := hcv3 en (List.mem_of_getElem? hen)
        have hkey : SqT W.K G3 en.2.1 (itV en.1) := hc3.2 en (List.mem_of_getElem? hen)
        have hce1 : (keysT ces)[j]? = some en.1 := by unfold keysT; rw [List.getElem?_map, hen]; rfl
        have okce : ok en.1 := okc _ (List.mem_of_getElem? hce1)
        have ej : ((keysT ces).take (j + 1)).map (S.joined x) = ((keysT ces).take j).map (S.joined x) ++ [S.joined x en.1] := by rw [List.take_succ, hce1, List.map_append]; rfl
        have okL : ∀ z ∈ heardL S (keysT ces) (layer.take i) ++ ((keysT ces).take j).map (S.joined x), ok z := fun z hz => by
          rcases List.mem_append.mp hz with q | q
          · exact okH _ _ (fun x hx => okl x (List.mem_of_mem_take hx)) okc z q
          · obtain ⟨c', hc', rfl⟩ := List.mem_map.mp q
            exact T.okJ x c' okx (okc c' (List.mem_of_mem_take hc'))
        obtain ⟨nd5, ok5, len5, lf5⟩ := facts _ okL es5 f5 hadd5
        have k1 : keysT es5 = (addAll (keysT es0) [] (heardL S (keysT ces) (layer.take i) ++ ((keysT ces).take j).map (S.joined x))).1 := congrArg Prod.fst hadd5
        have k2 : f5 = (addAll (keysT es0) [] (heardL S (keysT ces) (layer.take i) ++ ((keysT ces).take j).map (S.joined x))).2 := congrArg Prod.snd hadd5
        refine g3_ok (K := W.K) (T := Tv) (s := sv) (p := pv) (u := .ref en.2.1) (by rw [← hval]; exact SqT.of upd_same) (by rw [hG6]; exact st_mono (s36.trans (upds_ge fr6)) hTv) ?_
        rw [hG6]
        have hy6 := s36 _ _ hy3
        have hit6 := st_mono s36 hit3
        refine xs_set (R := Up G6 [(e, TD W.P W.w e es5), (f, .lst fv5)] (ItR W.K (S.joined x en.1))) 7 ((xe_stepJoin T hr (xe_fld (v := .ref st) (xe_var 0 rfl) hy6 WC.cl (WC.na "steps" (by simp)) rfl) (T.mono (s03.trans s36) hsa) (xe_var 3 rfl) hit6 okx (xe_var 4 rfl) (st_mono s36 hkey) okce).up hM5 fr6) (fun lv' H7 s7 hlv' => ?_) sc_Ways_heard.nd
        obtain ⟨G7, rfl, sG7, fr7, la, rfl, hla⟩ := hlv'
        have hy7 := sG7 _ _ hy6
        have k7 := (k5.mono sG6).mono sG7
        refine xs_if (b := !decide (S.joined x en.1 ∈ keysT es5)) (XT.cast (xt_cmp (op_tdNin (room1 (X := cx W n_Ways_heard "Ways.heard" s_Ways_heard f0 cdv A outer s (Upds G0 [(e, TD W.P W.w e es0)]) E) hr)) (xe_var 7 rfl) (xe_fld (v := .ref e) (xe_var 0 rfl) (upds_ge fr7 _ _ hy7) WC.cl (WC.na "elders" (by simp)) rfl) (rv_tdIn (x := S.joined x en.1) (st_mono (upds_ge fr7) hla) (.inl (upds_at (i := 0) hM5.1 rfl)) (k7.mono (upds_ge fr7))) (by rfl)) (Bool.true_xor _)) (fun hb => ?_) fun hb => ?_
        · have hny : S.joined x en.1 ∉ keysT es5 := by simpa using hb
          refine xs_tdput (x := S.joined x en.1) hr (R := AnyRef) ((xe_tup (Rs := [Is (.ref it), TupR [Is (.str "hear"), Is pv, Is sv]]) (xa_cons (xe_var 3 rfl) (xa_cons (m := ⟨fun v H H' e ⟨a, ys, h1, h2, h3⟩ => ⟨a, ys, h1, e _ _ h2, AllR.mono (monL_is [.str "hear", pv, sv]) e h3⟩⟩) (xe_tup (Rs := [Is (.str "hear"), Is pv, Is sv]) (xa_cons xe_str (xa_cons (xe_var 6 rfl) (xa_cons (xe_var 5 rfl) xa_nil))) (by simp)) xa_nil)) (by simp)).imp fun v H2 _ ⟨a, _, h1, _⟩ => ⟨a, h1⟩) (xe_fld (v := .ref e) (xe_var 0 rfl) (upds_ge fr7 _ _ hy7) WC.cl (WC.na "elders" (by simp)) rfl) (xe_var 7 rfl) (upds_at (i := 0) hM5.1 rfl) (k7.mono (upds_ge fr7)) (st_mono (upds_ge fr7) hla) hny (by omega) (fun v H8 s8 _ => ?_)
          obtain ⟨G8, rfl, sG8, fr8⟩ := renorm hM5.1 fr7 s8
          rw [upds_set (i := 0) hM5.1 rfl]
          show XSs _ _ _ _ (Upds G8 [(e, TD W.P W.w e (es5 ++ [(S.joined x en.1, la, v)])), (f, .lst fv5)])
          have hM8 : OkM [(e, TD W.P W.w e (es5 ++ [(S.joined x en.1, la, v)])), (f, .lst fv5)] := okM2 ef
          have fr8 : Fresh [(e, TD W.P W.w e (es5 ++ [(S.joined x en.1, la, v)])), (f, .lst fv5)] G8 := fresh2 fr8
          have lp : fv5.length ≤ U.length := by rw [v5.length, List.length_map]; exact lf5
          refine xs_append (R := Is (.ref la)) (xe_var 2 rfl) (xe_var 7 rfl) (upds_at (i := 1) hM8.1 rfl) (by omega) fun v' H9 s9 hv' => ?_
          cases hv'
          obtain ⟨G9, rfl, sG9, fr9⟩ := renorm hM8.1 fr8 s9
          rw [upds_set (i := 1) hM8.1 rfl]
          refine xs_nil fun H10 s10 => xs_nil fun H11 s11 => ?_
          have fr9 : Fresh [(e, TD W.P W.w e (es5 ++ [(S.joined x en.1, la, v)])), (f, .lst (fv5 ++ [.ref la]))] G9 := fresh2 fr9
          obtain ⟨G10, rfl, sG10, fr10⟩ := renorm (okM2 (P := W.P) (w := W.w) (es := es5 ++ [(S.joined x en.1, la, v)]) (vs := fv5 ++ [.ref la]) ef).1 fr9 (s10.trans s11)
          have s710 := (sG8.trans sG9).trans sG10
          have s510 := (sG6.trans sG7).trans s710
          refine ⟨G10, es5 ++ [(S.joined x en.1, la, v)], f5 ++ [S.joined x en.1], fv5 ++ [.ref la], _, _, _, _, rfl, s5.trans s510, fr10, (k5.mono s510).snoc (st_mono s710 hla), allItems_snoc (allItems s510 v5) ⟨la, rfl, st_mono s710 hla⟩, ?_, rfl⟩
          rw [ej, ← List.append_assoc, addAll_snoc, ← k1, if_neg hny, ← k2, keysT_snoc]
        · have hy3' : S.joined x en.1 ∈ keysT es5 := by simpa using hb
          refine xs_nil fun H6 s6 => xs_nil fun H7 s7 => ?_
          obtain ⟨G8, rfl, sG8, fr8⟩ := renorm hM5.1 fr7 (s6.trans s7)
          have s58 := (sG6.trans sG7).trans sG8
          refine ⟨G8, es5, f5, fv5, _, _, _, _, rfl, s5.trans s58, fr8, k5.mono s58, allItems s58 v5, ?_, rfl⟩
          rw [ej, ← List.append_assoc, addAll_snoc, ← k1, if_pos hy3', hadd5]
      · obtain ⟨G5, es5, f5, fv5, u4, u5, u6, u7, rfl, s5, fr5, k5, v5, hadd5, rfl⟩ := hP
        refine xs_nil fun H6 s6 => ?_
        obtain ⟨G6, rfl, sG6, fr6⟩ := renorm (okM2 (P := W.P) (w := W.w) (es := es5) (vs := fv5) ef).1 fr5 s6
        refine ⟨G6, es5, f5, fv5, _, _, _, _, _, rfl, ((s3.trans s4).trans s5).trans sG6, fr6, k5.mono sG6, allItems sG6 v5, ?_, rfl⟩
        rw [hadd5, et]
        have e1 : (keysT ces).take ces.length = keysT ces := by rw [← keysT_len]; exact List.take_length
        rw [e1]
        unfold heardL
        rw [List.flatMap_append]
        simp
  · obtain ⟨G3, es, f3, fv, u3, u4, u5, u6, u7, rfl, s3, hf3, kes, hfv, hadd, rfl⟩ := hP
    rw [List.take_length] at hadd
    have k1 : keysT es = (addAll (keysT es0) [] (heardL S (keysT ces) layer)).1 := congrArg Prod.fst hadd
    have k2 : f3 = (addAll (keysT es0) [] (heardL S (keysT ces) layer)).2 := congrArg Prod.snd hadd
    refine xs_ret (xe_var 2 rfl) fun v H4 s4 hv => ?_
    cases hv
    obtain ⟨G5, rfl, sG5, fr5⟩ := renorm (okM2 (P := W.P) (w := W.w) (es := es) (vs := fv) ef).1 hf3 s4
    have fr2 : Fresh [(f, HO.lst fv)] G5 := fresh1 (fr5 (f, .lst fv) (by simp))
    have g5 := upds_ge fr2
    have s05 := ((sG0.trans s2).trans s3).trans sG5
    refine hq (Upds G5 [(f, .lst fv)]) es f fv (s05.trans g5) (fresh1 ?_) ((kes.mono sG5).mono g5) (by rw [← k2]; exact allItems (sG5.trans g5) hfv) upd_same k1
    rw [upds_out (by simp [ef])]
    exact fr5 (e, TD W.P W.w e es) (by simp)
end
end LM

set_option maxHeartbeats 4000000
namespace LM
open PySem PySem.Spec PyProof.Rows L2
def encH (l : List (It2 × Nat)) : List (It2 × V) := l.map fun x => (x.1, .int x.2)
/-- an object that holds what can come about -/
def WaysF (W : Wd) (w : WaysD) (ok : It2 → Prop) (fs : List (Str × V)) (H : Hp) : Prop := ∃ (st m c h e : Addr) (mes ces hes : List Ent), fs = waysFs st m c h e ∧ FTdW W H m mes ∧ FTdW W H c ces ∧ CVals W.K H ces ∧ FTdW W H h hes ∧
  keysT mes = w.machine ∧ keysT ces = w.coming ∧ valsT hes = encH w.hearings ∧ (∀ x ∈ w.machine, ok x) ∧ (∀ x ∈ w.coming, ok x) ∧ (∀ x ∈ keysT hes, ok x) ∧ (keysT hes).Nodup ∧ w.machine.Nodup
theorem WaysF.mono {W : Wd} {w : WaysD} {ok : It2 → Prop} {fs : List (Str × V)} {H H' : Hp} (e : Same H H') : WaysF W w ok fs H → WaysF W w ok fs H'
  | ⟨st, m, c, h, el, mes, ces, hes, h0, h1, h2, h3, h4, h5⟩ => ⟨st, m, c, h, el, mes, ces, hes, h0, h1.mono e, h2.mono e, h3.mono e, h4.mono e, h5⟩
def WaysR (W : Wd) (w : WaysD) (ok : It2 → Prop) : VP := InsR (cWays W) (WaysF W w ok)
instance (W : Wd) (w : WaysD) (ok : It2 → Prop) : Mon (WaysR W w ok) := ⟨fun v H H' e ⟨a, dx, fs, h1, h2, h3⟩ => ⟨a, dx, fs, h1, e _ _ h2, h3.mono e⟩⟩
def EldR (W : Wd) (S : SD) (ok : It2 → Prop) : VP := fun v H' => ∃ d es, v = .ref d ∧ FTdW W H' d es ∧ Bfs S.mach [S.begin] [S.begin] (keysT es) ∧ ∀ x ∈ keysT es, ok x
instance (W : Wd) (S : SD) (ok : It2 → Prop) : Mon (EldR W S ok) := ⟨fun v H H' e ⟨d, es, h1, h2, h3⟩ => ⟨d, es, h1, h2.mono e, h3⟩⟩
theorem ftd_updI {W : Wd} {H : Hp} {y C dx d : Addr} {fs : List (Str × V)} {es : List Ent} {u : HO} (hy : H y = some (.ins C dx fs)) : FTdW W H d es → FTdW W (upd H y u) d es
  | ⟨⟨o, h⟩, k⟩ => ⟨⟨o, keepU hy h (fun _ _ _ z => nomatch z)⟩, tks_updI hy k⟩
theorem cvals_updI {K : PySem.W.Frag} {H : Hp} {y C dx : Addr} {fs : List (Str × V)} {es : List Ent} {u : HO} (hy : H y = some (.ins C dx fs)) (h : CVals K H es) : CVals K (upd H y u) es := fun x hx => by
  obtain ⟨T, s, p, h1, h2⟩ := h x hx
  exact ⟨T, s, p, h1, st_updI hy h2⟩
/-- the heap without one thing that is new -/
theorem same_upd {H H' : Hp} {y : Addr} {o : HO} (e : Same H H') : Same (upd H y o) (upd H' y o) := fun a u h => by
  by_cases q : a = y
  · subst q; rw [upd_same] at h ⊢; exact h
  · rw [upd_ne q] at h ⊢; exact e _ _ h
theorem comeOf_snoc {S : SD} {ks : List It2} {x : It2} {l : List Pat} {p : Pat} : ((l ++ [p]).map (S.led x)).foldl addKey (addKey ks x) = addKey ((l.map (S.led x)).foldl addKey (addKey ks x)) (S.led x p) := by
  rw [List.map_append, List.foldl_append]; rfl
theorem CVals.snoc {K : PySem.W.Frag} {H : Hp} {es : List Ent} {x : It2} {a : Addr} {v : V} (h : CVals K H es) (hv : ∃ T s p, v = .ref T ∧ SqT K H T [s, p]) : CVals K H (es ++ [(x, a, v)]) := fun e he => by
  rcases List.mem_append.mp he with q | q
  · exact h e q
  · rw [List.mem_singleton.mp q]; exact hv
section
variable {W : Wd}
/-- coming: one key more, or none -/
structure ComeI (W : Wd) (ok : It2 → Prop) (G : Hp) (c : Addr) (ces : List Ent) (ks : List It2) : Prop where
  keys : keysT ces = ks
  tks : TKs W.K G ces
  vals : CVals W.K G ces
  oks : ∀ x ∈ keysT ces, ok x
  nd : (keysT ces).Nodup
theorem ComeI.mono {ok : It2 → Prop} {G G' : Hp} {c : Addr} {ces : List Ent} {ks : List It2} (e : Same G G') (h : ComeI W ok G c ces ks) : ComeI W ok G' c ces ks := ⟨h.keys, h.tks.mono e, h.vals.mono e, h.oks, h.nd⟩
theorem ComeI.old {ok : It2 → Prop} {G : Hp} {c : Addr} {ces : List Ent} {ks : List It2} {x : It2} (h : ComeI W ok G c ces ks) (hx : x ∈ keysT ces) : ComeI W ok G c ces (addKey ks x) := ⟨by unfold addKey; rw [if_pos (by rw [← h.keys]; exact hx)]; exact h.keys, h.tks, h.vals, h.oks, h.nd⟩
theorem ComeI.new {ok : It2 → Prop} {G : Hp} {c : Addr} {ces : List Ent} {ks : List It2} {x : It2} {a : Addr} {v : V} (h : ComeI W ok G c ces ks) (hx : x ∉ keysT ces) (okx : ok x) (ha : SqT W.K G a (itV x)) (hv : ∃ T s p, v = .ref T ∧ SqT W.K G T [s, p]) : ComeI W ok G c (ces ++ [(x, a, v)]) (addKey ks x) :=
  ⟨by unfold addKey; rw [if_neg (by rw [← h.keys]; exact hx), keysT_snoc, h.keys], h.tks.snoc ha, h.vals.snoc hv, fun y hy => by
    rw [keysT_snoc] at hy
    rcases List.mem_append.mp hy with q | q
    · exact h.oks y q
    · rw [List.mem_singleton.mp q]; exact okx, by rw [keysT_snoc]; exact nodup_snoc h.nd hx⟩
/-- self.coming.setdefault(key, (item, ..)) -/
theorem xs_come {X : Cx} (hX : wd X = W) {i value o : Expr} {j : Nat} {σ : St} {rest : List Stmt} {D : Ends} {apos cpos pos : Pos} {ok : It2 → Prop} {G : Hp} {c : Addr} {ces : List Ent} {ks : List It2} {x : It2} (hr : Room j X.A) (ci : ComeI W ok G c ces ks) (fr : Fresh [(c, TD W.P W.w c ces)] G) (hl : ces.length ≤ 1000) (okx : ok x)
    (ho : XV X o σ (Upds G [(c, TD W.P W.w c ces)]) (.ref c)) (hi : XE X i σ G (ItR W.K x)) (he : XE X value σ G (fun v H => ∃ T s p, v = .ref T ∧ SqT W.K H T [s, p]))
    (k : ∀ G' ces', Same G G' → Fresh [(c, TD W.P W.w c ces')] G' → ComeI W ok G' c ces' (addKey ks x) → XSs X rest D σ (Upds G' [(c, TD W.P W.w c ces')]))
    (hb : attributeBase o "setdefault" X.env (eval o X.env) = eval o X.env := by rfl)
    (hf : ((backTo cpos (starEach [i, value] X.env)).all (fun x => !x.1) && (backToKw cpos (keywordEach [] X.env)).all (fun x => x.1.isSome)
    && decide (([i, value] : List Expr).length + ([] : List Keyword).length + (if ([] : List Keyword).isEmpty then 0 else 1) < 30)) = true := by rfl) (hln : (apos.endLine == cpos.line) = true := by rfl)
    (ht : backTo cpos (starEach [i, value] X.env) = [(false, eval i X.env), (false, eval value X.env)] := by rfl)
    (hs : swapsWith (.Call (.Attribute o "setdefault" apos) [i, value] [] cpos) none pos.line X.env = pure false := by rfl) : XSs X (.Expr (.Call (.Attribute o "setdefault" apos) [i, value] [] cpos) pos :: rest) D σ (Upds G [(c, TD W.P W.w c ces)]) := by
  subst hX
  have hM : OkM [(c, TD (wd X).P (wd X).w c ces)] := ⟨by simp, fun q hq => by rw [List.mem_singleton.mp hq]; exact okM_td⟩
  exact xs_stepX (ps_expr (pe_tddef (room1 hr) pe_s pe_s pe_s ⟨hb, hf, hln, ht⟩) hs) fun H1 e1 => ho.s e1 fun u H2 e2 q => by
    cases q
    obtain ⟨G2, rfl, sG2, f2⟩ := renorm hM.1 fr (e1.trans e2)
    refine ⟨c, rfl, ⟨ces, upd_same⟩, (XE.up (hi.mono sG2) hM f2).s (Same.refl _) fun y H3 e3 ⟨G3, hH3, sG3, f3, a, hy, ha⟩ => ?_⟩
    subst hH3
    refine (XE.up (he.mono (sG2.trans sG3)) hM f3).s (Same.refl _) fun z H4 e4 ⟨G4, hH4, sG4, f4, hz⟩ => ?_
    subst hH4
    have s4 := (sG2.trans sG3).trans sG4
    have ci4 := ci.mono s4
    refine ⟨a, x, ces, hy, upd_same, ci4.tks.mono (upds_ge f4), st_mono (sG4.trans (upds_ge f4)) ha, sz_lt (by omega), fun hx v => ?_, fun hx => ?_⟩
    · exact k G4 ces s4 f4 (ci4.old hx)
    · have := k G4 (ces ++ [(x, a, z)]) s4 (fresh1 (f4 (c, TD (wd X).P (wd X).w c ces) (by simp))) (ci4.new hx okx (st_mono sG4 ha) hz)
      have e : upd (Upds G4 [(c, TD (wd X).P (wd X).w c ces)]) c (TD X.prog X.w c (ces ++ [(x, a, z)])) = Upds G4 [(c, TD (wd X).P (wd X).w c (ces ++ [(x, a, z)]))] := by
        show upd (upd G4 c _) c _ = upd G4 c _
        exact upd_upd
      rw [e]
      exact this
end
end LM

set_option maxHeartbeats 4000000
namespace LM
open PySem PySem.Spec PyProof.Rows L2
theorem EditR.ge {S : SD} {k f p k' f' : List It2} (h : EditR S k f p k' f') : k.length ≤ k'.length := by
  induction h with
  | done => exact Nat.le_refl _
  | step _ ih => exact Nat.le_trans addAll_ge.1 ih
theorem Bfs.nodup {next : It2 → List It2} {k p r : List It2} (h : Bfs next k p r) (hk : k.Nodup) : r.Nodup := by
  induction h with
  | done => exact hk
  | step _ ih => exact ih (addAll_nodup hk)
theorem HearR.step' {S : SD} {c k : List It2} {hs : List (It2 × Nat)} {layer : List It2} {n : Nat} {k1 f1 : List It2} {r : List (It2 × Nat)} (hne : layer ≠ []) (h1 : EditR S k [] layer k1 f1) (h2 : HearR S c (addAll k1 [] (heardL S c f1)).1 (hs ++ f1.map fun y => (y, n)) (addAll k1 [] (heardL S c f1)).2 (n + 1) r) : HearR S c k hs layer n r := by
  cases layer with
  | nil => exact absurd rfl hne
  | cons x l => exact .step h1 h2
/-! a known tuple is none of what changes -/
section
variable {K : PySem.W.Frag} {G : Hp} {M : Mp} {a : Addr} {xs : List V}
def isKn : HO → Prop
  | .tup _ => True
  | .frz _ _ => True
  | _ => False
theorem upds_some (hM : OkM M) {o : HO} (h : Upds G M a = some o) (hn : isKn o) : G a = some o := by
  by_cases hb : a ∈ M.map (·.1)
  · obtain ⟨p, hp, e⟩ := List.mem_map.mp hb
    subst e
    have hp' : (p.1, p.2) ∈ M := hp
    rw [upds_in hM.1 hp'] at h
    have k := hM.2 _ hp'
    cases h
    cases hq : p.2 with
    | tup xs => rw [hq] at k; exact k.elim
    | frz ob u => rw [hq] at k; exact k.elim
    | _ => rw [hq] at hn; exact hn.elim
  · rw [upds_out hb] at h
    exact h
theorem st_down (hM : OkM M) (h : SqT K (Upds G M) a xs) : SqT K G a xs := by
  rcases h with (h | ⟨o, h⟩) | h
  · exact .inl (.inl (upds_some hM h trivial))
  · exact .inl (.inr ⟨o, upds_some hM h trivial⟩)
  · exact .inr h
theorem itR_down (hM : OkM M) : ∀ {l : List It2} {vs : List V}, AllR (l.map (ItR K)) vs (Upds G M) → AllR (l.map (ItR K)) vs G
  | [], [], _ => trivial
  | x :: l, v :: vs, h => ⟨let ⟨b, e, q⟩ := h.1; ⟨b, e, st_down hM q⟩, itR_down hM h.2⟩
  | [], _ :: _, h => h.elim
  | _ :: _, [], h => h.elim
theorem tks_down {es : List Ent} (hM : OkM M) (h : TKs K (Upds G M) es) : TKs K G es := fun e he => st_down hM (h e he)
end
abbrev xWI (W : Wd) (f : Addr) (cdv : Value) (A : Around) (outer : List Env) (s : Shared) (H : Hp) (E : XK) : Cx := cx W n_Ways_init "Ways.__init__" s_Ways_init f cdv A outer s H E
section
variable {W : Wd}
theorem okMt {e h : Addr} {es hs : List Ent} (a : e ≠ h) : OkM [(e, TD W.P W.w e es), (h, TD W.P W.w h hs)] := by
  refine ⟨by simp [a], fun q hq => ?_⟩
  rcases List.mem_cons.mp hq with rfl | hq
  · exact okM_td
  · rw [List.mem_singleton.mp hq]; exact okM_td
theorem okM1 {c : Addr} {ces : List Ent} : OkM [(c, TD W.P W.w c ces)] := ⟨by simp, fun q hq => by rw [List.mem_singleton.mp hq]; exact okM_td⟩
theorem freshT {G : Hp} {e h : Addr} {o o' u u' : HO} (f : Fresh [(e, o), (h, o')] G) : Fresh [(e, u), (h, u')] G := fun q hq => by
  rcases List.mem_cons.mp hq with rfl | hq
  · exact f (e, o) (by simp)
  · rw [List.mem_singleton.mp hq]; exact f (h, o') (by simp)
/-- what the loop over layers knows -/
structure HearI (W : Wd) (S : SD) (ok : It2 → Prop) (come : List It2) (B : Hp) (e h : Addr) (b0 : It2) (G : Hp) (es hs : List Ent) (hsN : List (It2 × Nat)) (layer : List It2) (lv : List V) (l : Addr) (n : Nat) : Prop where
  base : Same B G
  fr : Fresh [(e, TD W.P W.w e es), (h, TD W.P W.w h hs)] G
  kes : TKs W.K G es
  khs : TKs W.K G hs
  hl : G l = some (.lst lv)
  hlv : AllR (layer.map (ItR W.K)) lv G
  inv : WInv ok (keysT es) (keysT hs) layer
  vals : valsT hs = encH hsN
  hear : ∀ r, HearR S come (keysT es) hsN layer n r → HearR S come [b0] [] [b0] 0 r
theorem HearI.mono {S : SD} {ok : It2 → Prop} {come : List It2} {B : Hp} {e h : Addr} {b0 : It2} {G G' : Hp} {es hs : List Ent} {hsN : List (It2 × Nat)} {layer : List It2} {lv : List V} {l : Addr} {n : Nat} (i : HearI W S ok come B e h b0 G es hs hsN layer lv l n) (s : Same G G') (f : Fresh [(e, TD W.P W.w e es), (h, TD W.P W.w h hs)] G') : HearI W S ok come B e h b0 G' es hs hsN layer lv l n :=
  ⟨i.base.trans s, f, i.kes.mono s, i.khs.mono s, s _ _ i.hl, allItems s i.hlv, i.inv, i.vals, i.hear⟩
theorem ways_tail (WC : WaysC W) (c1 : Met W 5 (cWays W) "edited" (spEdited W)) (c2 : Met W 5 (cWays W) "heard" (spHeard W)) {f : Addr} {cdv : Value} {A : Around} {outer : List Env} {s : Shared} {H : Hp} {E : XK} (hr : Room 6 (A.deeper (envOfC "Ways.__init__" (defScope s_Ways_init) s.heap.objs.size f cdv)))
    {G G4 : Hp} {y dx st m c : Addr} {mes ces : List Ent} {C : Addr} {S : SD} {SA : Addr → Hp → Prop} {ok : It2 → Prop} {U : List It2} {u2 u3 u4 u5 : Option V} (T : StepsW W C S SA ok U) (g0 : G y = none) (eG4 : Same G G4) (hy : G4 y = some (.ins (cWays W) dx [("steps", .ref st), ("machine", .ref m), ("coming", .ref c)])) (hsa : SA st G)
    (hm : FTdW W G4 m mes) (hmB : Bfs S.mach [S.begin] [S.begin] (keysT mes)) (hmo : ∀ x ∈ keysT mes, ok x) (hc : FTdW W G4 c ces) (hcv : CVals W.K G4 ces) (hco : ∀ x ∈ keysT ces, ok x) (hck : keysT ces = comingOf S (keysT mes)) :
    XSs (xWI W f cdv A outer s H E) ((defBody s_Ways_init).drop 4) (InitD (cWays W) G y dx (fun fs H' => ∃ w, WaysP S w ∧ WaysF W w ok fs H')) [some (.ref y), some (.ref st), u2, u3, u4, u5] G4 := by
  have hU := T.lenU
  obtain ⟨dxs, fss, b, i1, i2, i3, _⟩ := T.obj hsa
  refine xs_fld (R := NewTd (xWI W f cdv A outer s H E) G4) (xe_var 0 rfl) xe_tdnew hy WC.cl (WC.na "hearings" (by simp)) (by show 3 < 1000; decide) fun v H1 s1 r => ?_
  obtain ⟨h, rfl, hh0, hh⟩ := r
  let o4 : HO := .ins (cWays W) dx [("steps", .ref st), ("machine", .ref m), ("coming", .ref c), ("hearings", .ref h)]
  have hhy : h ≠ y := fun q => by subst q; rw [hy] at hh0; cases hh0
  have e1 : Same G (upd H1 y o4) := mutS (eG4.trans s1) g0
  show XSs _ _ _ _ (upd H1 y o4)
  refine xs_fld (R := OneTd (xWI W f cdv A outer s H E) (upd H1 y o4) S.begin b) (xe_var 0 rfl) (xe_tdone hr (xe_fld (v := .ref b) (xe_var 1 rfl) (e1 _ _ i1) T.cl T.nb i2) (st_mono e1 i3) xe_non) upd_same WC.cl (WC.na "elders" (by simp)) (by show 4 < 1000; decide) fun v H2 s2 r => ?_
  obtain ⟨e, u, rfl, he0, he⟩ := r
  let o5 : HO := .ins (cWays W) dx (waysFs st m c h e)
  show XSs _ _ _ _ (upd H2 y o5)
  have hey : e ≠ y := fun q => by subst q; rw [upd_same] at he0; cases he0
  have hh1 : upd H1 y o4 h = some (TD W.P W.w h []) := by rw [upd_ne hhy]; exact hh
  have heh : e ≠ h := fun q => by subst q; rw [hh1] at he0; cases he0
  have sB : Same (upd G4 y o5) (upd H2 y o5) := by
    have z := same_upd (y := y) (o := o5) ((same_upd (y := y) (o := o4) s1).trans s2)
    rwa [upd_upd] at z
  obtain ⟨G5, hG5, sG5, f5⟩ := split_new (H := upd G4 y o5) (H1 := upd H2 y o5) (M := [(e, TD W.P W.w e [(S.begin, b, u)]), (h, TD W.P W.w h [])]) (okMt (W := W) heh).1 (fun q hq => by
    rcases List.mem_cons.mp hq with rfl | hq
    · show upd H2 y o5 e = _
      rw [upd_ne hey]; exact he
    · rw [List.mem_singleton.mp hq]
      show upd H2 y o5 h = _
      rw [upd_ne hhy]; exact s2 _ _ hh1) (fun q hq => by
    rcases List.mem_cons.mp hq with rfl | hq
    · show upd G4 y o5 e = _
      rw [upd_ne hey]
      rw [upd_ne hey] at he0
      exact none_of s1 he0
    · rw [List.mem_singleton.mp hq]
      show upd G4 y o5 h = _
      rw [upd_ne hhy]; exact hh0) sB
  rw [hG5]
  have eG5 : Same G G5 := (mutS (o := o5) eG4 g0).trans sG5
  have hy5 : G5 y = some o5 := sG5 _ _ upd_same
  have hm5 := (ftd_updI (u := o5) hy hm).mono sG5
  have hc5 := (ftd_updI (u := o5) hy hc).mono sG5
  have hcv5 := (cvals_updI (u := o5) hy hcv).mono sG5
  have g5 := eG5.trans (upds_ge f5)
  refine xs_par 4 5 (R1 := NewL (Upds G5 [(e, TD W.P W.w e [(S.begin, b, u)]), (h, TD W.P W.w h [])]) [.ref b]) (R2 := Is (.int 0)) (xa_cons (xe_lstN (xs := [.ref b]) (xa_cons (xe_fld (v := .ref b) (xe_var 1 rfl) (g5 _ _ i1) T.cl T.nb i2) xa_nil) (by simp)) (xa_cons xe_int xa_nil)) (fun v w H6 s6 hv hw => ?_) sc_Ways_init.nd
  cases hw
  obtain ⟨l, rfl, hl0, hl⟩ := hv
  obtain ⟨G6, rfl, sG6, f6⟩ := renorm (okMt (W := W) heh).1 f5 s6
  have hl6 : G6 l = some (.lst [.ref b]) := by
    rw [upds_out (fun hb => by
      obtain ⟨p, hp, q⟩ := List.mem_map.mp hb
      subst q
      rw [upds_in (okMt (W := W) heh).1 (show (p.1, p.2) ∈ _ from hp)] at hl0
      cases hl0)] at hl
    exact hl
  have lenOk : ∀ (es : List Ent) (hk l : List It2), WInv ok (keysT es) hk l → es.length ≤ U.length := fun es hk l w => by
    have h1 := nodup_len w.nk fun x hx => T.okU x (w.okk x hx)
    rwa [keysT_len] at h1
  have eG6 := eG5.trans sG6
  have hy6 := sG6 _ _ hy5
  have hm6 := hm5.mono sG6
  have hc6 := hc5.mono sG6
  have hcv6 := hcv5.mono sG6
  refine xs_while (fun k σ' H' => ∃ (Gq : Hp) (es hs : List Ent) (hsN : List (It2 × Nat)) (layer : List It2) (lv : List V) (l : Addr) (n : Nat), H' = Upds Gq [(e, TD W.P W.w e es), (h, TD W.P W.w h hs)] ∧ HearI W S ok (keysT ces) G6 e h S.begin Gq es hs hsN layer lv l n ∧ σ' = [some (.ref y), some (.ref st), u2, u3, some (.ref l), some (.int n)] ∧ k = 2 * (U.length - es.length) + (if layer = [] then 0 else 1))
    (2 * (U.length - 1) + 1) (fun H1 s1 => ?_) (fun k σ' H' hw => ?_)
  · obtain ⟨G7, rfl, sG7, f7⟩ := renorm (okMt (W := W) heh).1 f6 s1
    have hi : HearI W S ok (keysT ces) G6 e h S.begin G6 [(S.begin, b, u)] [] [] [S.begin] [.ref b] l 0 :=
      ⟨Same.refl _, f6, fun z hz => by rw [List.mem_singleton.mp hz]; exact st_mono eG6 i3, (fun z hz => nomatch hz), hl6, ⟨⟨b, rfl, st_mono eG6 i3⟩, trivial⟩,
        ⟨by simp [keysT], by simp [keysT], by simp, (fun x hx => by rw [List.mem_singleton.mp (show x ∈ [S.begin] from hx)]; exact T.okB), (fun x hx => nomatch hx), (fun x hx => hx), (fun x hx q => nomatch q)⟩, rfl, fun r h => h⟩
    exact ⟨G7, _, _, _, _, _, _, _, rfl, hi.mono sG7 f7, rfl, rfl⟩
  · obtain ⟨Gq, es, hs, hsN, layer, lv, l, n, rfl, hi, rfl, rfl⟩ := hw
    refine ⟨!decide (layer = []), XT.up (xt_some hr (xe_var 4 rfl) hi.hl hi.hlv (fun x hx => T.okI x (hi.inv.okk x (hi.inv.lsub x hx)))) (okMt heh) hi.fr, fun hb H2 s2 => ?_, fun hb H2 s2 => ?_⟩
    · have hne : layer ≠ [] := by simpa using hb
      obtain ⟨G7, rfl, sG7, f7⟩ := renorm (okMt (W := W) heh).1 hi.fr s2
      have hi7 := hi.mono sG7 f7
      have ge7 := upds_ge f7
      have s67 := hi7.base
      let RE : Hp → VP := fun _ v H3 => ∃ (G' : Hp) (es' hs' : List Ent) (q : Addr) (fv : List V) (f1 : List It2), v = .ref q ∧ H3 = Upds G' [(e, TD W.P W.w e es'), (h, TD W.P W.w h hs')] ∧ Same G7 G' ∧ Fresh [(e, TD W.P W.w e es'), (h, TD W.P W.w h hs')] G' ∧ TKs W.K G' es' ∧ TKs W.K G' hs' ∧ AllR (f1.map (ItR W.K)) fv G' ∧ G' q = some (.lst fv) ∧ EditR S (keysT es) [] layer (keysT es') f1 ∧
        valsT hs' = valsT hs ++ f1.map (fun x => (x, .int n)) ∧ WInv ok (keysT es') (keysT hs') [] ∧ (∀ x ∈ f1, x ∈ keysT es')
      let RH : Hp → VP := fun _ v H3 => ∃ (G' : Hp) (es' hs' : List Ent) (hsN' : List (It2 × Nat)) (layer' : List It2) (lv' : List V) (q : Addr), v = .ref q ∧ H3 = Upds G' [(e, TD W.P W.w e es'), (h, TD W.P W.w h hs')] ∧ HearI W S ok (keysT ces) G6 e h S.begin G' es' hs' hsN' layer' lv' q (n + 1) ∧ es.length + layer'.length ≤ es'.length
      have hE : ∀ {e1 e2 o : Expr} {apos pos : Pos}, True := fun {_ _ _ _ _} => trivial
      refine xs_parU 4 5 (R2 := Is (.int ((n + 1 : Nat) : Int))) (RU := RH) (xu_meth1 (RU := RE) c2 hr (xe_var 0 rfl) (ge7 _ _ (s67 _ _ hy6)) rfl (xu_meth2 (R1 := Is (.ref l)) (R2 := Is (.int n)) c1 hr (xe_var 0 rfl) (ge7 _ _ (s67 _ _ hy6)) rfl (xe_var 4 rfl) (xe_var 5 rfl) (fun v w H3 s3 hv hw Q E' kq => ?_) (fun _ _ _ _ _ r => r)) (fun H3 v H4 s3 hv Q E' kq => ?_) (fun _ _ _ _ _ r => r)) (fun H3 v H4 s3 hv => XE.cast (xe_op (x := .int n) (y := .int 1) op_add (xe_var 5 rfl) xe_int rv_I0) (by simp)) (fun H3 v H4 w H5 s3 hv s4 hw => ?_) sc_Ways_init.nd
      · cases hv; cases hw
        obtain ⟨G8, rfl, sG8, f8⟩ := renorm (okMt (W := W) heh).1 f7 s3
        have hi8 := hi7.mono sG8 f8
        refine ⟨y, l, n, G8, e, h, es, hs, C, S, SA, ok, U, st, m, c, dx, layer, lv, rfl, rfl, heh, f8, T, T.mono (eG6.trans hi8.base) hsa, hi8.base _ _ hy6, hi8.hl, hi8.hlv, hi8.kes, hi8.khs, hi8.inv, hne, fun G' es' hs' q fv f1 s' f' k1 k2 av hq ed va inv' sub => kq _ _ ⟨G', es', hs', q, fv, f1, rfl, rfl, sG8.trans s', f', k1, k2, av, hq, ed, va, inv', sub⟩⟩
      · obtain ⟨G', es', hs', q, fv, f1, rfl, rfl, s', f', k1, k2, av, hq, ed, va, inv', sub⟩ := hv
        have s6' := s67.trans s'
        have fh : Fresh [(h, TD W.P W.w h hs')] G' := fresh1 (f' (h, TD W.P W.w h hs') (by simp))
        have gh := upds_ge fh
        have okf : ∀ x ∈ f1, ok x := fun x hx => inv'.okk x (sub x hx)
        refine ⟨y, q, Upds G' [(h, TD W.P W.w h hs')], e, es', ces, C, S, SA, ok, U, st, m, c, h, dx, f1, fv, rfl, rfl, fresh1 ?_, T, T.mono ((eG6.trans s6').trans gh) hsa, (s6'.trans gh) _ _ hy6, gh _ _ hq, allItems gh av, k1.mono gh, hc6.mono (s6'.trans gh), hcv6.mono (s6'.trans gh), inv'.nk, inv'.okk, hco, okf, fun G3 es3 q3 fv3 s3' f3 k3 av3 hq3 key3 => ?_⟩
        · rw [upds_out (by simp [heh])]
          exact f' (e, TD W.P W.w e es') (by simp)
        · have fe3 : Same G3 (Upds G3 [(e, TD W.P W.w e es3)]) := upds_ge f3
          obtain ⟨G9, hG9, sG9, f9⟩ := split_new (H := G') (H1 := Upds G3 [(e, TD W.P W.w e es3)]) (M := [(e, TD W.P W.w e es3), (h, TD W.P W.w h hs')]) (okMt (W := W) heh).1 (fun q hq => by
            rcases List.mem_cons.mp hq with rfl | hq
            · exact upd_same
            · rw [List.mem_singleton.mp hq]
              exact fe3 _ _ (s3' _ _ upd_same)) (fun q hq => by
            rcases List.mem_cons.mp hq with rfl | hq
            · exact f' (e, TD W.P W.w e es') (by simp)
            · rw [List.mem_singleton.mp hq]
              exact f' (h, TD W.P W.w h hs') (by simp)) ((gh.trans s3').trans fe3)
          rw [hG9] at fe3
          have hM9 : OkM [(e, TD W.P W.w e es3), (h, TD W.P W.w h hs')] := okMt heh
          have hq9 : G9 q3 = some (.lst fv3) := by
            have z := fe3 _ _ hq3
            rw [upds_out (fun hb => by
              obtain ⟨p, hp, e9⟩ := List.mem_map.mp hb
              subst e9
              rw [upds_in hM9.1 (show (p.1, p.2) ∈ _ from hp)] at z
              rcases List.mem_cons.mp hp with rfl | hp
              · cases z
              · rw [List.mem_singleton.mp hp] at z; cases z)] at z
            exact z
          have alen := addAll_len (k := keysT es') (p := []) (l := heardL S (keysT ces) f1)
          rw [hG9]
          refine kq _ _ ⟨G9, es3, hs', hsN ++ f1.map (fun x => (x, n)), (addAll (keysT es') [] (heardL S (keysT ces) f1)).2, fv3, q3, rfl, rfl, ⟨s6'.trans sG9, f9, tks_down hM9 (k3.mono fe3), k2.mono sG9, hq9, itR_down hM9 (allItems fe3 av3), ?_, ?_, fun r hr' => hi7.hear r (HearR.step' hne ed (by rw [← key3]; exact hr'))⟩, ?_⟩
          · rw [key3]
            refine addAll_inv inv' fun z hz => ?_
            obtain ⟨x, hx, h3⟩ := List.mem_flatMap.mp hz
            obtain ⟨c', hc', rfl⟩ := List.mem_map.mp h3
            exact T.okJ x c' (okf x hx) (hco c' hc')
          · rw [va, hi7.vals]
            unfold encH
            rw [List.map_append, List.map_map]
            rfl
          · have := ed.ge
            rw [keysT_len, keysT_len] at this
            rw [← key3, keysT_len, keysT_len] at alen
            simp only [List.length_nil] at alen
            omega
      · obtain ⟨G', es', hs', hsN', layer', lv', q, rfl, rfl, hi', hlen⟩ := hv
        cases hw
        obtain ⟨G8, rfl, sG8, f8⟩ := renorm (okMt (W := W) heh).1 hi'.fr s4
        refine xs_nil fun H9 s9 => ?_
        obtain ⟨G9, rfl, sG9, f9⟩ := renorm (okMt (W := W) heh).1 f8 s9
        refine ⟨_, ?_, G9, es', hs', hsN', layer', lv', q, n + 1, rfl, hi'.mono (sG8.trans sG9) f9, rfl, rfl⟩
        rw [if_neg hne]
        have l1 := lenOk es' _ _ hi'.inv
        by_cases hl' : layer' = []
        · rw [if_pos hl']
          omega
        · rw [if_neg hl']
          have : 0 < layer'.length := List.length_pos_iff.mpr hl'
          omega
    · have hnil : layer = [] := by simpa using hb
      subst hnil
      obtain ⟨G7, rfl, sG7, f7⟩ := renorm (okMt (W := W) heh).1 hi.fr s2
      have hi7 := hi.mono sG7 f7
      have fh7 : G7 h = none := f7 (h, TD W.P W.w h hs) (by simp)
      refine xs_lock (d := h) (u := TD W.P W.w h hs) (upds_at (i := 1) (okMt (W := W) heh).1 rfl) trivial fun oc => ?_
      have s78 : Same G7 (upd (Upds G7 [(e, TD W.P W.w e es), (h, TD W.P W.w h hs)]) h (.frz oc (TD W.P W.w h hs))) := mutS (upds_ge f7) fh7
      refine xs_nil fun H9 s9 => ?_
      have s69 := (hi7.base.trans s78).trans s9
      refine ⟨eG6.trans s69, _, s69 _ _ hy6, ⟨keysT mes, keysT ces, hsN⟩, ⟨hmB, hck, hi7.hear hsN .done⟩, st, m, c, h, e, mes, ces, hs, rfl, hm6.mono s69, hc6.mono s69, hcv6.mono s69, FTdW.mono s9 ⟨⟨oc, upd_same⟩, hi7.khs.mono s78⟩, rfl, rfl, hi7.vals, hmo, hco, fun x hx => hi7.inv.okk x (hi7.inv.hsub x hx), hi7.inv.nh, hmB.nodup (by simp)⟩
end
end LM

set_option maxHeartbeats 4000000
namespace LM
open PySem PySem.Spec PyProof.Rows L2
theorem fold_step {S : SD} {x : It2} {l : List Pat} {j : Nat} {p : Pat} {K : List It2} (h : l[j]? = some p) : ((l.take (j + 1)).map (S.led x)).foldl addKey K = addKey (((l.take j).map (S.led x)).foldl addKey K) (S.led x p) := by
  have e : l.take (j + 1) = l.take j ++ [p] := by rw [List.take_succ, h]; rfl
  rw [e, List.map_append, List.foldl_append]
  rfl
theorem ComeI.cast {W : Wd} {ok : It2 → Prop} {G : Hp} {c : Addr} {ces : List Ent} {ks ks' : List It2} (h : ComeI W ok G c ces ks) (e : ks = ks') : ComeI W ok G c ces ks' := by cases e; exact h
theorem foldl_come {S : SD} {l : List It2} {x : It2} : (l ++ [x]).foldl (comeOf S) [] = (lEIGHT.map (S.led x)).foldl addKey (addKey (l.foldl (comeOf S) []) x) := by rw [List.foldl_append]; rfl
section
variable {W : Wd}
def preWays (W : Wd) : List V → Hp → (List (Str × V) → Hp → Prop) → Prop := fun as H F => ∃ st C S SA ok U, as = [.ref st] ∧ StepsW W C S SA ok U ∧ SA st H ∧ F = fun fs H' => ∃ w, WaysP S w ∧ WaysF W w ok fs H'
theorem mak_ways (B : Blt W) (WC : WaysC W) (EC : EightC W) (c0 : Cal W 6 "machine_elders" (Pure (preElders W))) (c1 : Met W 5 (cWays W) "edited" (spEdited W)) (c2 : Met W 5 (cWays W) "heard" (spHeard W)) (A : MakAt W "Ways" (cWays W) "Ways.__init__" s_Ways_init ["self", "steps"]) : Mak W 7 "Ways" (cWays W) (Init (cWays W) (preWays W)) := by
  refine mak_init A sc_Ways_init (fun as H F h => by obtain ⟨_, _, _, _, _, _, rfl, _⟩ := h; rfl) fun f cdv A outer s H G y dx as F E hr g0 sg hy h => ?_
  obtain ⟨st, C, S, SA, ok, U, rfl, T, hsa, rfl⟩ := h
  have hU := T.lenU
  refine xs_fld (R := Is (.ref st)) (xe_var 0 rfl) (xe_var 1 rfl) hy WC.cl (WC.na "steps" (by simp)) (by decide) fun v H1 s1 r => ?_
  cases r
  have e1 := mutS (o := .ins (cWays W) dx (putF "steps" (.ref st) [])) (sg.trans s1) g0
  refine xs_fld (R := EldR W S ok) (xe_var 0 rfl) (xe_call1 c0 hr (xe_var 1 rfl) fun H' s' => ⟨st, C, S, SA, ok, U, rfl, T, T.mono (e1.trans s') hsa, rfl⟩) upd_same WC.cl (WC.na "machine" (by simp)) (by show 1 < 1000; decide) fun v H2 s2 r => ?_
  obtain ⟨m, mes, rfl, hm, hB, okm⟩ := r
  have y1 := s2 _ _ (upd_same (H := H1) (a := y) (o := .ins (cWays W) dx (putF "steps" (.ref st) [])))
  let o2 : HO := .ins (cWays W) dx (putF "machine" (.ref m) (putF "steps" (.ref st) []))
  have e2 := mutS (o := o2) (e1.trans s2) g0
  have hm := ftd_updI (u := o2) y1 hm
  have hX0 : wd (xWI W f cdv A outer s H E) = W := rfl
  refine xs_fld (R := NewTd (xWI W f cdv A outer s H E) (upd H2 y o2)) (xe_var 0 rfl) xe_tdnew upd_same WC.cl (WC.na "coming" (by simp)) (by show 2 < 1000; decide) fun v H3 s3 r => ?_
  obtain ⟨c, rfl, hc0, hc⟩ := r
  let o3 : HO := .ins (cWays W) dx (putF "coming" (.ref c) (putF "machine" (.ref m) (putF "steps" (.ref st) [])))
  have hcy : c ≠ y := fun q => by subst q; rw [upd_same] at hc0; cases hc0
  have eB : Same G (upd (upd H2 y o2) y o3) := mutS e2 g0
  have hmB := ftd_updI (u := o3) (upd_same (H := H2) (a := y) (o := o2)) hm
  have hyB : upd (upd H2 y o2) y o3 y = some o3 := upd_same
  obtain ⟨G3, hG3, sG3, f3⟩ := split_new (H := upd (upd H2 y o2) y o3) (H1 := upd H3 y o3) (M := [(c, TD W.P W.w c [])]) (okM1 (W := W)).1 (fun q hq => by rw [List.mem_singleton.mp hq, upd_ne hcy]; exact hc) (fun q hq => by rw [List.mem_singleton.mp hq, upd_ne hcy]; exact hc0) (same_upd s3)
  show XSs _ _ _ _ (upd H3 y o3)
  rw [hG3]
  have hy3 := sG3 _ _ hyB
  have hm3 := hmB.mono sG3
  have hm3x : FTd (xWI W f cdv A outer s H E) G3 m mes := hm3
  have hsa3 := T.mono (eB.trans sG3) hsa
  have lenC : ∀ (G : Hp) (ces : List Ent) (ks : List It2), ComeI W ok G c ces ks → ces.length ≤ 1000 := fun G ces ks ci => by
    have := nodup_len ci.nd fun x hx => T.okU x (ci.oks x hx)
    rw [keysT_len] at this
    omega
  refine xs_for (M := [(c, TD W.P W.w c [])]) (g := gName 2) (xi_tk (xe_fld (v := .ref m) (xe_var 0 rfl) hy3 WC.cl (WC.na "machine" (by simp)) rfl) hm3x) okM1 f3 (pg_name (i := 2) sc_Ways_init.nd rfl (Or.inl rfl)) gmon_name
    (fun G' i σ' H' => ∃ (G5 : Hp) (ces : List Ent) (u2 u3 u4 u5 : Option V), H' = Upds G5 [(c, TD W.P W.w c ces)] ∧ Same G' G5 ∧ Fresh [(c, TD W.P W.w c ces)] G5 ∧ ComeI W ok G5 c ces (((keysT mes).take i).foldl (comeOf S) []) ∧ σ' = [some (.ref y), some (.ref st), u2, u3, u4, u5])
    (fun G' s' f' => ⟨G', [], _, _, _, _, rfl, Same.refl _, f', ⟨rfl, (fun x hx => (List.not_mem_nil hx).elim), (fun x hx => (List.not_mem_nil hx).elim), (fun x hx => (List.not_mem_nil hx).elim), List.nodup_nil⟩, rfl⟩) (fun G' i σ' H' ⟨G5, ces, _, _, _, _, hH, s5, f5, _⟩ => by rw [hH]; exact s5.trans (upds_ge f5)) (fun G' i z σ' H' H'' s' hi hP hy' => ?_) (fun G' σ' H' s' hP => ?_)
  · obtain ⟨G5, ces, u2, u3, u4, u5, rfl, s5, f5, ci, rfl⟩ := hP
    obtain ⟨rfl, en, hen, rfl⟩ := hy'
    have s35 := s'.trans s5
    have hkey : SqT W.K G5 en.2.1 (itV en.1) := (hm3.mono s35).2 en (List.mem_of_getElem? hen)
    have hme : (keysT mes)[i]? = some en.1 := by unfold keysT; rw [List.getElem?_map, hen]; rfl
    have okx := okm _ (List.mem_of_getElem? hme)
    have et : (keysT mes).take (i + 1) = (keysT mes).take i ++ [en.1] := by rw [List.take_succ, hme]; rfl
    have hy5 := s35 _ _ hy3
    show XSs _ _ _ _ (Upds G5 [(c, TD W.P W.w c ces)])
    have pairR : ∀ {e2 : Expr} {pos : Pos} {kk : Nat} {nm : Str} {p1 : Pos} {σ : L2.St} {Hq : Hp} {v w : V}, XV (xWI W f cdv A outer s H E) (.Name nm p1) σ Hq v → XV (xWI W f cdv A outer s H E) e2 σ Hq w → (starEach [.Name nm p1, e2] (xWI W f cdv A outer s H E).env = (false, eval (.Name nm p1) (xWI W f cdv A outer s H E).env) :: starEach [e2] (xWI W f cdv A outer s H E).env) → (starEach [e2] (xWI W f cdv A outer s H E).env = (false, eval e2 (xWI W f cdv A outer s H E).env) :: starEach [] (xWI W f cdv A outer s H E).env) → XE (xWI W f cdv A outer s H E) (.Tuple [.Name nm p1, e2] kk pos) σ Hq (fun v H => ∃ T s p, v = .ref T ∧ SqT W.K H T [s, p]) := fun {e2 pos kk nm p1 σ Hq v w} h1 h2 q1 q2 =>
      (XE.tupV (xs := [v, w]) (xe_tup (Rs := [Is v, Is w]) (xa_cons h1 (xa_cons h2 xa_nil q2) q1) (by simp))).imp fun u H2 _ ⟨T, t1, t2⟩ => ⟨T, v, w, t1, SqT.of t2⟩
    refine xs_come (X := (xWI W f cdv A outer s H E)) (W := W) (x := en.1) hX0 hr ci f5 (lenC _ _ _ ci) okx (xe_fld (v := .ref c) (xe_var 0 rfl) (upds_ge f5 _ _ hy5) WC.cl (WC.na "coming" (by simp)) rfl) ((xe_var 2 rfl).is fun H2 e2 => ⟨_, rfl, st_mono e2 hkey⟩) (pairR (xe_var 2 rfl) xe_non rfl rfl) fun G6 ces6 s6 f6 ci6 => ?_
    have hy6 := s6 _ _ hy5
    have hkey6 := st_mono s6 hkey
    refine xs_for (M := [(c, TD W.P W.w c ces6)]) (g := gName 3) (xi_eight EC) okM1 f6 (pg_name (i := 3) sc_Ways_init.nd rfl (Or.inl rfl)) gmon_name
      (fun G7 j σ' H' => ∃ (G8 : Hp) (ces : List Ent) (u3 u4 u5 : Option V), H' = Upds G8 [(c, TD W.P W.w c ces)] ∧ Same G7 G8 ∧ Fresh [(c, TD W.P W.w c ces)] G8 ∧ ComeI W ok G8 c ces (((lEIGHT.take j).map (S.led en.1)).foldl addKey (addKey (((keysT mes).take i).foldl (comeOf S) []) en.1)) ∧ σ' = [some (.ref y), some (.ref st), some (.ref en.2.1), u3, u4, u5])
      (fun G7 s7 f7 => ⟨G7, ces6, _, _, _, rfl, Same.refl _, f7, ci6.mono s7, rfl⟩) (fun G7 j σ' H' ⟨G8, ces, _, _, _, hH, s8, f8, _⟩ => by rw [hH]; exact s8.trans (upds_ge f8)) (fun G7 j z σ' H' H'' s7 hj hP hy' => ?_) (fun G7 σ' H' s7 hP => ?_)
    · obtain ⟨G8, ces8, u3, u4, u5, rfl, s8, f8, ci8, rfl⟩ := hP
      obtain ⟨rfl, R, hR, hz⟩ := hy'
      rw [List.getElem?_map] at hR
      cases hpj : lEIGHT[j]? with
      | none => rw [hpj] at hR; cases hR
      | some pt =>
        rw [hpj] at hR
        cases hR
        obtain ⟨pa, rfl, hpa⟩ := hz
        have s68 := s7.trans s8
        have hy8 := s68 _ _ hy6
        have ej : (lEIGHT.take (j + 1)) = lEIGHT.take j ++ [pt] := by rw [List.take_succ, hpj]; rfl
        show XSs _ _ _ _ (Upds G8 [(c, TD W.P W.w c ces8)])
        refine xs_come (X := (xWI W f cdv A outer s H E)) (W := W) (x := S.led en.1 pt) hX0 hr ci8 f8 (lenC _ _ _ ci8) (T.okL _ _ okx) (xe_fld (v := .ref c) (xe_var 0 rfl) (upds_ge f8 _ _ hy8) WC.cl (WC.na "coming" (by simp)) rfl) (xe_stepLed (X := (xWI W f cdv A outer s H E)) T hr (xe_var 1 rfl) (T.mono ((s35.trans s6).trans s68) hsa3) (xe_var 2 rfl) (st_mono s68 hkey6) okx (xe_var 3 rfl) (st_mono s8 hpa)) (pairR (xe_var 2 rfl) (xe_var 3 rfl) rfl rfl) fun G9 ces9 s9 f9 ci9 => ?_
        refine xs_nil fun H10 s10 => ?_
        obtain ⟨G10, rfl, sG10, f10⟩ := renorm (okM1 (W := W)).1 f9 s10
        refine ⟨G10, ces9, _, _, _, rfl, (s8.trans s9).trans sG10, f10, ?_, rfl⟩
        exact (ci9.mono sG10).cast (fold_step hpj).symm
    · obtain ⟨G8, ces8, u3, u4, u5, rfl, s8, f8, ci8, rfl⟩ := hP
      refine xs_nil fun H10 s10 => ?_
      obtain ⟨G10, rfl, sG10, f10⟩ := renorm (okM1 (W := W)).1 f8 s10
      refine ⟨G10, ces8, _, _, _, _, rfl, (((s5.trans s6).trans s7).trans s8).trans sG10, f10, ?_, rfl⟩
      have e8 : lEIGHT.take lEIGHT.length = lEIGHT := List.take_length
      refine (ci8.mono sG10).cast ?_
      have ea : ((lEIGHT.take lEIGHT.length).map (S.led en.1)).foldl addKey (addKey (((keysT mes).take i).foldl (comeOf S) []) en.1) = ((keysT mes).take i ++ [en.1]).foldl (comeOf S) [] := by
        rw [foldl_come]
        exact congrArg (fun l => (List.map (S.led en.1) l).foldl addKey (addKey (((keysT mes).take i).foldl (comeOf S) []) en.1)) e8
      exact ea.trans (congrArg (List.foldl (comeOf S) []) et.symm)
  · obtain ⟨G5, ces, u2, u3, u4, u5, rfl, s5, f5, ci, rfl⟩ := hP
    have e1' : (keysT mes).take mes.length = keysT mes := by rw [← keysT_len]; exact List.take_length
    rw [e1'] at ci
    have hci : keysT ces = comingOf S (keysT mes) := ci.keys
    refine xs_lock (d := c) (u := TD W.P W.w c ces) upd_same trivial fun oc => ?_
    have eL : upd (Upds G5 [(c, TD W.P W.w c ces)]) c (.frz oc (TD W.P W.w c ces)) = upd G5 c (.frz oc (TD W.P W.w c ces)) := upd_upd
    rw [eL]
    have f5c : G5 c = none := f5 (c, TD W.P W.w c ces) (by simp)
    have s54 : Same G5 (upd G5 c (.frz oc (TD W.P W.w c ces))) := newS f5c
    have s34 := (s'.trans s5).trans s54
    have hy4 := s34 _ _ hy3
    have hm4 := hm3.mono s34
    have hc4 : FTdW W (upd G5 c (.frz oc (TD W.P W.w c ces))) c ces := ⟨⟨oc, upd_same⟩, ci.tks.mono s54⟩
    have hv4 := ci.vals.mono s54
    have eG4 := (eB.trans sG3).trans s34
    exact ways_tail (W := W) WC c1 c2 hr T g0 eG4 hy4 hsa hm4 hB okm hc4 hv4 ci.oks hci
end
end LM

set_option maxHeartbeats 400000
namespace LM
open PySem PySem.Spec PyProof.Rows L2
/-! ### a list's change leaves tuples -/
section
variable {K : PySem.W.Frag} {H : Hp} {l a : Addr} {ys xs : List V} {u : HO} {x : It2} {v : V}
theorem st_updL (hy : H l = some (.lst ys)) (h : SqT K H a xs) : SqT K (upd H l u) a xs := by
  rcases h with (h | ⟨o, h⟩) | h
  · refine .inl (.inl ?_)
    rw [upd_ne (fun q => by rw [q, hy] at h; cases h)]; exact h
  · refine .inl (.inr ⟨o, ?_⟩)
    rw [upd_ne (fun q => by rw [q, hy] at h; cases h)]; exact h
  · exact .inr h
theorem itR_updL (hy : H l = some (.lst ys)) (h : ItR K x v H) : ItR K x v (upd H l u) := let ⟨b, e, q⟩ := h; ⟨b, e, st_updL hy q⟩
theorem stepR_updL (hy : H l = some (.lst ys)) (h : StepR K x v H) : StepR K x v (upd H l u) := let ⟨T, d, y, e, q, r⟩ := h; ⟨T, d, y, e, st_updL hy q, itR_updL hy r⟩
theorem steps_updL (hy : H l = some (.lst ys)) : ∀ {xs : List It2} {vs : List V}, AllR (xs.map (StepR K)) vs H → AllR (xs.map (StepR K)) vs (upd H l u)
  | [], [], _ => trivial
  | x :: l, v :: vs, h => ⟨stepR_updL hy h.1, steps_updL hy h.2⟩
  | [], _ :: _, h => h.elim
  | _ :: _, [], h => h.elim
end
/-- a new list, told by relations -/
def NewLR (H : Hp) (Rs : List VP) : VP := fun v H' => ∃ p xs, v = .ref p ∧ H p = none ∧ H' p = some (.lst xs) ∧ AllR Rs xs H'
theorem xe_lstNR {X : Cx} {es : List Expr} {σ : St} {H : Hp} {Rs : List VP} {pos : Pos} (h : XA X es σ H Rs) (hl : Rs.length ≤ 1000000) : XE X (.List es pos) σ H (NewLR H Rs) :=
  XE.of (pe_lst pa_s) fun H1 e1 Q k => h.s e1 fun vs H2 e2 r => ⟨by rw [r.length]; exact sz_of hl, fun p hp => k _ _ (e2.trans (newS hp)) ⟨p, vs, rfl, none_of (e1.trans e2) hp, upd_same, AllR.mono h.mon (newS hp) r⟩⟩
theorem monStep {K : PySem.W.Frag} (l : List It2) : MonL (l.map (StepR K)) := monL_map (fun _ => inferInstance) l
abbrev cSingle (W : Wd) : Addr := He.ga W.K "Single"
structure SingleC (W : Wd) : Prop where
  cl : Cls W.K (cSingle W)
  na : ∀ f ∈ (["tool", "begin"] : List Str), NoAttr W.K (cSingle W) f
def singleFs (a b : Addr) : List (Str × V) := [("tool", .ref a), ("begin", .ref b)]
def SAs (W : Wd) (t : LT) (st : Addr) (H : Hp) : Prop := ∃ dx a b, H st = some (.ins (cSingle W) dx (singleFs a b)) ∧ ToolA W t a H ∧ SqT W.K H b [.str t.blank, .bl false]
theorem SAs.mono {W : Wd} {t : LT} {st : Addr} {H H' : Hp} (e : Same H H') : SAs W t st H → SAs W t st H'
  | ⟨dx, a, b, h1, h2, h3⟩ => ⟨dx, a, b, e _ _ h1, h2.mono e, st_mono e h3⟩
section
variable {W : Wd}
def preSingle (W : Wd) : List V → Hp → (List (Str × V) → Hp → Prop) → Prop := fun as H F => ∃ t a, as = [.ref a] ∧ ToolA W t a H ∧ F = fun fs H' => ∃ b, fs = singleFs a b ∧ SqT W.K H' b [.str t.blank, .bl false]
theorem mak_single (TC : ToolC W) (SC : SingleC W) (A : MakAt W "Single" (cSingle W) "Single.__init__" s_Single_init ["self", "tool"]) : Mak W 1 "Single" (cSingle W) (Init (cSingle W) (preSingle W)) := by
  refine mak_init A sc_Single_init (fun as H F h => by obtain ⟨_, _, rfl, _⟩ := h; rfl) fun f cdv A outer s H G y dx as F E hr g0 sg hy h => ?_
  obtain ⟨t, a, rfl, ht, rfl⟩ := h
  refine xs_fld (R := Is (.ref a)) (xe_var 0 rfl) (xe_var 1 rfl) hy SC.cl (SC.na "tool" (by simp)) (by decide) fun v H1 s1 r => ?_
  cases r
  have e1 := mutS (o := .ins (cSingle W) dx (putF "tool" (.ref a) [])) (sg.trans s1) g0
  refine xs_fld (R := TupV [.str t.blank, .bl false]) (xe_var 0 rfl) (XE.tupV (xs := [.str t.blank, .bl false]) (xe_tup (Rs := [Is (.str t.blank), Is (.bl false)]) (xa_cons (xe_blank TC (xe_var 1 rfl) (ht.mono e1)) (xa_cons xe_bl xa_nil)) (by simp))) upd_same SC.cl (SC.na "begin" (by simp)) (by show 1 < 1000; decide) fun v H2 s2 r => ?_
  obtain ⟨b, rfl, hb⟩ := r
  have y2 := s2 _ _ (upd_same (H := H1) (a := y) (o := .ins (cSingle W) dx (putF "tool" (.ref a) [])))
  refine xs_nil fun H3 s3 => ⟨(mutS (e1.trans s2) g0).trans s3, _, s3 _ _ upd_same, b, rfl, st_mono s3 (st_updI y2 (SqT.of hb))⟩
theorem atI0 {a b : V} : atI [a, b] 0 = some a := rfl
theorem atI1 {a b : V} : atI [a, b] 1 = some b := rfl
section
variable (t : LT) (hok : t.ok)
def tkS (W : Wd) (t : LT) : Prop := True
theorem met_single_led (TC : ToolC W) (SC : SingleC W) (cl : Met W 3 (cTool W) "led" (Pure (preLed W))) (ck : Met W 1 (cTool W) "keeps" (Pure (preKeeps W))) (A : MethAt W (cSingle W) "led" "Single.led" s_Single_led ["self", "item", "pattern"]) (t : LT) (hok : t.ok) (hp3 : t.parts.length ≤ 1000) : Met W 4 (cSingle W) "led" (Pure (preLedS W.K (singleS t) (SAs W t) (okS t))) := by
  refine met_pure A sc_Single_led (fun vs H R h => by obtain ⟨_, _, _, _, _, rfl, _⟩ := h; rfl) fun f cdv A outer s H vs R E hr h => ?_
  obtain ⟨st, it, q, x, p, rfl, hs, hit, ⟨m, b, rfl, hm⟩, hq, rfl⟩ := h
  obtain ⟨dx, a, bb, h1, ht, h3⟩ := hs
  have hit : SqT W.K H it [.str m, .bl b] := hit
  refine xs_ret (R := TupV [.str (t.led m p), .bl (b && t.keeps p)]) (XE.tupV (xs := [.str (t.led m p), .bl (b && t.keeps p)]) (xe_tup (Rs := [Is (.str (t.led m p)), Is (.bl (b && t.keeps p))]) (xa_cons (xe_tool2 cl hr (xe_fld (v := .ref a) (xe_var 0 rfl) h1 SC.cl (SC.na "tool" (by simp)) rfl) ht (xe_ixT (xe_var 1 rfl) xe_int hit atI0) (xe_var 2 rfl) fun H1 s1 ht1 => ⟨t, a, m, q, p, rfl, ht1, hm, st_mono s1 hq, hok.rows, rfl⟩)
    (xa_cons (xe_and (p := b) (q := t.keeps p) (xe_ixT (xe_var 1 rfl) xe_int hit atI1) fun _ => xe_and1 (xe_tool1 ck hr (xe_fld (v := .ref a) (xe_var 0 rfl) h1 SC.cl (SC.na "tool" (by simp)) rfl) ht (xe_var 2 rfl) fun H1 s1 ht1 => ⟨t, a, q, p, rfl, ht1, hok.parts, hp3, st_mono s1 hq, rfl⟩)) xa_nil)) (by simp))) fun v H1 s1 r => ⟨s1, ?_⟩
  obtain ⟨T, rfl, hT⟩ := r
  exact ⟨T, rfl, SqT.of hT⟩
theorem met_single_joined (TC : ToolC W) (SC : SingleC W) (cj : Met W 3 (cTool W) "joined" (Pure (preJoined W))) (A : MethAt W (cSingle W) "joined" "Single.joined" s_Single_joined ["self", "here", "came"]) (t : LT) : Met W 4 (cSingle W) "joined" (Pure (preJoinS W.K (singleS t) (SAs W t) (okS t))) := by
  refine met_pure A sc_Single_joined (fun vs H R h => by obtain ⟨_, _, _, _, _, rfl, _⟩ := h; rfl) fun f cdv A outer s H vs R E hr h => ?_
  obtain ⟨st, it, jt, x, z, rfl, hs, hit, ⟨m, b, rfl, hm⟩, hjt, ⟨n, d, rfl, hn⟩, rfl⟩ := h
  obtain ⟨dx, a, bb, h1, ht, h3⟩ := hs
  have hit : SqT W.K H it [.str m, .bl b] := hit
  have hjt : SqT W.K H jt [.str n, .bl d] := hjt
  refine xs_ret (R := TupV [.str (t.joined m n), .bl (b || d)]) (XE.tupV (xs := [.str (t.joined m n), .bl (b || d)]) (xe_tup (Rs := [Is (.str (t.joined m n)), Is (.bl (b || d))]) (xa_cons (xe_tool2 cj hr (xe_fld (v := .ref a) (xe_var 0 rfl) h1 SC.cl (SC.na "tool" (by simp)) rfl) ht (xe_ixT (xe_var 1 rfl) xe_int hit atI0) (xe_ixT (xe_var 2 rfl) xe_int hjt atI0) fun H1 s1 ht1 => ⟨t, a, m, n, rfl, ht1, hm, hn, rfl⟩)
    (xa_cons (xe_or (p := b) (q := d) (xe_ixT (xe_var 1 rfl) xe_int hit atI1) fun _ => xe_and1 (xe_ixT (xe_var 2 rfl) xe_int hjt atI1)) xa_nil)) (by simp))) fun v H1 s1 r => ⟨s1, ?_⟩
  obtain ⟨T, rfl, hT⟩ := r
  exact ⟨T, rfl, SqT.of hT⟩
theorem steps_single (SC : SingleC W) (t : LT) (hok : t.ok) (hm : t.marks.length ≤ 20) (m1 : Met W 5 (cSingle W) "machine_steps" (Pure (preMachS W.K (singleS t) (SAs W t) (okS t)))) (m2 : Met W 4 (cSingle W) "led" (Pure (preLedS W.K (singleS t) (SAs W t) (okS t)))) (m3 : Met W 4 (cSingle W) "joined" (Pure (preJoinS W.K (singleS t) (SAs W t) (okS t)))) :
    StepsW W (cSingle W) (singleS t) (SAs W t) (okS t) (univS t) where
  mono := fun e h => h.mono e
  obj := fun ⟨dx, a, b, h1, h2, h3⟩ => ⟨dx, singleFs a b, b, h1, rfl, h3, rfl, rfl, rfl⟩
  cl := SC.cl
  nb := SC.na "begin" (by simp)
  mach := m1
  led := m2
  joined := m3
  okB := ⟨t.blank, false, rfl, t.blank_mem hok⟩
  okM := fun x ⟨m, b, e, hm⟩ y hy => by
    subst e
    rcases List.mem_cons.mp hy with q | q
    · exact ⟨_, _, q, t.ran_mem hok hm⟩
    · obtain ⟨p, _, rfl⟩ := List.mem_map.mp q
      exact ⟨_, _, rfl, t.led_mem hok⟩
  okL := fun x p _ => ⟨_, _, rfl, t.led_mem hok⟩
  okJ := fun x y ⟨m, b, e, hm⟩ ⟨n, d, e', hn⟩ => by
    subst e e'
    exact ⟨_, _, rfl, t.joined_mem hok hm hn⟩
  few := fun x => by show (_ :: _).length ≤ 100; rw [List.length_cons, List.length_map]; decide
  okU := fun x h => okS_univ h
  lenU := univS_len hm
  okI := fun x h => okS_it hok h
end
end
end LM

set_option maxHeartbeats 400000
namespace LM
open PySem PySem.Spec PyProof.Rows L2
section
variable {W : Wd}
theorem allR1 {R1 : VP} : ∀ {ws : List V} {H : Hp}, AllR [R1] ws H → ∃ a, ws = [a] ∧ R1 a H
  | [a], _, h => ⟨a, rfl, h.1⟩
  | [], _, h => h.elim
  | _ :: _ :: _, _, h => h.2.elim
theorem allR2 {R1 R2 : VP} : ∀ {ws : List V} {H : Hp}, AllR [R1, R2] ws H → ∃ a b, ws = [a, b] ∧ R1 a H ∧ R2 b H
  | [a, b], _, h => ⟨a, b, rfl, h.1, h.2.1⟩
  | [], _, h => h.elim
  | [_], _, h => h.2.elim
  | _ :: _ :: _ :: _, _, h => h.2.2.elim
theorem stepR_of {K : PySem.W.Frag} {y : It2} {v : V} {H : Hp} (h : TupR [AnyRef, ItR K y] v H) : StepR K y v H := by
  obtain ⟨T, ws, e, hT, hw⟩ := h
  obtain ⟨d, u, rfl, _, h2⟩ := allR2 hw
  exact ⟨T, d, u, e, SqT.of hT, h2⟩
theorem anyRef_of {Rs : List VP} {v : V} {H : Hp} (h : TupR Rs v H) : AnyRef v H := let ⟨p, _, e, _⟩ := h; ⟨p, e⟩
/-! pairs (deed, item) -/
section
variable {X : Cx} {e2 eq : Expr} {σ : St} {H : Hp} {y : It2} {z : Str} {q : Addr}
theorem xe_deed1 {jz : _} {p1 p2 p3 : Pos} {k1 k2 : Nat} (h2 : XE X e2 σ H (ItR X.K y)) (hs : starEach [.Tuple [.Constant (.str z) jz p1] k1 p2, e2] X.env = (false, eval (.Tuple [.Constant (.str z) jz p1] k1 p2) X.env) :: starEach [e2] X.env := by rfl) (hs2 : starEach [e2] X.env = (false, eval e2 X.env) :: starEach [] X.env := by rfl) : XE X (.Tuple [.Tuple [.Constant (.str z) jz p1] k1 p2, e2] k2 p3) σ H (StepR X.K y) :=
  XE.imp (xe_tup (Rs := [AnyRef, ItR X.K y]) (xa_cons (XE.imp (xe_tup (Rs := [Is (.str z)]) (xa_cons xe_str xa_nil (by rfl)) (by simp)) fun _ _ _ h => anyRef_of h) (xa_cons h2 xa_nil hs2) hs) (by simp)) fun _ _ _ h => stepR_of h
theorem xe_deed2 {jz : _} {p1 p2 p3 : Pos} {k1 k2 : Nat} (h1 : XV X eq σ H (.ref q)) (h2 : XE X e2 σ H (ItR X.K y)) (hq : starEach [.Constant (.str z) jz p1, eq] X.env = (false, eval (.Constant (.str z) jz p1) X.env) :: starEach [eq] X.env := by rfl) (hq2 : starEach [eq] X.env = (false, eval eq X.env) :: starEach [] X.env := by rfl)
    (hs : starEach [.Tuple [.Constant (.str z) jz p1, eq] k1 p2, e2] X.env = (false, eval (.Tuple [.Constant (.str z) jz p1, eq] k1 p2) X.env) :: starEach [e2] X.env := by rfl) (hs2 : starEach [e2] X.env = (false, eval e2 X.env) :: starEach [] X.env := by rfl) : XE X (.Tuple [.Tuple [.Constant (.str z) jz p1, eq] k1 p2, e2] k2 p3) σ H (StepR X.K y) :=
  XE.imp (xe_tup (Rs := [AnyRef, ItR X.K y]) (xa_cons (XE.imp (xe_tup (Rs := [Is (.str z), Is (.ref q)]) (xa_cons xe_str (xa_cons h1 xa_nil hq2) hq) (by simp)) fun _ _ _ h => anyRef_of h) (xa_cons h2 xa_nil hs2) hs) (by simp)) fun _ _ _ h => stepR_of h
theorem xl_lcM {α : Type} {src : List α} {rel ff : α → VP} {elt iter : Expr} {scope : Scope} {own : List (Str × Nat)} {pos tpos : Pos} {tn : Str} {Y : YY} {j : Nat} (hi : XI X (.Name tn tpos) iter σ H src.length Y) (hY : ∀ G2 i H' x H'', i < src.length → Y G2 i H' x H'' → H'' = H' ∧ ∃ a, src[i]? = some a ∧ rel a x G2) (hmr : ∀ a, Mon (rel a)) (hm : ∀ a, Mon (ff a)) (hn : src.length ≤ 500000) (hN : X.N.Nodup) (ok : BlkOk X.N X.env.scope scope own)
    (hg : ∀ s0 H0 C cl fp, PG (bk X scope s0 H0 C cl fp) (.Name tn tpos) (gName j))
    (ht : ∀ a x G', a ∈ src → Same H G' → rel a x G' → XEB X scope elt ((wipe σ (own.map (·.2))).set j (some x)) G' (ff a))
    (hw : ∀ x, wipe ((wipe σ (own.map (·.2))).set j (some x)) (own.map (·.2)) = wipe σ (own.map (·.2)) := by intro _; rfl) (hc : X.calm = true := by rfl) (hs : ∀ x, foldedSetIterable iter X.env x = pure x := by intro _; rfl) :
    XL X (.ListComp elt [⟨.Name tn tpos, iter, [], 0⟩] scope pos) σ H (LstR (src.map ff)) := by
  have h := xl_lcS (pos := pos) (ifs := []) (pp := fun _ => true) (elt := elt) hi hY hmr hm hn hN ok hg (fun a x G' ha e hr => ⟨rfl, fun _ => ht a x G' ha e hr⟩) hw hc hs
  rwa [filter_true] at h
theorem itR_tupV {K : PySem.W.Frag} {v : V} {m : Str} {b : Bool} (h : TupV [.str m, .bl b] v H) : ItR K (m, .inl b) v H := let ⟨T, e, hT⟩ := h; ⟨T, e, SqT.of hT⟩
end
theorem met_single_steps (EC : EightC W) (SC : SingleC W) (cr : Met W 3 (cTool W) "ran" (Pure (preRan W))) (t : LT) (cl : Met W 4 (cSingle W) "led" (Pure (preLedS W.K (singleS t) (SAs W t) (okS t)))) (A : MethAt W (cSingle W) "machine_steps" "Single.machine_steps" s_Single_machine_steps ["self", "item"]) : Met W 5 (cSingle W) "machine_steps" (Pure (preMachS W.K (singleS t) (SAs W t) (okS t))) := by
  refine met_pure A sc_Single_machine_steps (fun vs H R h => by obtain ⟨_, _, _, rfl, _⟩ := h; rfl) fun f cdv A outer s H vs R E hr h => ?_
  obtain ⟨st, it, x, rfl, hs, hit, hx, rfl⟩ := h
  obtain ⟨m, b, rfl, hm⟩ := id hx
  obtain ⟨dx, a, bb, h1, ht, h3⟩ := id hs
  have hit2 : SqT W.K H it [.str m, .bl b] := hit
  refine xs_set 2 (R := NewLR H [StepR W.K (t.ran m, .inl true)]) (xe_lstNR (xa_cons (R := StepR W.K (t.ran m, .inl true)) (xe_deed1 (XE.imp (xe_tup (Rs := [Is (.str (t.ran m)), Is (.bl true)]) (xa_cons (xe_tool1 cr hr (xe_fld (v := .ref a) (xe_var 0 rfl) h1 SC.cl (SC.na "tool" (by simp)) rfl) ht (xe_ixT (xe_var 1 rfl) xe_int hit2 atI0) fun H1 s1 ht1 => ⟨t, a, m, rfl, ht1, hm, rfl⟩) (xa_cons xe_bl xa_nil)) (by simp)) fun v H2 _ r => itR_tupV (tupR_is (xs := [.str (t.ran m), .bl true]) r))) xa_nil) (by simp)) (fun v H1 s1 r => ?_) sc_Single_machine_steps.nd
  obtain ⟨l, ys, rfl, hl0, hl, hys⟩ := r
  have hs1 := hs.mono s1
  have lny : ys.length = 1 := hys.length
  have comp : ∀ (p : Pat) (q : Addr) (G' : Hp), Same H1 G' → SqT W.K G' q (patV p) → ∃ dx2 a2 b2, G' st = some (.ins (cSingle W) dx2 (singleFs a2 b2)) := fun p q G' e1 _ => let ⟨dx2, a2, b2, j1, _⟩ := hs1.mono e1; ⟨dx2, a2, b2, j1⟩
  refine xs_extend (Rs := lEIGHT.map fun p => StepR W.K ((singleS t).led (m, .inl b) p)) (xe_var 2 rfl) ?_ hl (by rw [lny, List.length_map]; decide) (fun xs H2 s2 hxs => ?_)
  · refine (xl_lcM (own := [("pattern", 3)]) (j := 3) (src := lEIGHT) (rel := PatR W.K) (ff := fun p => StepR W.K ((singleS t).led (m, .inl b) p)) (xi_eight EC) (fun _ _ _ _ _ _ => ys_R _ _ _ _ _) (fun _ => inferInstance) (fun _ => inferInstance) (by decide) sc_Single_machine_steps.nd (blkOk_by (N := n_Single_machine_steps) (sc := defScope s_Single_machine_steps) (by decide +kernel))
      (fun _ _ _ _ _ => pg_name (i := 3) sc_Single_machine_steps.nd rfl (Or.inl rfl)) (fun p x G' hp e1 hx' s0 H0 C cl' fp => ?_)).val
    obtain ⟨q, rfl, hq⟩ := hx'
    obtain ⟨dx2, a2, bb2, j1, _⟩ := id (hs1.mono e1)
    exact xe_deed2 (xe_var 3 rfl) (xe_meth2 cl hr (xe_var 0 rfl) j1 rfl (xe_var 1 rfl) (xe_var 3 rfl) fun H3 s3 => ⟨st, it, q, (m, .inl b), p, rfl, (hs1.mono e1).mono s3, st_mono ((s1.trans e1).trans s3) hit, hx, st_mono s3 hq, rfl⟩)
  · have hl2 := s2 _ _ hl
    refine xs_ret (R := LstR (((singleS t).mach (m, .inl b)).map (StepR W.K))) ((xe_var 2 rfl).is fun H3 e3 => ⟨l, ys ++ xs, rfl, e3 _ _ upd_same, ?_⟩) fun v H3 s3 r => ⟨(mutS (s1.trans s2) hl0).trans s3, r⟩
    have k1 : AllR ([(t.ran m, .inl true)].map (StepR W.K)) ys H2 := AllR.mono (monStep (K := W.K) [(t.ran m, .inl true)]) s2 hys
    have k2 : AllR (((singleS t).mach (m, .inl b)).map (StepR W.K)) (ys ++ xs) H2 := by
      show AllR (StepR W.K (t.ran m, .inl true) :: (lEIGHT.map fun p => _).map (StepR W.K)) _ _
      rw [List.map_map]
      exact k1.append hxs
    exact AllR.mono (monStep (K := W.K) _) e3 (steps_updL hl2 k2)
end
end LM

set_option maxHeartbeats 400000
namespace LM
open PySem PySem.Spec PyProof.Rows L2
abbrev cPair (W : Wd) : Addr := He.ga W.K "Pair"
structure PairC (W : Wd) : Prop where
  cl : Cls W.K (cPair W)
  na : ∀ f ∈ (["tools", "begin"] : List Str), NoAttr W.K (cPair W) f
def pairFs (T b : Addr) : List (Str × V) := [("tools", .ref T), ("begin", .ref b)]
def SAp (W : Wd) (p q : LT) (st : Addr) (H : Hp) : Prop := ∃ dx T a1 a2 b, H st = some (.ins (cPair W) dx (pairFs T b)) ∧ SqT W.K H T [.ref a1, .ref a2] ∧ ToolA W p a1 H ∧ ToolA W q a2 H ∧ SqT W.K H b [.str p.blank, .str p.blank]
theorem SAp.mono {W : Wd} {p q : LT} {st : Addr} {H H' : Hp} (e : Same H H') : SAp W p q st H → SAp W p q st H'
  | ⟨dx, T, a1, a2, b, h1, h2, h3, h4, h5⟩ => ⟨dx, T, a1, a2, b, e _ _ h1, st_mono e h2, h3.mono e, h4.mono e, st_mono e h5⟩
theorem LT.like.refl (p : LT) : p.like p := ⟨rfl, rfl, rfl, rfl, fun _ => rfl, fun _ _ => rfl, fun _ _ => rfl⟩
theorem pair_two {W : Wd} {p q : LT} (L : p.like q) (op : p.ok) (oq : q.ok) {a1 a2 : Addr} {H : Hp} (h1 : ToolA W p a1 H) (h2 : ToolA W q a2 H) {i : Nat} {u : V} (hu : [V.ref a1, .ref a2][i]? = some u) : ∃ t a, u = .ref a ∧ ToolA W t a H ∧ t.like p ∧ t.ok := by
  match i, hu with
  | 0, hu => exact ⟨p, a1, (Option.some.inj hu).symm, h1, .refl p, op⟩
  | 1, hu => exact ⟨q, a2, (Option.some.inj hu).symm, h2, L.symm, oq⟩
theorem same_two {z u : V} {i : Nat} (hu : [z, z][i]? = some u) : u = z := by
  match i, hu with
  | 0, hu => exact (Option.some.inj hu).symm
  | 1, hu => exact (Option.some.inj hu).symm
theorem itR_of2 {K : PySem.W.Frag} {m n : Str} {v : V} {H : Hp} (h : TupR [Is (.str m), Is (.str n)] v H) : ItR K (m, .inr n) v H := by
  obtain ⟨T, e, hT⟩ := tupR_is (xs := [.str m, .str n]) h
  exact ⟨T, e, SqT.of hT⟩
theorem monL2 {u v : V} : MonL [Is u, Is v] := .cons inferInstance (.cons inferInstance .nil)
section
variable {W : Wd}
def prePair (W : Wd) : List V → Hp → (List (Str × V) → Hp → Prop) → Prop := fun as H F => ∃ p q a1 a2, as = [.ref a1, .ref a2] ∧ ToolA W p a1 H ∧ ToolA W q a2 H ∧ p.blank = q.blank ∧ F = fun fs H' => ∃ T b, fs = pairFs T b ∧ SqT W.K H' T [.ref a1, .ref a2] ∧ SqT W.K H' b [.str p.blank, .str p.blank]
theorem mak_pair (TC : ToolC W) (PC : PairC W) (A : MakAt W "Pair" (cPair W) "Pair.__init__" s_Pair_init ["self", "p", "q"]) : Mak W 1 "Pair" (cPair W) (Init (cPair W) (prePair W)) := by
  refine mak_init A sc_Pair_init (fun as H F h => by obtain ⟨_, _, _, _, rfl, _⟩ := h; rfl) fun f cdv A outer s H G y dx as F E hr g0 sg hy h => ?_
  obtain ⟨p, q, a1, a2, rfl, h1, h2, hb, rfl⟩ := h
  refine xs_fld (R := TupV [.ref a1, .ref a2]) (xe_var 0 rfl) (XE.tupV (xs := [.ref a1, .ref a2]) (xe_tup (Rs := [Is (.ref a1), Is (.ref a2)]) (xa_cons (xe_var 1 rfl) (xa_cons (xe_var 2 rfl) xa_nil)) (by simp))) hy PC.cl (PC.na "tools" (by simp)) (by decide) fun v H1 s1 r => ?_
  obtain ⟨T, rfl, hT⟩ := r
  have y1 := s1 _ _ hy
  have e1 := mutS (o := .ins (cPair W) dx (putF "tools" (.ref T) [])) (sg.trans s1) g0
  refine xs_fld (R := TupV [.str p.blank, .str q.blank]) (xe_var 0 rfl) (XE.tupV (xs := [.str p.blank, .str q.blank]) (xe_tup (Rs := [Is (.str p.blank), Is (.str q.blank)]) (xa_cons (xe_blank TC (xe_var 1 rfl) (h1.mono e1)) (xa_cons (xe_blank TC (xe_var 2 rfl) (h2.mono e1)) xa_nil)) (by simp))) upd_same PC.cl (PC.na "begin" (by simp)) (by show 1 < 1000; decide) fun v H2 s2 r => ?_
  obtain ⟨b, rfl, hb2⟩ := r
  have y2 := s2 _ _ (upd_same (H := H1) (a := y) (o := .ins (cPair W) dx (putF "tools" (.ref T) [])))
  have hT2 := st_mono s2 (st_updI (u := .ins (cPair W) dx (putF "tools" (.ref T) [])) y1 (SqT.of (K := W.K) hT))
  refine xs_nil fun H3 s3 => ⟨(mutS (e1.trans s2) g0).trans s3, _, s3 _ _ upd_same, T, b, rfl, st_mono s3 (st_updI y2 hT2), st_mono s3 (st_updI y2 ?_)⟩
  rw [← hb] at hb2
  exact SqT.of hb2
theorem met_pair_led (B : Blt W) (PC : PairC W) (cl : Met W 3 (cTool W) "led" (Pure (preLed W))) (A : MethAt W (cPair W) "led" "Pair.led" s_Pair_led ["self", "item", "pattern"]) {p q : LT} (L : p.like q) (op : p.ok) (oq : q.ok) : Met W 4 (cPair W) "led" (Pure (preLedS W.K (pairS p) (SAp W p q) (okP p))) := by
  refine met_pure A sc_Pair_led (fun vs H R h => by obtain ⟨_, _, _, _, _, rfl, _⟩ := h; rfl) fun f cdv A outer s H vs R E hr h => ?_
  obtain ⟨st, it, qa, x, sp, rfl, hs, hit, ⟨m, rfl, hm⟩, hq, rfl⟩ := h
  obtain ⟨dx, T, a1, a2, b, h1, hT, t1, t2, h5⟩ := hs
  have hit : SqT W.K H it [.str m, .str m] := hit
  refine xs_ret (xe_tupleR (Rs := keptN 2 (fun _ => true) fun _ => Is (.str (p.led m sp))) (monL_keptN fun _ => inferInstance) B.tuple (xl_lcZ2 (own := [("tool", 3), ("mark", 4)]) (ja := 3) (jb := 4) (ff := fun _ => Is (.str (p.led m sp))) (fun _ => inferInstance) (xi_zip2 (n := 2) B.zip (xe_fld (v := .ref T) (xe_var 0 rfl) h1 PC.cl (PC.na "tools" (by simp)) rfl) (xe_var 1 rfl) hT hit rfl rfl) (by decide) sc_Pair_led.nd (blkOk_by (N := n_Pair_led) (sc := defScope s_Pair_led) (by decide +kernel))
    (fun _ _ _ _ _ => pg_2 rfl sc_Pair_led.nd rfl rfl (Or.inl rfl) (Or.inl rfl) (.inr rfl) (.inr rfl)) (fun i u v G' hi e1 hu hv s0 H0 C cl' fp => ?_)).val) fun v H1 s1 r => ⟨s1, itR_of2 r⟩
  obtain ⟨t, a, rfl, hta, hl, ok⟩ := pair_two L op oq (t1.mono e1) (t2.mono e1) hu
  cases same_two hv
  refine XE.cast (xe_tool2 cl hr (xe_var 3 rfl) hta (xe_var 4 rfl) (xe_var 2 rfl) fun H3 s3 ht3 => ⟨t, a, m, qa, sp, rfl, ht3, by rw [hl.marks]; exact hm, st_mono (e1.trans s3) hq, ok.rows, rfl⟩) ?_
  rw [hl.led]
theorem met_pair_joined (B : Blt W) (PC : PairC W) (cj : Met W 3 (cTool W) "joined" (Pure (preJoined W))) (A : MethAt W (cPair W) "joined" "Pair.joined" s_Pair_joined ["self", "here", "came"]) {p q : LT} (L : p.like q) (op : p.ok) (oq : q.ok) : Met W 4 (cPair W) "joined" (Pure (preJoinS W.K (pairS p) (SAp W p q) (okP p))) := by
  refine met_pure A sc_Pair_joined (fun vs H R h => by obtain ⟨_, _, _, _, _, rfl, _⟩ := h; rfl) fun f cdv A outer s H vs R E hr h => ?_
  obtain ⟨st, it, jt, x, z, rfl, hs, hit, ⟨m, rfl, hm⟩, hjt, ⟨n, rfl, hn⟩, rfl⟩ := h
  obtain ⟨dx, T, a1, a2, b, h1, hT, t1, t2, h5⟩ := hs
  have hit : SqT W.K H it [.str m, .str m] := hit
  have hjt : SqT W.K H jt [.str n, .str n] := hjt
  refine xs_ret (xe_tupleR (Rs := keptN 2 (fun _ => true) fun _ => Is (.str (p.joined m n))) (monL_keptN fun _ => inferInstance) B.tuple (xl_lcZ3 (own := [("tool", 3), ("one", 4), ("two", 5)]) (ja := 3) (jb := 4) (jc := 5) (ff := fun _ => Is (.str (p.joined m n))) (fun _ => inferInstance) (xi_zip3 (n := 2) B.zip (xe_fld (v := .ref T) (xe_var 0 rfl) h1 PC.cl (PC.na "tools" (by simp)) rfl) (xe_var 1 rfl) (xe_var 2 rfl) hT hit hjt rfl rfl rfl) (by decide) sc_Pair_joined.nd (blkOk_by (N := n_Pair_joined) (sc := defScope s_Pair_joined) (by decide +kernel))
    (fun _ _ _ _ _ => pg_tup rfl (pgs_cons (pg_name (i := 3) sc_Pair_joined.nd rfl (Or.inl rfl)) (pgs_cons (pg_name (i := 4) sc_Pair_joined.nd rfl (Or.inl rfl)) (pgs_cons (pg_name (i := 5) sc_Pair_joined.nd rfl (Or.inl rfl)) pgs_nil)))) (fun i u v w G' hi e1 hu hv hw s0 H0 C cl' fp => ?_)).val) fun v H1 s1 r => ⟨s1, itR_of2 r⟩
  obtain ⟨t, a, rfl, hta, hl, ok⟩ := pair_two L op oq (t1.mono e1) (t2.mono e1) hu
  cases same_two hv
  cases same_two hw
  refine XE.cast (xe_tool2 cj hr (xe_var 3 rfl) hta (xe_var 4 rfl) (xe_var 5 rfl) fun H3 s3 ht3 => ⟨t, a, m, n, rfl, ht3, by rw [hl.marks]; exact hm, by rw [hl.marks]; exact hn, rfl⟩) ?_
  rw [hl.joined]
theorem met_pair_steps (B : Blt W) (TC : ToolC W) (EC : EightC W) (PC : PairC W) (cr : Met W 3 (cTool W) "ran" (Pure (preRan W))) {p q : LT} (L : p.like q) (op : p.ok) (oq : q.ok) (cl : Met W 4 (cPair W) "led" (Pure (preLedS W.K (pairS p) (SAp W p q) (okP p)))) (A : MethAt W (cPair W) "machine_steps" "Pair.machine_steps" s_Pair_machine_steps ["self", "item"]) : Met W 5 (cPair W) "machine_steps" (Pure (preMachS W.K (pairS p) (SAp W p q) (okP p))) := by
  refine met_pure A sc_Pair_machine_steps (fun vs H R h => by obtain ⟨_, _, _, rfl, _⟩ := h; rfl) fun f cdv A outer s H vs R E hr h => ?_
  obtain ⟨st, it, x, rfl, hs, hit, hx, rfl⟩ := h
  obtain ⟨m, rfl, hm⟩ := id hx
  obtain ⟨dx, T, a1, a2, b, h1, hT, t1, t2, h5⟩ := id hs
  have hit2 : SqT W.K H it [.str m, .str m] := hit
  refine xs_set 2 (R := NewLR H [StepR W.K (p.ran m, .inr (p.ran m))]) (xe_lstNR (xa_cons (R := StepR W.K (p.ran m, .inr (p.ran m))) (xe_deed1 (XE.imp (xe_tupleR (Rs := keptN 2 (fun _ => true) fun _ => Is (.str (p.ran m))) (monL_keptN fun _ => inferInstance) B.tuple (xl_lcZ2 (own := [("tool", 4), ("mark", 5)]) (ja := 4) (jb := 5) (ff := fun _ => Is (.str (p.ran m))) (fun _ => inferInstance) (xi_zip2 (n := 2) B.zip (xe_fld (v := .ref T) (xe_var 0 rfl) h1 PC.cl (PC.na "tools" (by simp)) rfl) (xe_var 1 rfl) hT hit2 rfl rfl) (by decide) sc_Pair_machine_steps.nd (blkOk_by (N := n_Pair_machine_steps) (sc := defScope s_Pair_machine_steps) (by decide +kernel))
    (fun _ _ _ _ _ => pg_2 rfl sc_Pair_machine_steps.nd rfl rfl (Or.inl rfl) (Or.inl rfl) (.inr rfl) (.inr rfl)) (fun i u v G' hi e1 hu hv s0 H0 C cl' fp => ?_)).val) fun _ _ _ r => itR_of2 r)) xa_nil) (by simp)) (fun v H1 s1 r => ?_) sc_Pair_machine_steps.nd
  · obtain ⟨t, a, rfl, hta, hl, ok⟩ := pair_two L op oq (t1.mono e1) (t2.mono e1) hu
    cases same_two hv
    refine XE.cast (xe_tool1 cr hr (xe_var 4 rfl) hta (xe_var 5 rfl) fun H3 s3 ht3 => ⟨t, a, m, rfl, ht3, by rw [hl.marks]; exact hm, rfl⟩) ?_
    rw [hl.ran]
  obtain ⟨l, ys, rfl, hl0, hl, hys⟩ := r
  have hs1 := hs.mono s1
  have lny : ys.length = 1 := hys.length
  refine xs_extend (Rs := lEIGHT.map fun s => StepR W.K ((pairS p).led (m, .inr m) s)) (xe_var 2 rfl) ?_ hl (by rw [lny, List.length_map]; decide) (fun xs H2 s2 hxs => ?_)
  · refine (xl_lcM (own := [("pattern", 6)]) (j := 6) (src := lEIGHT) (rel := PatR W.K) (ff := fun s => StepR W.K ((pairS p).led (m, .inr m) s)) (xi_eight EC) (fun _ _ _ _ _ _ => ys_R _ _ _ _ _) (fun _ => inferInstance) (fun _ => inferInstance) (by decide) sc_Pair_machine_steps.nd (blkOk_by (N := n_Pair_machine_steps) (sc := defScope s_Pair_machine_steps) (by decide +kernel))
      (fun _ _ _ _ _ => pg_name (i := 6) sc_Pair_machine_steps.nd rfl (Or.inl rfl)) (fun sp x G' hp e1 hx' s0 H0 C cl' fp => ?_)).val
    obtain ⟨qa, rfl, hq⟩ := hx'
    obtain ⟨dx2, T2, b1, b2, bb2, j1, _⟩ := id (hs1.mono e1)
    exact xe_deed2 (xe_var 6 rfl) (xe_meth2 cl hr (xe_var 0 rfl) j1 rfl (xe_var 1 rfl) (xe_var 6 rfl) fun H3 s3 => ⟨st, it, qa, (m, .inr m), sp, rfl, (hs1.mono e1).mono s3, st_mono ((s1.trans e1).trans s3) hit, hx, st_mono s3 hq, rfl⟩)
  · have hl2 := s2 _ _ hl
    have k1 : AllR ([(p.ran m, .inr (p.ran m))].map (StepR W.K)) ys H2 := AllR.mono (monStep (K := W.K) [(p.ran m, .inr (p.ran m))]) s2 hys
    have k2 : AllR (((p.ran m, .inr (p.ran m)) :: lEIGHT.map fun s => (pairS p).led (m, .inr m) s).map (StepR W.K)) (ys ++ xs) H2 := by
      rw [List.map_cons, List.map_map]
      exact k1.append hxs
    have k3 := steps_updL (u := .lst (ys ++ xs)) hl2 k2
    have s03 : Same H (upd H2 l (.lst (ys ++ xs))) := mutS (s1.trans s2) hl0
    have mw : ∀ G', Same (upd H2 l (.lst (ys ++ xs))) G' → G' l = some (.lst (ys ++ xs)) := fun G' e => e _ _ upd_same
    refine XL.set (i := 3) (R := LstR (keptN 2 (fun _ => true) fun _ => Is (.str (if p.clears then p.blank else m)))) (xl_lcZ2 (own := [("tool", 4), ("mark", 5)]) (ja := 4) (jb := 5) (ff := fun _ => Is (.str (if p.clears then p.blank else m))) (fun _ => inferInstance) (xi_zip2 (n := 2) B.zip (xe_fld (v := .ref T) (xe_var 0 rfl) (s03 _ _ h1) PC.cl (PC.na "tools" (by simp)) rfl) (xe_var 1 rfl) (st_mono s03 hT) (st_mono s03 hit2) rfl rfl) (by decide) sc_Pair_machine_steps.nd (blkOk_by (N := n_Pair_machine_steps) (sc := defScope s_Pair_machine_steps) (by decide +kernel))
      (fun _ _ _ _ _ => pg_2 rfl sc_Pair_machine_steps.nd rfl rfl (Or.inl rfl) (Or.inl rfl) (.inr rfl) (.inr rfl)) (fun i u v G' hi e1 hu hv s0 H0 C cl' fp => ?_)) rfl rfl (by rfl) fun v H3 s3 hv => ?_
    · obtain ⟨t, a, rfl, hta, hl, ok⟩ := pair_two L op oq (t1.mono (s03.trans e1)) (t2.mono (s03.trans e1)) hu
      cases same_two hv
      refine xe_if (p := t.clears) (xt_val (xe_clears TC (xe_var 4 rfl) hta)) (fun hb => ?_) fun hb => ?_
      · rw [if_pos (by rw [← hl.clears]; exact hb), ← hl.blank]
        exact xe_blank TC (xe_var 4 rfl) hta
      · rw [if_neg (by rw [← hl.clears, hb]; exact Bool.false_ne_true)]
        exact xe_var 5 rfl
    · obtain ⟨ka, kv, rfl, hka, hkv⟩ := hv
      refine xs_ret (R := LstR (((pairS p).mach (m, .inr m)).map (StepR W.K))) (XE.imp (xe_lst (Rs := (((p.ran m, .inr (p.ran m)) :: lEIGHT.map fun s => (pairS p).led (m, .inr m) s).map (StepR W.K)) ++ [StepR W.K (if p.clears then p.blank else m, .inr (if p.clears then p.blank else m))]) (xa_star (monStep _) ((xe_var 2 rfl).is fun H4 e4 => ⟨l, ys ++ xs, rfl, .inr (SqL.of (e4 _ _ (s3 _ _ upd_same))), AllR.mono (monStep (K := W.K) _) (s3.trans e4) k3⟩) (xa_cons (xe_deed1 (XE.imp (xe_tupleR (Rs := keptN 2 (fun _ => true) fun _ => Is (.str (if p.clears then p.blank else m))) (monL_keptN fun _ => inferInstance) B.tuple ((xe_var 3 rfl).is fun H4 e4 => ⟨ka, kv, rfl, e4 _ _ hka, AllR.mono (monL_keptN fun _ => inferInstance) e4 hkv⟩)) fun _ _ _ r => itR_of2 r)) xa_nil)) (by simp; decide)) fun v H4 _ r => ?_) fun v H4 s4 r => ⟨(s03.trans s3).trans s4, r⟩
      have e : ((pairS p).mach (m, .inr m)).map (StepR W.K) = (((p.ran m, .inr (p.ran m)) :: lEIGHT.map fun s => (pairS p).led (m, .inr m) s).map (StepR W.K)) ++ [StepR W.K (if p.clears then p.blank else m, .inr (if p.clears then p.blank else m))] := by
        unfold pairS
        simp only [List.map_append, List.map_cons, List.map_nil, List.cons_append]
      rw [e]
      exact r
theorem steps_pair (PC : PairC W) {p q : LT} (op : p.ok) (hm : p.marks.length ≤ 20) (m1 : Met W 5 (cPair W) "machine_steps" (Pure (preMachS W.K (pairS p) (SAp W p q) (okP p)))) (m2 : Met W 4 (cPair W) "led" (Pure (preLedS W.K (pairS p) (SAp W p q) (okP p)))) (m3 : Met W 4 (cPair W) "joined" (Pure (preJoinS W.K (pairS p) (SAp W p q) (okP p)))) :
    StepsW W (cPair W) (pairS p) (SAp W p q) (okP p) (univP p) where
  mono := fun e h => h.mono e
  obj := fun ⟨dx, T, a1, a2, b, h1, h2, h3, h4, h5⟩ => ⟨dx, pairFs T b, b, h1, rfl, h5, rfl, rfl, rfl⟩
  cl := PC.cl
  nb := PC.na "begin" (by simp)
  mach := m1
  led := m2
  joined := m3
  okB := ⟨p.blank, rfl, p.blank_mem op⟩
  okM := fun x ⟨m, e, hm⟩ y hy => by
    subst e
    rcases List.mem_append.mp hy with hy | hy
    · rcases List.mem_cons.mp hy with q | q
      · exact ⟨_, q, p.ran_mem op hm⟩
      · obtain ⟨s, _, rfl⟩ := List.mem_map.mp q
        exact ⟨_, rfl, p.led_mem op⟩
    · rw [List.mem_singleton.mp hy]
      refine ⟨_, rfl, ?_⟩
      split
      · exact p.blank_mem op
      · exact hm
  okL := fun x s _ => ⟨_, rfl, p.led_mem op⟩
  okJ := fun x y ⟨m, e, hm⟩ ⟨n, e', hn⟩ => by
    subst e e'
    exact ⟨_, rfl, p.joined_mem op hm hn⟩
  few := fun x => by simp [pairS, lEIGHT]
  okU := fun x h => okP_univ h
  lenU := by unfold univP; rw [List.length_map]; omega
  okI := fun x h => okP_it op h
end
end LM

set_option maxHeartbeats 400000
namespace LM
open PySem PySem.Spec PyProof.Rows L2
/-! ### loops that change nothing but names -/
section
variable {X : Cx} {tg iter : Expr} {body rest : List Stmt} {g : TG} {D : Ends} {σ : St} {G : Hp} {n : Nat} {Y : YY} {pos : Pos}
theorem xs_scan (Bind : Nat → St → St → Hp → Prop) (hi : XI X tg iter σ G n Y) (hg : PG X tg g) (gm : GMon g) (S : Nat → St → Hp → Prop) (hS : S 0 σ G) (mS : ∀ i σ' H' H'', Same H' H'' → S i σ' H' → S i σ' H'')
    (hY : ∀ G2 i x σ' H' H'' (P : St → Hp → Prop), Same G G2 → Same G2 H' → i < n → Y G2 i H' x H'' → (∀ σ2 H2, Same H' H2 → Bind i σ' σ2 H2 → P σ2 H2) → g x σ' H'' P)
    (ht : ∀ i σ' σ2 H', i < n → Same G H' → S i σ' H' → Bind i σ' σ2 H' → XSs X body { D with nx := fun σ3 H3 => Same H' H3 ∧ S (i + 1) σ3 H3, ct := fun σ3 H3 => Same H' H3 ∧ S (i + 1) σ3 H3, bk := fun σ' H' => XSs X rest D σ' H' } σ2 H')
    (hd : ∀ σ' H', S n σ' H' → Same G H' → XSs X rest D σ' H')
    (hp : PassesOwn (model X.prog X.w) X.A X.env X.xe := by exact PassesOwn.never) (hc : X.calm = true := by rfl) (hf : ∀ x, foldedSetIterable iter X.env x = pure x := by intro _; rfl) : XSs X (.For tg iter body [] pos :: rest) D σ G := by
  refine xs_for (M := []) hi okM_nil fresh_nil hg gm (fun G2 i σ' H' => Same G2 H' ∧ S i σ' H') (fun G2 s2 _ => ⟨Same.refl _, mS 0 σ G G2 s2 hS⟩) (fun G2 i σ' H' p => p.1) (fun G2 i x σ' H' H'' s2 hi' p y => ?_) (fun G2 σ' H' s2 p => hd σ' H' p.2 (s2.trans p.1)) hp hc hf
  exact hY G2 i x σ' H' H'' _ s2 p.1 hi' y fun σ2 H2 s3 b => (ht i σ' σ2 H2 hi' ((s2.trans p.1).trans s3) (mS _ _ _ _ s3 p.2) b).ends (fun σ3 H3 q => ⟨(p.1.trans s3).trans q.1, q.2⟩) (fun _ _ z => z) (fun _ _ z => z) (fun σ3 H3 q => ⟨(p.1.trans s3).trans q.1, q.2⟩)
end
section
variable {K : PySem.W.Frag} {G : Hp}
/-- what is bound -/
def BPat (K : PySem.W.Frag) (j : Nat) : Nat → St → St → Hp → Prop := fun i σ' σ2 H2 => ∃ pt q, lEIGHT[i]? = some pt ∧ SqT K H2 q (patV pt) ∧ σ2 = σ'.set j (some (.ref q))
def BKey (es : List Ent) (j : Nat) : Nat → St → St → Hp → Prop := fun i σ' σ2 _ => ∃ en, es[i]? = some en ∧ σ2 = σ'.set j (some (.ref en.2.1))
def BItem (es : List Ent) (ja jb : Nat) : Nat → St → St → Hp → Prop := fun i σ' σ2 _ => ∃ en, es[i]? = some en ∧ σ2 = (σ'.set ja (some (.ref en.2.1))).set jb (some en.2.2)
def BCome (es : List Ent) (ja jb jc : Nat) : Nat → St → St → Hp → Prop := fun i σ' σ2 _ => ∃ en s p, es[i]? = some en ∧ σ2 = ((σ'.set ja (some (.ref en.2.1))).set jb (some s)).set jc (some p)
theorem bind_pat {j : Nat} : ∀ G2 i x σ' H' H'' (P : St → Hp → Prop), Same G G2 → Same G2 H' → i < lEIGHT.length → YR (lEIGHT.map (PatR K)) G2 i H' x H'' → (∀ σ2 H2, Same H' H2 → BPat K j i σ' σ2 H2 → P σ2 H2) → gName j x σ' H'' P := fun G2 i x σ' H' H'' P s1 s2 hi y k => by
  obtain ⟨rfl, R, hR, hz⟩ := y
  rw [List.getElem?_map] at hR
  cases hpj : lEIGHT[i]? with
  | none => rw [hpj] at hR; cases hR
  | some pt =>
    rw [hpj] at hR
    cases hR
    obtain ⟨q, rfl, hq⟩ := hz
    exact k _ _ (Same.refl _) ⟨pt, q, hpj, st_mono s2 hq, rfl⟩
theorem bind_key {es : List Ent} {j : Nat} : ∀ G2 i x σ' H' H'' (P : St → Hp → Prop), Same G G2 → Same G2 H' → i < es.length → YTk es G2 i H' x H'' → (∀ σ2 H2, Same H' H2 → BKey es j i σ' σ2 H2 → P σ2 H2) → gName j x σ' H'' P := fun G2 i x σ' H' H'' P s1 s2 hi y k => by
  obtain ⟨rfl, en, he, rfl⟩ := y
  exact k _ _ (Same.refl _) ⟨en, he, rfl⟩
theorem bind_item {es : List Ent} {ja jb : Nat} : ∀ G2 i x σ' H' H'' (P : St → Hp → Prop), Same G G2 → Same G2 H' → i < es.length → YTi es G2 i H' x H'' → (∀ σ2 H2, Same H' H2 → BItem es ja jb i σ' σ2 H2 → P σ2 H2) → g2 K ja jb x σ' H'' P := fun G2 i x σ' H' H'' P s1 s2 hi y k => by
  obtain ⟨T, en, he, rfl, hT, rfl⟩ := y
  exact g2_ok (SqT.of upd_same) (k _ _ (newS hT) ⟨en, he, rfl⟩)
theorem bind_come {es : List Ent} {ja jb jc : Nat} (hv : CVals K G es) : ∀ G2 i x σ' H' H'' (P : St → Hp → Prop), Same G G2 → Same G2 H' → i < es.length → YTi es G2 i H' x H'' → (∀ σ2 H2, Same H' H2 → BCome es ja jb jc i σ' σ2 H2 → P σ2 H2) → g3 K ja jb jc x σ' H'' P := fun G2 i x σ' H' H'' P s1 s2 hi y k => by
  obtain ⟨T, en, he, rfl, hT, rfl⟩ := y
  obtain ⟨Tv, s, p, ev, hTv⟩ := hv en (List.mem_of_getElem? he)
  refine g3_ok (T := Tv) (s := s) (p := p) (u := .ref en.2.1) (by rw [← ev]; exact SqT.of upd_same) (st_mono ((s1.trans s2).trans (newS hT)) hTv) (k _ _ (newS hT) ⟨en, s, p, he, rfl⟩)
end
/-! ### what Ways gives, once and for all -/
open Classical in
noncomputable def theWays (S : SD) : WaysD := if h : ∃ w, WaysP S w then h.choose else ⟨[], [], []⟩
theorem WaysP.the {S : SD} {w : WaysD} (h : WaysP S w) : w = theWays S := by
  have hx : ∃ w, WaysP S w := ⟨w, h⟩
  unfold theWays
  rw [dif_pos hx]
  exact h.det hx.choose_spec
/-! ### what is searched -/
def fallK (t : LT) (w : WaysD) (x : It2) : Option Str :=
  if decide (x.1 ∈ t.told) = false then none
  else if lEIGHT.any (fun p => t.keeps p && !decide (t.led x.1 p ∈ t.told)) then some "edit"
  else if w.coming.any (fun c => !decide (t.joined x.1 c.1 ∈ t.told)) then some "hear" else none
def FallR (K : PySem.W.Frag) : Option Str → VP
  | none => Is .non
  | some z => fun v H => ∃ T xs, v = .ref T ∧ SqT K H T (.str z :: xs)
instance (K : PySem.W.Frag) (k : Option Str) : Mon (FallR K k) := by
  cases k with
  | none => exact inferInstanceAs (Mon (Is .non))
  | some z => exact ⟨fun v H H' e ⟨T, xs, h1, h2⟩ => ⟨T, xs, h1, st_mono e h2⟩⟩
def disK (t : LT) (w : WaysD) (x : It2) : Bool := w.coming.any fun a => w.coming.any fun b => !decide (t.joined (t.joined x.1 a.1) b.1 = t.joined (t.joined x.1 b.1) a.1)
def dblK (t : LT) (w : WaysD) (x : It2) : Bool := w.coming.any fun a => !decide (t.joined (t.joined x.1 a.1) a.1 = t.joined x.1 a.1)
def FoundR (b : Bool) : VP := if b then AnyRef else Is .non
instance (b : Bool) : Mon (FoundR b) := by
  cases b with
  | true => exact inferInstanceAs (Mon AnyRef)
  | false => exact inferInstanceAs (Mon (Is .non))
theorem any_of {α : Type} {l : List α} {f : α → Bool} {a : α} {i : Nat} (h : l[i]? = some a) (hf : f a = true) : l.any f = true := List.any_eq_true.mpr ⟨a, List.mem_of_getElem? h, hf⟩
theorem none_take {α : Type} {l : List α} {f : α → Bool} {a : α} {i : Nat} (h : l[i]? = some a) (hn : (l.take i).any f = false) (hf : f a = false) : (l.take (i + 1)).any f = false := by
  rw [List.take_succ, h, List.any_append, hn]
  simp [hf]
theorem none_all {α : Type} {l : List α} {f : α → Bool} (h : (l.take l.length).any f = false) : l.any f = false := by rwa [List.take_length] at h
/-- a tool, its ways, an item -/
def preMeet (W : Wd) (R : LT → WaysD → It2 → VP) : List V → Hp → VP → Prop := fun vs H R' => ∃ (t : LT) (w : WaysD) (a wy it : Addr) (x : It2), vs = [.ref a, .ref wy, .ref it] ∧ t.ok ∧ ToolA W t a H ∧ (∃ dx fs, H wy = some (.ins (cWays W) dx fs) ∧ WaysF W w (okS t) fs H) ∧ SqT W.K H it (itV x) ∧ okS t x ∧ R' = R t w x
theorem it_fst {X : Cx} {e : Expr} {σ : St} {H : Hp} {a : Addr} {x : It2} {pos p2 : Pos} {j : _} (h1 : XV X e σ H (.ref a)) (hq : SqT X.K H a (itV x)) : XV X (.Subscript e (.Constant (.int 0) j p2) pos) σ H (.str x.1) := xe_ixT h1 xe_int hq rfl
section
variable {W : Wd}
theorem cal_falls (EC : EightC W) (WC : WaysC W) (c1 : Met W 1 (cTool W) "is_told" (Pure (preTold W))) (c2 : Met W 1 (cTool W) "keeps" (Pure (preKeeps W))) (c3 : Met W 3 (cTool W) "led" (Pure (preLed W))) (c4 : Met W 3 (cTool W) "joined" (Pure (preJoined W))) (A : DefAt W "falls" s_falls ["tool", "ways", "item"]) : Cal W 4 "falls" (Pure (preMeet W fun t w x => FallR W.K (fallK t w x))) := by
  refine cal_pure A sc_falls (fun vs H R h => by obtain ⟨_, _, _, _, _, _, rfl, _⟩ := h; rfl) fun f cdv A outer s H vs R E hr h => ?_
  obtain ⟨t, w, a, wy, it, x, rfl, hok, ht, ⟨dw, fs, hw, hwf⟩, hit, hx, rfl⟩ := h
  obtain ⟨st, m, c, hh, el, mes, ces, hes, rfl, hm, hc, hcv, hhe, hkm, hkc, hkh, om, oc, oh, nh, nm⟩ := hwf
  have hx1 : x.1 ∈ t.marks := by obtain ⟨m, b, rfl, h⟩ := hx; exact h
  have hp3 : t.parts.length ≤ 1000 := Nat.le_trans (nodup_len hok.partsNd hok.parts) (by decide)
  refine xs_if (b := !decide (x.1 ∈ t.told)) (xt_not (xt_val (xe_tool1 c1 hr (xe_var 0 rfl) ht (it_fst (xe_var 2 rfl) hit) fun H1 s1 ht1 => ⟨t, a, x.1, rfl, ht1, rfl⟩))) (fun hb => ?_) fun hb => ?_
  · refine xs_ret xe_non fun v H1 s1 r => ⟨s1, ?_⟩
    have e : fallK t w x = none := by unfold fallK; rw [if_pos (by simpa using hb)]
    show FallR W.K (fallK t w x) v _
    rw [e]
    exact r
  · have hb' : decide (x.1 ∈ t.told) = true := by simpa using hb
    refine xs_nil fun H0 s0 => ?_
    refine xs_scan (BPat W.K 3) (g := gName 3) (xi_eight EC) (pg_name (i := 3) sc_falls.nd rfl (Or.inl rfl)) gmon_name
      (fun i σ' H' => Same H0 H' ∧ (lEIGHT.take i).any (fun p => t.keeps p && !decide (t.led x.1 p ∈ t.told)) = false ∧ ∃ u3 u4 u5, σ' = [some (.ref a), some (.ref wy), some (.ref it), u3, u4, u5]) ⟨Same.refl _, rfl, _, _, _, rfl⟩ (fun i σ' H' H'' e p => ⟨p.1.trans e, p.2⟩) bind_pat (fun i σ' σ2 H' hi sG hS hB => ?_) fun σ' H' hS sG => ?_
    · obtain ⟨sH, hnone, u3, u4, u5, rfl⟩ := hS
      obtain ⟨pt, q, hpt, hq, rfl⟩ := hB
      have ht1 := ht.mono (s0.trans sH)
      have hit1 := st_mono (s0.trans sH) hit
      refine xs_if (b := t.keeps pt && !decide (t.led x.1 pt ∈ t.told)) (XW.t (xw_and (xt_val (xe_tool1 c2 hr (xe_var 0 rfl) ht1 (xe_var 3 rfl) fun H1 s1 ht2 => ⟨t, a, q, pt, rfl, ht2, hok.parts, hp3, st_mono s1 hq, rfl⟩)) fun _ => xw_and1 (xt_not (xt_val (xe_tool1 c1 hr (xe_var 0 rfl) ht1 (xe_tool2 c3 hr (xe_var 0 rfl) ht1 (it_fst (xe_var 2 rfl) hit1) (xe_var 3 rfl) fun H1 s1 ht2 => ⟨t, a, x.1, q, pt, rfl, ht2, hx1, st_mono s1 hq, hok.rows, rfl⟩) fun H1 s1 ht2 => ⟨t, a, t.led x.1 pt, rfl, ht2, rfl⟩))))) (fun hc' => ?_) fun hc' => ?_
      · refine xs_ret (R := FallR W.K (some "edit")) (XE.imp (xe_tup (Rs := [Is (.str "edit"), Is (.ref q)]) (xa_cons xe_str (xa_cons (xe_var 3 rfl) xa_nil)) (by simp)) fun v H2 _ r => ?_) fun v H1 s1 r => ⟨(s0.trans sH).trans s1, ?_⟩
        · obtain ⟨T, e, hT⟩ := tupR_is (xs := [.str "edit", .ref q]) r
          exact ⟨T, [.ref q], e, SqT.of hT⟩
        · have e : fallK t w x = some ("edit" : Str) := by
            unfold fallK
            rw [if_neg (by rw [hb']; decide), if_pos (any_of hpt hc')]
          show FallR W.K (fallK t w x) v _
          rw [e]
          exact r
      · exact xs_nil fun H1 s1 => xs_nil fun H2 s2 => ⟨s1.trans s2, sH.trans (s1.trans s2), none_take hpt hnone hc', _, _, _, rfl⟩
    · obtain ⟨sH, hnone, u3, u4, u5, rfl⟩ := hS
      have hn1 := none_all hnone
      have s1 := s0.trans sH
      have ht1 := ht.mono s1
      have hit1 := st_mono s1 hit
      have hcX : FTd (cx W n_falls "falls" s_falls f cdv A outer s H E) H' c ces := hc.mono s1
      refine xs_scan (BCome ces 4 5 3) (g := g3 W.K 4 5 3) (xi_ti (xe_fld (v := .ref c) (xe_var 1 rfl) (s1 _ _ hw) WC.cl (WC.na "coming" (by simp)) rfl) hcX) (pg_tup rfl (pgs_cons (pg_name (i := 4) sc_falls.nd rfl (Or.inl rfl)) (pgs_cons (pg_2 rfl sc_falls.nd rfl rfl (Or.inl rfl) (Or.inl rfl) (.inr rfl) (.inr rfl)) pgs_nil))) gmon_3
        (fun i σ' H2 => Same H' H2 ∧ ((keysT ces).take i).any (fun c => !decide (t.joined x.1 c.1 ∈ t.told)) = false ∧ ∃ u3 u4 u5, σ' = [some (.ref a), some (.ref wy), some (.ref it), u3, u4, u5]) ⟨Same.refl _, rfl, _, _, _, rfl⟩ (fun i σ' H' H'' e p => ⟨p.1.trans e, p.2⟩) (bind_come (hcv.mono s1)) (fun i σ' σ2 H2 hi sG2 hS hB => ?_) fun σ' H2 hS sG2 => ?_
      · obtain ⟨sH2, hnone2, u3, u4, u5, rfl⟩ := hS
        obtain ⟨en, sv, pv, hen, rfl⟩ := hB
        have s2 := s1.trans sH2
        have ht2 := ht.mono s2
        have hit2 := st_mono s2 hit
        have hkey := (hc.mono s2).2 en (List.mem_of_getElem? hen)
        have hke : (keysT ces)[i]? = some en.1 := by unfold keysT; rw [List.getElem?_map, hen]; rfl
        have oke := oc en.1 (by rw [← hkc]; exact List.mem_of_getElem? hke)
        have hem : en.1.1 ∈ t.marks := by obtain ⟨m, b, e, h⟩ := oke; rw [e]; exact h
        refine xs_if (b := !decide (t.joined x.1 en.1.1 ∈ t.told)) (xt_not (xt_val (xe_tool1 c1 hr (xe_var 0 rfl) ht2 (xe_tool2 c4 hr (xe_var 0 rfl) ht2 (it_fst (xe_var 2 rfl) hit2) (it_fst (xe_var 4 rfl) hkey) fun H1 s1 ht3 => ⟨t, a, x.1, en.1.1, rfl, ht3, hx1, hem, rfl⟩) fun H1 s1 ht3 => ⟨t, a, t.joined x.1 en.1.1, rfl, ht3, rfl⟩))) (fun hc' => ?_) fun hc' => ?_
        · refine xs_ret (R := FallR W.K (some "hear")) (XE.imp (xe_tup (Rs := [Is (.str "hear"), Is pv, Is sv]) (xa_cons xe_str (xa_cons (xe_var 3 rfl) (xa_cons (xe_var 5 rfl) xa_nil))) (by simp)) fun v H2 _ r => ?_) fun v H1 s1 r => ⟨s2.trans s1, ?_⟩
          · obtain ⟨T, e, hT⟩ := tupR_is (xs := [.str "hear", pv, sv]) r
            exact ⟨T, [pv, sv], e, SqT.of hT⟩
          · have e : fallK t w x = some ("hear" : Str) := by
              unfold fallK
              rw [if_neg (by rw [hb']; decide), if_neg (by rw [hn1]; exact Bool.false_ne_true), if_pos (by rw [← hkc]; exact any_of hke hc')]
            show FallR W.K (fallK t w x) v _
            rw [e]
            exact r
        · exact xs_nil fun H1 s1 => xs_nil fun H3 s3 => ⟨s1.trans s3, sH2.trans (s1.trans s3), none_take hke hnone2 hc', _, _, _, rfl⟩
      · obtain ⟨sH2, hnone2, u3, u4, u5, rfl⟩ := hS
        have hn2 : (keysT ces).any (fun c => !decide (t.joined x.1 c.1 ∈ t.told)) = false := none_all (by rw [keysT_len]; exact hnone2)
        refine xs_ret xe_non fun v H1 s3 r => ⟨(s1.trans sH2).trans s3, ?_⟩
        have e : fallK t w x = none := by
          unfold fallK
          rw [if_neg (by rw [hb']; decide), if_neg (by rw [hn1]; exact Bool.false_ne_true), if_neg (by rw [← hkc, hn2]; exact Bool.false_ne_true)]
        show FallR W.K (fallK t w x) v _
        rw [e]
        exact r
end
end LM

set_option maxHeartbeats 400000
namespace LM
open PySem PySem.Spec PyProof.Rows L2
section
variable {W : Wd}
/-- coming's keys, known -/
theorem come_key {t : LT} {H : Hp} {c : Addr} {ces : List Ent} {l : List It2} (hc : FTdW W H c ces) (hk : keysT ces = l) (oc : ∀ x ∈ l, okS t x) {i : Nat} {en : Ent} (he : ces[i]? = some en) : SqT W.K H en.2.1 (itV en.1) ∧ l[i]? = some en.1 ∧ en.1.1 ∈ t.marks := by
  have h1 : l[i]? = some en.1 := by rw [← hk]; unfold keysT; rw [List.getElem?_map, he]; rfl
  obtain ⟨m, b, e, h⟩ := oc en.1 (List.mem_of_getElem? h1)
  exact ⟨hc.2 en (List.mem_of_getElem? he), h1, by rw [e]; exact h⟩
theorem cal_disordering (WC : WaysC W) (c4 : Met W 3 (cTool W) "joined" (Pure (preJoined W))) (hj : ∀ t : LT, t.ok → ∀ a b, a ∈ t.marks → b ∈ t.marks → t.joined a b ∈ t.marks) (A : DefAt W "disordering" s_disordering ["tool", "ways", "item"]) : Cal W 4 "disordering" (Pure (preMeet W fun t w x => FoundR (disK t w x))) := by
  refine cal_pure A sc_disordering (fun vs H R h => by obtain ⟨_, _, _, _, _, _, rfl, _⟩ := h; rfl) fun f cdv A outer s H vs R E hr h => ?_
  obtain ⟨t, w, a, wy, it, x, rfl, hok, ht, ⟨dw, fs, hw, hwf⟩, hit, hx, rfl⟩ := h
  obtain ⟨st, m, c, hh, el, mes, ces, hes, rfl, hm, hc, hcv, hhe, hkm, hkc, hkh, om, oc, oh, nh, nm⟩ := hwf
  have hx1 : x.1 ∈ t.marks := by obtain ⟨m, b, rfl, h⟩ := hx; exact h
  have lenC : ces.length = w.coming.length := by rw [← keysT_len, hkc]
  have hcX : FTd (cx W n_disordering "disordering" s_disordering f cdv A outer s H E) H c ces := hc
  refine xs_scan (BItem ces 3 4) (g := g2 W.K 3 4) (xi_ti (xe_fld (v := .ref c) (xe_var 1 rfl) hw WC.cl (WC.na "coming" (by simp)) rfl) hcX) (pg_2 rfl sc_disordering.nd rfl rfl (Or.inl rfl) (Or.inl rfl) (.inr rfl) (.inr rfl)) gmon_2
    (fun i σ' H' => Same H H' ∧ (w.coming.take i).any (fun a => w.coming.any fun b => !decide (t.joined (t.joined x.1 a.1) b.1 = t.joined (t.joined x.1 b.1) a.1)) = false ∧ ∃ u3 u4 u5 u6 u7, σ' = [some (.ref a), some (.ref wy), some (.ref it), u3, u4, u5, u6, u7]) ⟨Same.refl _, rfl, _, _, _, _, _, rfl⟩ (fun i σ' H' H'' e p => ⟨p.1.trans e, p.2⟩) bind_item (fun i σ' σ2 H' hi sG hS hB => ?_) fun σ' H' hS sG => ?_
  · obtain ⟨sH, hnone, u3, u4, u5, u6, u7, rfl⟩ := hS
    obtain ⟨en, hen, rfl⟩ := hB
    obtain ⟨hkey, hke, hem⟩ := come_key (hc.mono sH) hkc oc hen
    have hcX : FTd (cx W n_disordering "disordering" s_disordering f cdv A outer s H E) H' c ces := hc.mono sH
    refine xs_scan (BItem ces 5 6) (g := g2 W.K 5 6) (xi_ti (xe_fld (v := .ref c) (xe_var 1 rfl) (sH _ _ hw) WC.cl (WC.na "coming" (by simp)) rfl) hcX) (pg_2 rfl sc_disordering.nd rfl rfl (Or.inl rfl) (Or.inl rfl) (.inr rfl) (.inr rfl)) gmon_2
      (fun j σ' H2 => Same H' H2 ∧ (w.coming.take j).any (fun b => !decide (t.joined (t.joined x.1 en.1.1) b.1 = t.joined (t.joined x.1 b.1) en.1.1)) = false ∧ ∃ u5 u6 u7, σ' = [some (.ref a), some (.ref wy), some (.ref it), some (.ref en.2.1), some en.2.2, u5, u6, u7]) ⟨Same.refl _, rfl, _, _, _, rfl⟩ (fun i σ' H' H'' e p => ⟨p.1.trans e, p.2⟩) bind_item (fun j σ' σ2 H2 hj' sG hS hB => ?_) fun σ' H2 hS sG => ?_
    · obtain ⟨sH2, hnone2, u5, u6, u7, rfl⟩ := hS
      obtain ⟨e2, hen2, rfl⟩ := hB
      have s2 := sH.trans sH2
      obtain ⟨hkey2, hke2, hem2⟩ := come_key (hc.mono s2) hkc oc hen2
      have ht2 := ht.mono s2
      have hit2 := st_mono s2 hit
      have hk1 := st_mono sH2 hkey
      refine xs_setv 7 (v := .str (t.joined (t.joined x.1 en.1.1) e2.1.1)) (xe_tool2 c4 hr (xe_var 0 rfl) ht2 (xe_tool2 c4 hr (xe_var 0 rfl) ht2 (it_fst (xe_var 2 rfl) hit2) (it_fst (xe_var 3 rfl) hk1) fun H3 s3 ht3 => ⟨t, a, x.1, en.1.1, rfl, ht3, hx1, hem, rfl⟩) (it_fst (xe_var 5 rfl) hkey2) fun H3 s3 ht3 => ⟨t, a, t.joined x.1 en.1.1, e2.1.1, rfl, ht3, hj t hok _ _ hx1 hem, hem2, rfl⟩) ?_ sc_disordering.nd
      refine xs_if (b := !decide (t.joined (t.joined x.1 en.1.1) e2.1.1 = t.joined (t.joined x.1 e2.1.1) en.1.1)) (xt_cmp (x := .str (t.joined (t.joined x.1 en.1.1) e2.1.1)) (y := .str (t.joined (t.joined x.1 e2.1.1) en.1.1)) op_ne (xe_var 7 rfl) (xe_tool2 c4 hr (xe_var 0 rfl) ht2 (xe_tool2 c4 hr (xe_var 0 rfl) ht2 (it_fst (xe_var 2 rfl) hit2) (it_fst (xe_var 5 rfl) hkey2) fun H3 s3 ht3 => ⟨t, a, x.1, e2.1.1, rfl, ht3, hx1, hem2, rfl⟩) (it_fst (xe_var 3 rfl) hk1) fun H3 s3 ht3 => ⟨t, a, t.joined x.1 e2.1.1, en.1.1, rfl, ht3, hj t hok _ _ hx1 hem2, hem, rfl⟩) rv_neS (nomark _)) (fun hc' => ?_) fun hc' => ?_
      · refine xs_ret (R := AnyRef) (XE.imp (xe_lst (Rs := [Is en.2.2, Is e2.2.2]) (xa_cons (xe_var 4 rfl) (xa_cons (xe_var 6 rfl) xa_nil)) (by simp)) fun v H2 _ ⟨p, _, e, _⟩ => ⟨p, e⟩) fun v H3 s3 r => ⟨s2.trans s3, ?_⟩
        have e : disK t w x = true := by
          unfold disK
          exact any_of hke (any_of hke2 hc')
        show FoundR (disK t w x) v _
        rw [e]
        exact r
      · exact xs_nil fun H1 s1 => xs_nil fun H3 s3 => ⟨s1.trans s3, sH2.trans (s1.trans s3), none_take hke2 hnone2 hc', _, _, _, rfl⟩
    · obtain ⟨sH2, hnone2, u5, u6, u7, rfl⟩ := hS
      refine xs_nil fun H1 s1 => ⟨sH2.trans s1, sH.trans (sH2.trans s1), none_take hke hnone (none_all (by rw [← lenC]; exact hnone2)), _, _, _, _, _, rfl⟩
  · obtain ⟨sH, hnone, u3, u4, u5, u6, u7, rfl⟩ := hS
    refine xs_ret xe_non fun v H1 s3 r => ⟨sH.trans s3, ?_⟩
    have e : disK t w x = false := none_all (by rw [← lenC]; exact hnone)
    show FoundR (disK t w x) v _
    rw [e]
    exact r
theorem cal_doubling (WC : WaysC W) (c4 : Met W 3 (cTool W) "joined" (Pure (preJoined W))) (hj : ∀ t : LT, t.ok → ∀ a b, a ∈ t.marks → b ∈ t.marks → t.joined a b ∈ t.marks) (A : DefAt W "doubling" s_doubling ["tool", "ways", "item"]) : Cal W 4 "doubling" (Pure (preMeet W fun t w x => FoundR (dblK t w x))) := by
  refine cal_pure A sc_doubling (fun vs H R h => by obtain ⟨_, _, _, _, _, _, rfl, _⟩ := h; rfl) fun f cdv A outer s H vs R E hr h => ?_
  obtain ⟨t, w, a, wy, it, x, rfl, hok, ht, ⟨dw, fs, hw, hwf⟩, hit, hx, rfl⟩ := h
  obtain ⟨st, m, c, hh, el, mes, ces, hes, rfl, hm, hc, hcv, hhe, hkm, hkc, hkh, om, oc, oh, nh, nm⟩ := hwf
  have hx1 : x.1 ∈ t.marks := by obtain ⟨m, b, rfl, h⟩ := hx; exact h
  have lenC : ces.length = w.coming.length := by rw [← keysT_len, hkc]
  have hcX : FTd (cx W n_doubling "doubling" s_doubling f cdv A outer s H E) H c ces := hc
  refine xs_scan (BItem ces 3 4) (g := g2 W.K 3 4) (xi_ti (xe_fld (v := .ref c) (xe_var 1 rfl) hw WC.cl (WC.na "coming" (by simp)) rfl) hcX) (pg_2 rfl sc_doubling.nd rfl rfl (Or.inl rfl) (Or.inl rfl) (.inr rfl) (.inr rfl)) gmon_2
    (fun i σ' H' => Same H H' ∧ (w.coming.take i).any (fun a => !decide (t.joined (t.joined x.1 a.1) a.1 = t.joined x.1 a.1)) = false ∧ ∃ u3 u4 u5, σ' = [some (.ref a), some (.ref wy), some (.ref it), u3, u4, u5]) ⟨Same.refl _, rfl, _, _, _, rfl⟩ (fun i σ' H' H'' e p => ⟨p.1.trans e, p.2⟩) bind_item (fun i σ' σ2 H' hi sG hS hB => ?_) fun σ' H' hS sG => ?_
  · obtain ⟨sH, hnone, u3, u4, u5, rfl⟩ := hS
    obtain ⟨en, hen, rfl⟩ := hB
    obtain ⟨hkey, hke, hem⟩ := come_key (hc.mono sH) hkc oc hen
    have ht2 := ht.mono sH
    have hit2 := st_mono sH hit
    refine xs_setv 5 (v := .str (t.joined x.1 en.1.1)) (xe_tool2 c4 hr (xe_var 0 rfl) ht2 (it_fst (xe_var 2 rfl) hit2) (it_fst (xe_var 3 rfl) hkey) fun H3 s3 ht3 => ⟨t, a, x.1, en.1.1, rfl, ht3, hx1, hem, rfl⟩) ?_ sc_doubling.nd
    refine xs_if (b := !decide (t.joined (t.joined x.1 en.1.1) en.1.1 = t.joined x.1 en.1.1)) (xt_cmp (x := .str (t.joined (t.joined x.1 en.1.1) en.1.1)) (y := .str (t.joined x.1 en.1.1)) op_ne (xe_tool2 c4 hr (xe_var 0 rfl) ht2 (xe_var 5 rfl) (it_fst (xe_var 3 rfl) hkey) fun H3 s3 ht3 => ⟨t, a, t.joined x.1 en.1.1, en.1.1, rfl, ht3, hj t hok _ _ hx1 hem, hem, rfl⟩) (xe_var 5 rfl) rv_neS (nomark _)) (fun hc' => ?_) fun hc' => ?_
    · refine xs_ret (R := AnyRef) (XE.imp (xe_lst (Rs := [Is en.2.2]) (xa_cons (xe_var 4 rfl) xa_nil) (by simp)) fun v H2 _ ⟨p, _, e, _⟩ => ⟨p, e⟩) fun v H3 s3 r => ⟨sH.trans s3, ?_⟩
      have e : dblK t w x = true := by
        unfold dblK
        exact any_of hke hc'
      show FoundR (dblK t w x) v _
      rw [e]
      exact r
    · exact xs_nil fun H1 s1 => xs_nil fun H3 s3 => ⟨s1.trans s3, sH.trans (s1.trans s3), none_take hke hnone hc', _, _, _, rfl⟩
  · obtain ⟨sH, hnone, u3, u4, u5, rfl⟩ := hS
    refine xs_ret xe_non fun v H1 s3 r => ⟨sH.trans s3, ?_⟩
    have e : dblK t w x = false := none_all (by rw [← lenC]; exact hnone)
    show FoundR (dblK t w x) v _
    rw [e]
    exact r
/-! ### Meeting -/
abbrev cMeeting (W : Wd) : Addr := He.ga W.K "Meeting"
structure MeetC (W : Wd) : Prop where
  cl : Cls W.K (cMeeting W)
  na : ∀ f ∈ (["hearings", "item", "deeds", "waiting"] : List Str), NoAttr W.K (cMeeting W) f
def MeetF (n : Nat) (fs : List (Str × V)) (_ : Hp) : Prop := ∃ v2 v3 v4, fs = ([("hearings", .int n), ("item", v2), ("deeds", v3), ("waiting", v4)] : List (Str × V))
def preMeeting : List V → Hp → (List (Str × V) → Hp → Prop) → Prop := fun as _ F => ∃ (n : Nat) (v2 v3 v4 : V), as = [.int n, v2, v3, v4] ∧ F = MeetF n
theorem mak_meeting (MC : MeetC W) (A : MakAt W "Meeting" (cMeeting W) "Meeting.__init__" s_Meeting_init ["self", "hearings", "item", "deeds", "waiting"]) : Mak W 1 "Meeting" (cMeeting W) (Init (cMeeting W) preMeeting) := by
  refine mak_init A sc_Meeting_init (fun as H F h => by obtain ⟨_, _, _, _, rfl, _⟩ := h; rfl) fun f cdv A outer s H G y dx as F E hr g0 sg hy h => ?_
  obtain ⟨n, v2, v3, v4, rfl, rfl⟩ := h
  refine xs_fld (R := Is (.int n)) (xe_var 0 rfl) (xe_var 1 rfl) hy MC.cl (MC.na "hearings" (by simp)) (by decide) fun v H1 s1 r => ?_
  cases r
  refine xs_fld (R := Is v2) (xe_var 0 rfl) (xe_var 2 rfl) upd_same MC.cl (MC.na "item" (by simp)) (by show 1 < 1000; decide) fun v H2 s2 r => ?_
  cases r
  refine xs_fld (R := Is v3) (xe_var 0 rfl) (xe_var 3 rfl) upd_same MC.cl (MC.na "deeds" (by simp)) (by show 2 < 1000; decide) fun v H3 s3 r => ?_
  cases r
  refine xs_fld (R := Is v4) (xe_var 0 rfl) (xe_var 4 rfl) upd_same MC.cl (MC.na "waiting" (by simp)) (by show 3 < 1000; decide) fun v H4 s4 r => ?_
  cases r
  refine xs_nil fun H5 s5 => ⟨(mutS ((mutS ((mutS ((mutS (sg.trans s1) g0).trans s2) g0).trans s3) g0).trans s4) g0).trans s5, _, s5 _ _ upd_same, v2, v3, v4, rfl⟩
def MeetR (W : Wd) : Option Nat → VP
  | none => Is .non
  | some n => InsR (cMeeting W) (MeetF n)
instance (W : Wd) (k : Option Nat) : Mon (MeetR W k) := by
  cases k with
  | none => exact inferInstanceAs (Mon (Is .non))
  | some n => exact ⟨fun v H H' e ⟨a, dx, fs, h1, h2, h3⟩ => ⟨a, dx, fs, h1, e _ _ h2, h3⟩⟩
end
end LM

set_option maxHeartbeats 400000
namespace LM
open PySem PySem.Spec PyProof.Rows L2
def metK (t : LT) (w : WaysD) (x : It2) (n : Nat) (f : Str) : Option Nat :=
  if f = "false" then (if (decide (x.1 ∈ t.told) && !bOf x) = true then some n else none)
  else if f = "missed" then (if (bOf x && !decide (x.1 ∈ t.told)) = true then some n else none)
  else if f = "fallen" then (match fallK t w x with
    | none => none
    | some z => some (n + if z = "hear" then 1 else 0))
  else if (if f = "order" then disK t w x else dblK t w x) = true then some n else none
def lstep (acc k : Option Nat) : Option Nat := match k with
  | none => acc
  | some n => match acc with
    | none => some n
    | some m => if n < m then some n else some m
def leastK (t : LT) (w : WaysD) (f : Str) : Option Nat := (w.hearings.map fun h => metK t w h.1 h.2 f).foldl lstep none
theorem allR4 {R1 R2 R3 R4 : VP} : ∀ {ws : List V} {H : Hp}, AllR [R1, R2, R3, R4] ws H → ∃ a b c d, ws = [a, b, c, d] ∧ R1 a H ∧ R2 b H ∧ R3 c H ∧ R4 d H
  | [a, b, c, d], _, h => ⟨a, b, c, d, rfl, h.1, h.2.1, h.2.2.1, h.2.2.2.1⟩
  | [], _, h => h.elim
  | [_], _, h => h.2.elim
  | [_, _], _, h => h.2.2.elim
  | [_, _, _], _, h => h.2.2.2.elim
  | _ :: _ :: _ :: _ :: _ :: _, _, h => h.2.2.2.2.elim
section
variable {X : Cx} {j : Nat} {e1 e2 e3 e4 : Expr} {σ : St} {H : Hp} {p pos : Pos} {n : Nat}
theorem xe_meet (c : Mak (wd X) 1 "Meeting" (cMeeting (wd X)) (Init (cMeeting (wd X)) preMeeting)) (hr : Room j X.A) (h1 : XV X e1 σ H (.int n)) (h2 : XE X e2 σ H AnyRef) (h3 : XE X e3 σ H AnyRef) (h4 : XE X e4 σ H AnyRef) (hk : 2 ≤ j := by decide) (hg : Gl X "Meeting" := by rfl)
    (s1 : starEach [e1, e2, e3, e4] X.env = (false, eval e1 X.env) :: starEach [e2, e3, e4] X.env := by rfl) (s2 : starEach [e2, e3, e4] X.env = (false, eval e2 X.env) :: starEach [e3, e4] X.env := by rfl) (s3 : starEach [e3, e4] X.env = (false, eval e3 X.env) :: starEach [e4] X.env := by rfl) (s4 : starEach [e4] X.env = (false, eval e4 X.env) :: starEach [] X.env := by rfl)
    (hpl : (backTo pos (starEach [e2, e3, e4] X.env)).any (·.1) = false := by rfl) : XE X (.Call (.Name "Meeting" p) [e1, e2, e3, e4] [] pos) σ H (MeetR (wd X) (some n)) :=
  xe_make (F := MeetF n) c hr (xa_cons h1 (xa_cons h2 (xa_cons h3 (xa_cons h4 xa_nil s4) s3) s2) s1) (fun vs H1 _ r => by
    obtain ⟨a, b, c, d, rfl, r1, _⟩ := allR4 r
    cases r1
    exact ⟨n, b, c, d, rfl, rfl⟩) hk hg (by decide) s1 hpl
theorem xe_any0 : XE X (.List [] pos) σ H AnyRef := XE.imp (xe_lst (Rs := []) xa_nil (by simp)) fun v H2 _ ⟨a, _, e, _⟩ => ⟨a, e⟩
end
theorem xe_intB {X : Cx} {e : Expr} {σ : St} {H : Hp} {p pos : Pos} {k : Bool} (hm : X.mg "int" = none) (ha : XV X e σ H (.bl k)) (hg : Gl X "int" := by rfl)
    (he : starEach [e] X.env = (false, eval e X.env) :: starEach [] X.env := by rfl) (hpl : (backTo pos (starEach [] X.env)).any (·.1) = false := by rfl) : XV X (.Call (.Name "int" p) [e] [] pos) σ H (.int (if k then 1 else 0)) :=
  xe_callTy call_int1 hm (xa_cons ha xa_nil he) (fun vs H1 s1 hr H2 s2 Q kq => by
    obtain ⟨v, rfl, hv⟩ := allR1 hr
    cases hv
    exact .inr ⟨k, rfl, kq _ H2 (Same.refl _) rfl⟩) (by decide +kernel) hg (by decide) (by decide) he hpl
theorem xe_intI {X : Cx} {e : Expr} {σ : St} {H : Hp} {p pos : Pos} {k : Int} (hm : X.mg "int" = none) (ha : XV X e σ H (.int k)) (hg : Gl X "int" := by rfl)
    (he : starEach [e] X.env = (false, eval e X.env) :: starEach [] X.env := by rfl) (hpl : (backTo pos (starEach [] X.env)).any (·.1) = false := by rfl) : XV X (.Call (.Name "int" p) [e] [] pos) σ H (.int k) :=
  xe_callTy call_int1 hm (xa_cons ha xa_nil he) (fun vs H1 s1 hr H2 s2 Q kq => by
    obtain ⟨v, rfl, hv⟩ := allR1 hr
    cases hv
    exact .inl ⟨k, rfl, kq _ H2 (Same.refl _) rfl⟩) (by decide +kernel) hg (by decide) (by decide) he hpl
theorem ifR {W : Wd} {b : Bool} {n : Nat} (h : b = true) : MeetR W (some n) = MeetR W (if b = true then some n else none) := by rw [if_pos h]
theorem bOf_at {X : Cx} {t : LT} {e : Expr} {σ : St} {H : Hp} {a : Addr} {x : It2} {pos p2 : Pos} {j : _} (h1 : XV X e σ H (.ref a)) (hq : SqT X.K H a (itV x)) (hx : okS t x) : XV X (.Subscript e (.Constant (.int 1) j p2) pos) σ H (.bl (bOf x)) := by
  obtain ⟨m, b, rfl, _⟩ := hx
  exact xe_ixT h1 xe_int hq rfl
def preMetAt (W : Wd) : List V → Hp → VP → Prop := fun vs H R => ∃ (t : LT) (w : WaysD) (a wy it : Addr) (x : It2) (n : Nat) (f : Str), vs = [.ref a, .ref wy, .ref it, .str f] ∧ t.ok ∧ ToolA W t a H ∧ (∃ dx fs, H wy = some (.ins (cWays W) dx fs) ∧ WaysF W w (okS t) fs H) ∧ SqT W.K H it (itV x) ∧ okS t x ∧ (x, n) ∈ w.hearings ∧ R = MeetR W (metK t w x n f)
section
variable {W : Wd}
theorem cal_met_at (B : Blt W) (WC : WaysC W) (c0 : Met W 1 (cTool W) "is_told" (Pure (preTold W))) (c1 : Cal W 4 "falls" (Pure (preMeet W fun t w x => FallR W.K (fallK t w x)))) (c2 : Cal W 4 "disordering" (Pure (preMeet W fun t w x => FoundR (disK t w x)))) (c3 : Cal W 4 "doubling" (Pure (preMeet W fun t w x => FoundR (dblK t w x))))
    (c4 : Mak W 1 "Meeting" (cMeeting W) (Init (cMeeting W) preMeeting)) (A : DefAt W "met_at" s_met_at ["tool", "ways", "item", "fault"]) : Cal W 5 "met_at" (Pure (preMetAt W)) := by
  refine cal_pure A sc_met_at (fun vs H R h => by obtain ⟨_, _, _, _, _, _, _, _, rfl, _⟩ := h; rfl) fun f0 cdv A outer s H vs R E hr h => ?_
  obtain ⟨t, w, a, wy, it, x, n, f, rfl, hok, ht, ⟨dw, fs, hw, hwf⟩, hit, hx, hxn, rfl⟩ := h
  obtain ⟨st, m, c, hh, el, mes, ces, hes, rfl, hm, hc, hcv, hhe, hkm, hkc, hkh, om, oc, oh, nh, nm⟩ := id hwf
  have hmem : (x, V.int n) ∈ valsT hes := by
    rw [hkh]
    exact List.mem_map.mpr ⟨(x, n), hxn, rfl⟩
  obtain ⟨en, hen, een⟩ := List.mem_map.mp hmem
  obtain ⟨ek, ea, ev⟩ := en
  obtain ⟨rfl, rfl⟩ : x = ek ∧ V.int n = ev := by cases een; exact ⟨rfl, rfl⟩
  have hheX : FTd (cx W n_met_at "met_at" s_met_at f0 cdv A outer s H E) H hh hes := hhe
  refine xs_par 4 5 (R1 := Is (.int n)) (R2 := Is (.bl (decide (x.1 ∈ t.told)))) (xa_cons (xe_tdget (b := ea) hr (xe_fld (v := .ref hh) (xe_var 1 rfl) hw WC.cl (WC.na "hearings" (by simp)) rfl) (xe_var 2 rfl) hheX hit hen) (xa_cons (xe_tool1 c0 hr (xe_var 0 rfl) ht (it_fst (xe_var 2 rfl) hit) fun H1 s1 ht1 => ⟨t, a, x.1, rfl, ht1, rfl⟩) xa_nil)) (fun v u H1 s1 hv hu => ?_) sc_met_at.nd
  cases hv; cases hu
  have hit1 := st_mono s1 hit
  have pm : ∀ H2, Same H1 H2 → t.ok ∧ ToolA W t a H2 ∧ (∃ dx fs, H2 wy = some (.ins (cWays W) dx fs) ∧ WaysF W w (okS t) fs H2) ∧ SqT W.K H2 it (itV x) ∧ okS t x := fun H2 s2 => ⟨hok, ht.mono (s1.trans s2), ⟨dw, _, (s1.trans s2) _ _ hw, hwf.mono (s1.trans s2)⟩, st_mono (s1.trans s2) hit, hx⟩
  have anyV : ∀ {z : Addr}, ∀ H2 : Hp, AnyRef (.ref z) H2 := fun {z} _ => ⟨z, rfl⟩
  refine xs_if (b := decide (f = "false")) (xt_cmp (x := .str f) (y := .str "false") op_eq (xe_var 3 rfl) xe_str rv_eqS (nomark _)) (fun hb => ?_) fun hb => ?_
  · refine xs_ret (R := MeetR W (metK t w x n f)) ?_ fun v H2 s2 r => ⟨s1.trans s2, r⟩
    have e : metK t w x n f = if (decide (x.1 ∈ t.told) && !bOf x) = true then some n else none := by unfold metK; rw [if_pos (of_decide_eq_true hb)]
    rw [e]
    refine xe_if (p := decide (x.1 ∈ t.told) && !bOf x) (XW.t (xw_and (xt_val (xe_var 5 rfl)) fun _ => xw_and1 (xt_not (xt_val (bOf_at (xe_var 2 rfl) hit1 hx))))) (fun hc => ?_) fun hc => ?_
    · rw [if_pos hc]
      exact xe_meet c4 hr (xe_var 4 rfl) ((xe_var 2 rfl).is fun H2 _ => anyV H2) xe_any0 xe_any0
    · rw [if_neg (by rw [hc]; exact Bool.false_ne_true)]
      exact xe_non
  · have n1 : ¬ f = "false" := of_decide_eq_false hb
    refine xs_nil fun H2 s2 => ?_
    have s12 := s1.trans s2
    have hit2 := st_mono s12 hit
    refine xs_if (b := decide (f = "missed")) (xt_cmp (x := .str f) (y := .str "missed") op_eq (xe_var 3 rfl) xe_str rv_eqS (nomark _)) (fun hb => ?_) fun hb => ?_
    · refine xs_ret (R := MeetR W (metK t w x n f)) ?_ fun v H3 s3 r => ⟨s12.trans s3, r⟩
      have e : metK t w x n f = if (bOf x && !decide (x.1 ∈ t.told)) = true then some n else none := by unfold metK; rw [if_neg n1, if_pos (of_decide_eq_true hb)]
      rw [e]
      refine xe_if (p := bOf x && !decide (x.1 ∈ t.told)) (XW.t (xw_and (xt_val (bOf_at (xe_var 2 rfl) hit2 hx)) fun _ => xw_and1 (xt_not (xt_val (xe_var 5 rfl))))) (fun hc => ?_) fun hc => ?_
      · rw [if_pos hc]
        exact xe_meet c4 hr (xe_var 4 rfl) ((xe_var 2 rfl).is fun H2 _ => anyV H2) xe_any0 xe_any0
      · rw [if_neg (by rw [hc]; exact Bool.false_ne_true)]
        exact xe_non
    · have n2 : ¬ f = "missed" := of_decide_eq_false hb
      refine xs_nil fun H3 s3 => ?_
      have s23 := s2.trans s3
      have s13 := s1.trans s23
      refine xs_if (b := decide (f = "fallen")) (xt_cmp (x := .str f) (y := .str "fallen") op_eq (xe_var 3 rfl) xe_str rv_eqS (nomark _)) (fun hb => ?_) fun hb => ?_
      · refine xs_set (R := FallR W.K (fallK t w x)) 6 (xe_call3 c1 hr (xe_var 0 rfl) (xe_var 1 rfl) (xe_var 2 rfl) fun H4 s4 => ?_) (fun v H4 s4 hv => ?_) sc_met_at.nd
        · obtain ⟨q1, q2, q3, q4, q5⟩ := pm H4 (s23.trans s4)
          exact ⟨t, w, a, wy, it, x, rfl, q1, q2, q3, q4, q5, rfl⟩
        · refine xs_ret (R := MeetR W (metK t w x n f)) ?_ fun v H5 s5 r => ⟨(s13.trans s4).trans s5, r⟩
          cases hk : fallK t w x with
          | none =>
            have e : metK t w x n f = none := by unfold metK; rw [if_neg n1, if_neg n2, if_pos (of_decide_eq_true hb), hk]
            rw [hk] at hv
            cases hv
            rw [e]
            exact xe_if (p := true) (xt_isN (x := .non) (xe_var 6 rfl)) (fun _ => xe_non) fun q => nomatch q
          | some z =>
            have e : metK t w x n f = some (n + if z = "hear" then 1 else 0) := by unfold metK; rw [if_neg n1, if_neg n2, if_pos (of_decide_eq_true hb), hk]
            rw [hk] at hv
            obtain ⟨T, xs, rfl, hT⟩ := hv
            rw [e]
            refine xe_if (p := false) (XT.cast (xt_isN (x := .ref T) (xe_var 6 rfl)) rfl) (fun q => nomatch q) fun _ => ?_
            refine xe_meet c4 hr ?_ ((xe_var 2 rfl).is fun H2 _ => anyV H2) (XE.imp (xe_lst (Rs := [Is (.ref T)]) (xa_cons (xe_var 6 rfl) xa_nil) (by simp)) fun v H2 _ ⟨p, _, e, _⟩ => ⟨p, e⟩) xe_any0
            refine XE.cast (xe_op (x := .int n) (y := .int (if decide (z = "hear") then 1 else 0)) op_add (xe_var 4 rfl) (xe_intB B.int (xe_cmp (x := .str z) (y := .str "hear") op_eq (xe_ixT (xe_var 6 rfl) xe_int hT (atI_nat (j := 0) rfl)) xe_str rv_eqS (nomark _))) rv_I0) ?_
            by_cases hz : z = "hear"
            · rw [if_pos hz, decide_eq_true hz]; rfl
            · rw [if_neg hz, decide_eq_false hz]; rfl
      · have n3 : ¬ f = "fallen" := of_decide_eq_false hb
        refine xs_nil fun H4 s4 => ?_
        have s24 := s23.trans s4
        have s14 := s1.trans s24
        refine xs_set (R := FoundR (if f = "order" then disK t w x else dblK t w x)) 7 (xe_if (p := decide (f = "order")) (xt_cmp (x := .str f) (y := .str "order") op_eq (xe_var 3 rfl) xe_str rv_eqS (nomark _)) (fun hb => ?_) fun hb => ?_) (fun v H5 s5 hv => ?_) sc_met_at.nd
        · rw [if_pos (of_decide_eq_true hb)]
          refine xe_call3 c2 hr (xe_var 0 rfl) (xe_var 1 rfl) (xe_var 2 rfl) fun H5 s5 => ?_
          obtain ⟨q1, q2, q3, q4, q5⟩ := pm H5 (s24.trans s5)
          exact ⟨t, w, a, wy, it, x, rfl, q1, q2, q3, q4, q5, rfl⟩
        · rw [if_neg (of_decide_eq_false hb)]
          refine xe_call3 c3 hr (xe_var 0 rfl) (xe_var 1 rfl) (xe_var 2 rfl) fun H5 s5 => ?_
          obtain ⟨q1, q2, q3, q4, q5⟩ := pm H5 (s24.trans s5)
          exact ⟨t, w, a, wy, it, x, rfl, q1, q2, q3, q4, q5, rfl⟩
        · refine xs_ret (R := MeetR W (metK t w x n f)) ?_ fun v H6 s6 r => ⟨(s14.trans s5).trans s6, r⟩
          have e : metK t w x n f = if (if f = "order" then disK t w x else dblK t w x) = true then some n else none := by unfold metK; rw [if_neg n1, if_neg n2, if_neg n3]
          rw [e]
          cases hk : (if f = "order" then disK t w x else dblK t w x) with
          | true =>
            rw [hk] at hv
            obtain ⟨T, rfl⟩ := hv
            rw [if_pos rfl]
            refine xe_if (p := false) (XT.cast (xt_isN (x := .ref T) (xe_var 7 rfl)) rfl) (fun q => nomatch q) fun _ => ?_
            exact xe_meet c4 hr (xe_var 4 rfl) ((xe_var 2 rfl).is fun H2 _ => anyV H2) xe_any0 ((xe_var 7 rfl).is fun H2 _ => anyV H2)
          | false =>
            rw [hk] at hv
            cases hv
            rw [if_neg Bool.false_ne_true]
            exact xe_if (p := true) (xt_isN (x := .non) (xe_var 7 rfl)) (fun _ => xe_non) fun q => nomatch q
end
end LM

set_option maxHeartbeats 400000
namespace LM
open PySem PySem.Spec PyProof.Rows L2
theorem allR3 {R1 R2 R3 : VP} : ∀ {ws : List V} {H : Hp}, AllR [R1, R2, R3] ws H → ∃ a b c, ws = [a, b, c] ∧ R1 a H ∧ R2 b H ∧ R3 c H
  | [a, b, c], _, h => ⟨a, b, c, rfl, h.1, h.2.1, h.2.2.1⟩
  | [], _, h => h.elim
  | [_], _, h => h.2.elim
  | [_, _], _, h => h.2.2.elim
  | _ :: _ :: _ :: _ :: _, _, h => h.2.2.2.elim
def lcond (k acc : Option Nat) : Bool := match k with
  | none => false
  | some n => match acc with
    | none => true
    | some m => decide ((n : Int) < m)
theorem lcond_t {k acc : Option Nat} (h : lcond k acc = true) : lstep acc k = k := by
  cases k with
  | none => cases h
  | some n =>
    cases acc with
    | none => rfl
    | some m =>
      have : (n : Int) < m := of_decide_eq_true h
      show (if n < m then some n else some m) = some n
      rw [if_pos (by omega)]
theorem lcond_f {k acc : Option Nat} (h : lcond k acc = false) : lstep acc k = acc := by
  cases k with
  | none => rfl
  | some n =>
    cases acc with
    | none => cases h
    | some m =>
      have : ¬ (n : Int) < m := of_decide_eq_false h
      show (if n < m then some n else some m) = some m
      rw [if_neg (by omega)]
def preLeast (W : Wd) : List V → Hp → VP → Prop := fun vs H R => ∃ (t : LT) (w : WaysD) (a wy : Addr) (f : Str), vs = [.ref a, .ref wy, .str f] ∧ t.ok ∧ ToolA W t a H ∧ (∃ dx fs, H wy = some (.ins (cWays W) dx fs) ∧ WaysF W w (okS t) fs H) ∧ R = MeetR W (leastK t w f)
section
variable {W : Wd}
theorem xe_meetH {X : Cx} {e : Expr} {σ : St} {H : Hp} {pos : Pos} {v : V} {n : Nat} (MC : MeetC (wd X)) (h : XV X e σ H v) (hv : MeetR (wd X) (some n) v H) (hb : attributeBase e "hearings" X.env (eval e X.env) = eval e X.env := by rfl) : XV X (.Attribute e "hearings" pos) σ H (.int n) := by
  obtain ⟨a, dx, fs, rfl, hi, v2, v3, v4, rfl⟩ := hv
  exact xe_fld h hi MC.cl (MC.na "hearings" (by simp)) rfl hb
theorem meet_ne {n : Nat} {v : V} {H : Hp} (hv : MeetR W (some n) v H) : decide (v = .non) = false := by
  obtain ⟨a, dx, fs, rfl, _⟩ := hv
  rfl
theorem cal_least (WC : WaysC W) (MC : MeetC W) (c1 : Cal W 5 "met_at" (Pure (preMetAt W))) (A : DefAt W "least_meeting" s_least_meeting ["tool", "ways", "fault"]) : Cal W 6 "least_meeting" (Pure (preLeast W)) := by
  refine cal_pure A sc_least_meeting (fun vs H R h => by obtain ⟨_, _, _, _, _, rfl, _⟩ := h; rfl) fun f0 cdv A outer s H vs R E hr h => ?_
  obtain ⟨t, w, a, wy, f, rfl, hok, ht, ⟨dw, fs, hw, hwf⟩, rfl⟩ := h
  obtain ⟨st, m, c, hh, el, mes, ces, hes, rfl, hm, hc, hcv, hhe, hkm, hkc, hkh, om, oc, oh, nh, nm⟩ := id hwf
  have hheX : FTd (cx W n_least_meeting "least_meeting" s_least_meeting f0 cdv A outer s H E) H hh hes := hhe
  have lenH : hes.length = w.hearings.length := by
    have := congrArg List.length hkh
    unfold valsT encH at this
    rwa [List.length_map, List.length_map] at this
  refine xs_setv 3 (v := .non) xe_non ?_ sc_least_meeting.nd
  refine xs_scan (BKey hes 4) (g := gName 4) (xi_tk (xe_fld (v := .ref hh) (xe_var 1 rfl) hw WC.cl (WC.na "hearings" (by simp)) rfl) hheX) (pg_name (i := 4) sc_least_meeting.nd rfl (Or.inl rfl)) gmon_name
    (fun i σ' H' => Same H H' ∧ ∃ lv u4 u5, σ' = [some (.ref a), some (.ref wy), some (.str f), some lv, u4, u5] ∧ MeetR W (((w.hearings.take i).map fun h : It2 × Nat => metK t w h.1 h.2 f).foldl lstep none) lv H') ⟨Same.refl _, _, _, _, rfl, rfl⟩ (fun i σ' H' H'' e ⟨p1, lv, u4, u5, p2, p3⟩ => ⟨p1.trans e, lv, u4, u5, p2, Mon.mono _ _ _ e p3⟩) bind_key (fun i σ' σ2 H' hi sG hS hB => ?_) fun σ' H' hS sG => ?_
  · obtain ⟨sH, lv, u4, u5, rfl, hlv⟩ := hS
    obtain ⟨en, hen, rfl⟩ := hB
    have hv1 : (valsT hes)[i]? = some (en.1, en.2.2) := by unfold valsT; rw [List.getElem?_map, hen]; rfl
    rw [hkh] at hv1
    unfold encH at hv1
    rw [List.getElem?_map] at hv1
    cases hwi : w.hearings[i]? with
    | none => rw [hwi] at hv1; cases hv1
    | some xn =>
      obtain ⟨x, n⟩ := xn
      rw [hwi] at hv1
      have ex : x = en.1 := congrArg Prod.fst (Option.some.inj hv1)
      have hkey : SqT W.K H' en.2.1 (itV x) := by rw [ex]; exact (hhe.mono sH).2 en (List.mem_of_getElem? hen)
      have okx : okS t x := by
        rw [ex]
        refine oh en.1 ?_
        unfold keysT
        exact List.mem_map.mpr ⟨en, List.mem_of_getElem? hen, rfl⟩
      have et : (((w.hearings.take (i + 1)).map fun h : It2 × Nat => metK t w h.1 h.2 f).foldl lstep none) = lstep (((w.hearings.take i).map fun h : It2 × Nat => metK t w h.1 h.2 f).foldl lstep none) (metK t w x n f) := by
        rw [List.take_succ, hwi, List.map_append, List.foldl_append]; rfl
      generalize (((w.hearings.take i).map fun h : It2 × Nat => metK t w h.1 h.2 f).foldl lstep none) = acc at hlv et
      refine xs_set (R := MeetR W (metK t w x n f)) 5 (xe_call c1 hr (xa_cons (R := Is (.ref a)) (xe_var 0 rfl) (xa_cons (R := Is (.ref wy)) (xe_var 1 rfl) (xa_cons (R := Is (.ref en.2.1)) (xe_var 4 rfl) (xa_cons (R := Is (.str f)) (xe_var 2 rfl) xa_nil)))) fun vs H2 s2 hvs => ?_) (fun fv H2 s2 hfv => ?_) sc_least_meeting.nd
      · obtain ⟨_, _, _, _, rfl, q1, q2, q3, q4⟩ := allR4 hvs
        cases q1; cases q2; cases q3; cases q4
        have s := sH.trans s2
        exact ⟨t, w, a, wy, en.2.1, x, n, f, rfl, hok, ht.mono s, ⟨dw, _, s _ _ hw, hwf.mono s⟩, st_mono s2 hkey, okx, List.mem_of_getElem? hwi, rfl⟩
      · have hlv2 := Mon.mono (R := MeetR W acc) _ _ _ s2 hlv
        refine xs_if (b := lcond (metK t w x n f) acc) ?_ (fun hb => ?_) fun hb => ?_
        · cases hk : metK t w x n f with
          | none =>
            rw [hk] at hfv
            cases hfv
            refine XT.cast (XW.t (xw_and (p := false) (q := false) (XT.cast (xt_notN (x := .non) (xe_var 5 rfl)) rfl) fun q => nomatch q)) rfl
          | some k1 =>
            rw [hk] at hfv
            cases acc with
            | none =>
              cases hlv2
              refine XT.cast (XW.t (xw_and (p := true) (q := true) (xt_notNR (k0 := false) (Ra := MeetR W (some k1)) ((xe_var 5 rfl).is fun H3 s3 => Mon.mono _ _ _ s3 hfv) fun x H1 r => meet_ne r) fun _ => xw_and1 (XT.cast (XW.t (xw_or (p := true) (q := false) (XT.cast (xt_isN (x := .non) (xe_var 3 rfl)) rfl) fun q => nomatch q)) rfl))) rfl
            | some k2 =>
              refine XT.cast (XW.t (xw_and (p := true) (q := decide ((k1 : Int) < k2)) (xt_notNR (k0 := false) (Ra := MeetR W (some k1)) ((xe_var 5 rfl).is fun H3 s3 => Mon.mono _ _ _ s3 hfv) fun x H1 r => meet_ne r) fun _ => xw_and1 (XT.cast (XW.t (xw_or (p := false) (q := decide ((k1 : Int) < k2)) (xt_isNR (k0 := false) (Ra := MeetR W (some k2)) ((xe_var 3 rfl).is fun H3 s3 => Mon.mono _ _ _ s3 hlv2) fun x H1 r => meet_ne r) fun _ => xw_or1 (xt_cmp (x := .int k1) (y := .int k2) op_lt (xe_meetH MC (xe_var 5 rfl) hfv) (xe_meetH MC (xe_var 3 rfl) hlv2) rv_I0 (nomark _)))) rfl))) rfl
        · refine xs_setv 3 (v := fv) (xe_var 5 rfl) (xs_nil fun H3 s3 => xs_nil fun H4 s4 => ⟨(s2.trans s3).trans s4, sH.trans ((s2.trans s3).trans s4), fv, _, _, rfl, ?_⟩) sc_least_meeting.nd
          rw [et, lcond_t hb]
          exact Mon.mono _ _ _ (s3.trans s4) hfv
        · refine xs_nil fun H3 s3 => xs_nil fun H4 s4 => ⟨(s2.trans s3).trans s4, sH.trans ((s2.trans s3).trans s4), lv, _, _, rfl, ?_⟩
          rw [et, lcond_f hb]
          exact Mon.mono _ _ _ (s3.trans s4) hlv2
  · obtain ⟨sH, lv, u4, u5, rfl, hlv⟩ := hS
    rw [lenH, List.take_length] at hlv
    exact xs_ret (R := MeetR W (leastK t w f)) ((xe_var 3 rfl).is fun H3 s3 => Mon.mono _ _ _ s3 hlv) fun v H1 s1 r => ⟨sH.trans s1, r⟩
/-! ### Ways(Single(tool)) -/
structure Steps1 (W : Wd) : Prop where
  st : ∀ t : LT, t.ok → t.marks.length ≤ 20 → StepsW W (cSingle W) (singleS t) (SAs W t) (okS t) (univS t)
  sing : Mak W 1 "Single" (cSingle W) (Init (cSingle W) (preSingle W))
  ways : Mak W 7 "Ways" (cWays W) (Init (cWays W) (preWays W))
def SinR (W : Wd) (t : LT) : VP := fun v H => ∃ st, v = .ref st ∧ SAs W t st H
instance (W : Wd) (t : LT) : Mon (SinR W t) := ⟨fun v H H' e ⟨st, h1, h2⟩ => ⟨st, h1, h2.mono e⟩⟩
theorem xe_waysS {X : Cx} {e : Expr} {σ : St} {H : Hp} {p1 p2 p3 p4 : Pos} {j : Nat} {t : LT} {a : Addr} (T : Steps1 (wd X)) (hr : Room j X.A) (he : XV X e σ H (.ref a)) (ht : ToolA (wd X) t a H) (hok : t.ok) (hm : t.marks.length ≤ 20) (hk : 8 ≤ j := by decide) (hg1 : Gl X "Ways" := by rfl) (hg2 : Gl X "Single" := by rfl)
    (s1 : starEach [.Call (.Name "Single" p3) [e] [] p4] X.env = (false, eval (.Call (.Name "Single" p3) [e] [] p4) X.env) :: starEach [] X.env := by rfl) (s2 : starEach [e] X.env = (false, eval e X.env) :: starEach [] X.env := by rfl) (hp1 : (backTo p2 (starEach [] X.env)).any (·.1) = false := by rfl) (hp2 : (backTo p4 (starEach [] X.env)).any (·.1) = false := by rfl) :
    XE X (.Call (.Name "Ways" p1) [.Call (.Name "Single" p3) [e] [] p4] [] p2) σ H (WaysR (wd X) (theWays (singleS t)) (okS t)) :=
  XE.imp (xe_make (F := fun fs H' => ∃ w, WaysP (singleS t) w ∧ WaysF (wd X) w (okS t) fs H') T.ways hr (xa_cons (R := SinR (wd X) t) (XE.imp (xe_make (F := fun fs H' => ∃ b, fs = singleFs a b ∧ SqT X.K H' b [.str t.blank, .bl false]) T.sing hr (xa_cons (R := Is (.ref a)) he xa_nil s2) (fun vs H1 s1 r => by
    obtain ⟨v, rfl, hv⟩ := allR1 r
    cases hv
    exact ⟨t, a, rfl, ht.mono s1, rfl⟩) (Nat.le_trans (by decide) hk) hg2 (by decide) s2 hp2) fun v H1 s1 ⟨st, dx, fs, e1, h1, b, hb, h2⟩ => ⟨st, e1, dx, a, b, by rw [← hb]; exact h1, ht.mono s1, h2⟩) xa_nil s1) (fun vs H1 s1 r => by
    obtain ⟨v, rfl, st, rfl, hs⟩ := allR1 r
    exact ⟨st, _, _, _, _, _, rfl, T.st t hok hm, hs, rfl⟩) hk hg1 (by decide) s1 hp1) fun v H1 _ ⟨a, dx, fs, h1, h2, w, hw, h3⟩ => ⟨a, dx, fs, h1, h2, by rw [← hw.the]; exact h3⟩
/-! ### faults, fewest -/
noncomputable def faultsK (t : LT) : List Str := lFAULTS.filter fun f => (leastK t (theWays (singleS t)) f).isSome
def preFaults (W : Wd) : List V → Hp → VP → Prop := fun vs H R => ∃ (t : LT) (a : Addr), vs = [.ref a] ∧ ToolA W t a H ∧ t.ok ∧ t.marks.length ≤ 20 ∧ R = TupV ((faultsK t).map V.str)
theorem meet_isSome {k : Option Nat} {v : V} {H : Hp} (h : MeetR W k v H) : decide (v = .non) = !k.isSome := by
  cases k with
  | none => cases h; rfl
  | some n => rw [meet_ne h]; rfl
theorem cal_faults (B : Blt W) (Wo : Words W) (T : Steps1 W) (c1 : Cal W 6 "least_meeting" (Pure (preLeast W))) (A : DefAt W "faults" s_faults ["tool"]) : Cal W 9 "faults" (Pure (preFaults W)) := by
  refine cal_pure A sc_faults (fun vs H R h => by obtain ⟨_, _, rfl, _⟩ := h; rfl) fun f0 cdv A outer s H vs R E hr h => ?_
  obtain ⟨t, a, rfl, ht, hok, hm, rfl⟩ := h
  obtain ⟨fa, hfa, hfq, _⟩ := Wo.faults.ex
  refine xs_set (R := WaysR W (theWays (singleS t)) (okS t)) 1 (xe_waysS T hr (xe_var 0 rfl) ht hok hm) (fun v H1 s1 hv => ?_) sc_faults.nd
  obtain ⟨wy, dw, fs, rfl, hw, hwf⟩ := hv
  refine xs_ret (R := TupV ((faultsK t).map V.str)) (xe_tupleL B.tuple (xe_lcKeep (own := [("fault", 2)]) (j := 2) (src := lFAULTS) (enc := V.str) (pp := fun f => (leastK t (theWays (singleS t)) f).isSome) (xe_globR hfa) (.inr (hfq _)) (by decide) sc_faults.nd (blkOk_by (N := n_faults) (sc := defScope s_faults) (by decide +kernel))
    (fun _ _ _ _ _ => pg_name (i := 2) sc_faults.nd rfl (Or.inl rfl)) (fun _ _ _ _ _ _ _ => xe_var 2 rfl) fun f G' hf e1 s0 H0 C cl fp => ?_)) fun v H2 s2 r => ⟨s1.trans s2, r⟩
  exact XT.cast (xt_notNR (k0 := !(leastK t (theWays (singleS t)) f).isSome) (Ra := MeetR W (leastK t (theWays (singleS t)) f)) (xe_call3 c1 hr (xe_var 0 rfl) (xe_var 1 rfl) (xe_var 2 rfl) fun H3 s3 => ⟨t, theWays (singleS t), a, wy, f, rfl, hok, ht.mono ((s1.trans e1).trans s3), ⟨dw, fs, (e1.trans s3) _ _ hw, hwf.mono (e1.trans s3)⟩, rfl⟩) fun x H1 r => meet_isSome r) (by simp)
def preNeedFault : List V → Hp → VP → Prop := fun vs H R => ∃ f : Str, vs = [.str f] ∧ f ∈ lFAULTS ∧ R = Is .non
theorem cal_need_fault (B : Blt W) (Wo : Words W) (A : DefAt W "need_fault" s_need_fault ["fault"]) : Cal W 1 "need_fault" (Pure preNeedFault) := by
  refine cal_pure A sc_need_fault (fun vs H R h => by obtain ⟨_, rfl, _⟩ := h; rfl) fun f0 cdv A outer s H vs R E hr h => ?_
  obtain ⟨f, rfl, hf, rfl⟩ := h
  obtain ⟨fa, hfa, hfq, _⟩ := Wo.faults.ex
  refine xs_ifF (XT.cast (XW.t (xw_or (p := false) (q := false) (XT.cast (xt_not (xt_val (xe_isStr B.isi B.str (xe_var 0 rfl)))) rfl) fun _ => xw_or1 (XT.cast (xt_cmp op_notIn_seq (xe_var 0 rfl) (xe_globR hfa) (rv_ninS (.inr (hfq _))) rfl) (by rw [decide_eq_true hf]; rfl)))) rfl) ?_
  exact xs_nil fun H1 s1 => ⟨s1, rfl⟩
def OptR : Option Nat → VP
  | none => Is .non
  | some n => Is (.int n)
def preFewest (W : Wd) : List V → Hp → VP → Prop := fun vs H R => ∃ (t : LT) (a : Addr) (f : Str), vs = [.ref a, .str f] ∧ ToolA W t a H ∧ t.ok ∧ t.marks.length ≤ 20 ∧ f ∈ lFAULTS ∧ R = OptR (leastK t (theWays (singleS t)) f)
theorem cal_fewest (MC : MeetC W) (T : Steps1 W) (c0 : Cal W 1 "need_fault" (Pure preNeedFault)) (c1 : Cal W 6 "least_meeting" (Pure (preLeast W))) (A : DefAt W "fewest" s_fewest ["tool", "fault"]) : Cal W 9 "fewest" (Pure (preFewest W)) := by
  refine cal_pure A sc_fewest (fun vs H R h => by obtain ⟨_, _, _, rfl, _⟩ := h; rfl) fun f0 cdv A outer s H vs R E hr h => ?_
  obtain ⟨t, a, f, rfl, ht, hok, hm, hf, rfl⟩ := h
  refine xs_expr (R := Is .non) (xe_call1 c0 hr (xe_var 1 rfl) fun H1 _ => ⟨f, rfl, hf, rfl⟩) fun _ H1 s1 _ => ?_
  refine xs_set (R := MeetR W (leastK t (theWays (singleS t)) f)) 2 (xe_call c1 hr (xa_cons (R := Is (.ref a)) (xe_var 0 rfl) (xa_cons (R := WaysR W (theWays (singleS t)) (okS t)) (xe_waysS T hr (xe_var 0 rfl) (ht.mono s1) hok hm) (xa_cons (R := Is (.str f)) (xe_var 1 rfl) xa_nil))) fun vs H2 s2 hvs => ?_) (fun v H2 s2 hv => ?_) sc_fewest.nd
  · obtain ⟨_, _, _, rfl, q1, ⟨wy, dw, fs, rfl, hw, hwf⟩, q3⟩ := allR3 hvs
    cases q1; cases q3
    exact ⟨t, theWays (singleS t), a, wy, f, rfl, hok, ht.mono (s1.trans s2), ⟨dw, fs, hw, hwf⟩, rfl⟩
  · refine xs_ret (R := OptR (leastK t (theWays (singleS t)) f)) ?_ fun v H3 s3 r => ⟨(s1.trans s2).trans s3, r⟩
    cases hk : leastK t (theWays (singleS t)) f with
    | none =>
      rw [hk] at hv
      cases hv
      exact xe_if (p := true) (xt_isN (x := .non) (xe_var 2 rfl)) (fun _ => xe_non) fun q => nomatch q
    | some n =>
      rw [hk] at hv
      exact xe_if (p := false) (xt_isNR (k0 := false) (Ra := MeetR W (some n)) ((xe_var 2 rfl).is fun H3 s3 => Mon.mono _ _ _ s3 hv) fun x H1 r => meet_ne r) (fun q => nomatch q) fun _ => xe_meetH MC (xe_var 2 rfl) hv
end
end LM

set_option maxHeartbeats 400000
namespace LM
open PySem PySem.Spec PyProof.Rows L2
def preParting (W : Wd) : List V → Hp → VP → Prop := fun vs H R => ∃ (p q : LT) (w : WaysD) (a1 a2 wy : Addr), vs = [.ref a1, .ref a2, .ref wy] ∧ p.like q ∧ ToolA W p a1 H ∧ ToolA W q a2 H ∧ (∃ dx fs, H wy = some (.ins (cWays W) dx fs) ∧ WaysF W w (okP p) fs H) ∧ w.hearings.length ≤ 1000 ∧ R = Is .non
section
variable {W : Wd}
theorem cal_least_parting (WC : WaysC W) (c1 : Met W 1 (cTool W) "is_told" (Pure (preTold W))) (A : DefAt W "least_parting" s_least_parting ["p", "q", "ways"]) : Cal W 2 "least_parting" (Pure (preParting W)) := by
  refine cal_pure A sc_least_parting (fun vs H R h => by obtain ⟨_, _, _, _, _, _, rfl, _⟩ := h; rfl) fun f0 cdv A outer s H vs R E hr h => ?_
  obtain ⟨p, q, w, a1, a2, wy, rfl, L, h1, h2, ⟨dw, fs, hw, hwf⟩, hlen, rfl⟩ := h
  obtain ⟨st, m, c, hh, el, mes, ces, hes, rfl, hm, hc, hcv, hhe, hkm, hkc, hkh, om, oc, oh, nh, nm⟩ := id hwf
  have hheX : FTd (cx W n_least_parting "least_parting" s_least_parting f0 cdv A outer s H E) H hh hes := hhe
  have lenH : hes.length = w.hearings.length := by
    have := congrArg List.length hkh
    unfold valsT encH at this
    rwa [List.length_map, List.length_map] at this
  refine XL.set (i := 3) (R := LstR ((hes.filter fun _ => false).map fun en : Ent => Is (.ref en.2.1))) (xl_lcS (own := [("item", 5)]) (j := 5) (src := hes) (rel := fun en : Ent => Is (.ref en.2.1)) (pp := fun _ => false) (ff := fun en : Ent => Is (.ref en.2.1)) (xi_tk (xe_fld (v := .ref hh) (xe_var 2 rfl) hw WC.cl (WC.na "hearings" (by simp)) rfl) hheX) (fun G2 i H' x H'' hi ⟨e1, en, e2, e3⟩ => ⟨e1, en, e2, e3⟩) (fun _ => inferInstance) (fun _ => inferInstance) (by omega) sc_least_parting.nd (blkOk_by (N := n_least_parting) (sc := defScope s_least_parting) (by decide +kernel))
      (fun _ _ _ _ _ => pg_name (i := 5) sc_least_parting.nd rfl (Or.inl rfl)) (fun en x G' hen e1 hx => ⟨?_, fun q => nomatch q⟩)) rfl rfl (by rfl) fun v H1 s1 hv => ?_
  · intro s0 H0 C cl fp
    cases hx
    have hkey := (hhe.mono e1).2 en hen
    obtain ⟨mk, ex, hmk⟩ := oh en.1 (by unfold keysT; exact List.mem_map.mpr ⟨en, hen, rfl⟩)
    rw [ex] at hkey
    have hkey : SqT W.K G' en.2.1 [.str mk, .str mk] := hkey
    refine XT.cast (xt_cmp (x := .bl (decide (mk ∈ p.told))) (y := .bl (decide (mk ∈ q.told))) op_ne (xe_tool1 c1 hr (xe_var 0 rfl) (h1.mono e1) (xe_ixT (xe_var 5 rfl) xe_int hkey rfl) fun H3 s3 ht3 => ⟨p, a1, mk, rfl, ht3, rfl⟩) (xe_tool1 c1 hr (xe_var 1 rfl) (h2.mono e1) (xe_ixT (xe_var 5 rfl) xe_int hkey rfl) fun H3 s3 ht3 => ⟨q, a2, mk, rfl, ht3, rfl⟩) rv_neB (nomark _)) ?_
    rw [L.told]
    simp
  · have e0 : (hes.filter fun _ => false) = [] := by simp
    rw [e0] at hv
    obtain ⟨l, xs, rfl, hl, hxs⟩ := hv
    have exs : xs = [] := by
      cases xs with
      | nil => rfl
      | cons x r => exact hxs.elim
    subst exs
    refine XL.set (i := 4) (R := LstR (([] : List V).map Is)) (xl_lcM (own := [("item", 5)]) (j := 5) (src := ([] : List V)) (rel := fun v => Is v) (ff := fun v => Is v) (xi_listX (xs := []) (xe_var 3 rfl) (SqL.of hl)) (fun G2 i H' x H'' hi _ => absurd hi (Nat.not_lt_zero i)) (fun _ => inferInstance) (fun _ => inferInstance) (by decide) sc_least_parting.nd (blkOk_by (N := n_least_parting) (sc := defScope s_least_parting) (by decide +kernel))
      (fun _ _ _ _ _ => pg_name (i := 5) sc_least_parting.nd rfl (Or.inl rfl)) (fun en x G' hen e1 hx s0 H0 C cl fp => nomatch hen)) rfl rfl (by rfl) fun v H2 s2 hv => ?_
    refine xs_ret (R := Is .non) (xe_if (p := false) (XT.cast (xt_some (l := []) hr (xe_var 3 rfl) (s2 _ _ hl) trivial fun x hx => nomatch hx) (by rfl)) (fun q => nomatch q) fun _ => xe_non) fun v H3 s3 r => ⟨(s1.trans s2).trans s3, r⟩
structure Steps2 (W : Wd) : Prop where
  st : ∀ p q : LT, p.like q → p.ok → q.ok → p.marks.length ≤ 20 → StepsW W (cPair W) (pairS p) (SAp W p q) (okP p) (univP p)
  pair : Mak W 1 "Pair" (cPair W) (Init (cPair W) (prePair W))
  ways : Mak W 7 "Ways" (cWays W) (Init (cWays W) (preWays W))
def PairR (W : Wd) (p q : LT) : VP := fun v H => ∃ st, v = .ref st ∧ SAp W p q st H
instance (W : Wd) (p q : LT) : Mon (PairR W p q) := ⟨fun v H H' e ⟨st, h1, h2⟩ => ⟨st, h1, h2.mono e⟩⟩
def WaysP2 (W : Wd) (p : LT) : VP := fun v H => ∃ wy dx fs w, v = .ref wy ∧ H wy = some (.ins (cWays W) dx fs) ∧ WaysF W w (okP p) fs H
instance (W : Wd) (p : LT) : Mon (WaysP2 W p) := ⟨fun v H H' e ⟨wy, dx, fs, w, h1, h2, h3⟩ => ⟨wy, dx, fs, w, h1, e _ _ h2, h3.mono e⟩⟩
def preAlike (W : Wd) : List V → Hp → VP → Prop := fun vs H R => ∃ (p q : LT) (a1 a2 : Addr), vs = [.ref a1, .ref a2] ∧ p.like q ∧ p.ok ∧ q.ok ∧ p.marks.length ≤ 20 ∧ ToolA W p a1 H ∧ ToolA W q a2 H ∧ R = Is (.bl true)
theorem ways_len {w : WaysD} {ok : It2 → Prop} {fs : List (Str × V)} {H : Hp} {U : List It2} (h : WaysF W w ok fs H) (hU : ∀ x, ok x → x ∈ U) : w.hearings.length ≤ U.length ∧ w.machine.length ≤ U.length := by
  obtain ⟨st, m, c, hh, el, mes, ces, hes, rfl, hm, hc, hcv, hhe, hkm, hkc, hkh, om, oc, oh, nh, nm⟩ := h
  have lenH : hes.length = w.hearings.length := by
    have := congrArg List.length hkh
    unfold valsT encH at this
    rwa [List.length_map, List.length_map] at this
  refine ⟨?_, nodup_len nm fun x hx => hU x (om x hx)⟩
  have := nodup_len nh fun x hx => hU x (oh x hx)
  rw [keysT_len] at this
  omega
theorem cal_alike (T : Steps2 W) (c1 : Cal W 2 "least_parting" (Pure (preParting W))) (A : DefAt W "alike" s_alike ["p", "q"]) : Cal W 9 "alike" (Pure (preAlike W)) := by
  refine cal_pure A sc_alike (fun vs H R h => by obtain ⟨_, _, _, _, rfl, _⟩ := h; rfl) fun f0 cdv A outer s H vs R E hr h => ?_
  obtain ⟨p, q, a1, a2, rfl, L, op, oq, hm, h1, h2, rfl⟩ := h
  refine xs_ret (R := Is (.bl true)) (xe_isNR (k0 := true) (Ra := Is .non) (xe_call c1 hr (xa_cons (R := Is (.ref a1)) (xe_var 0 rfl) (xa_cons (R := Is (.ref a2)) (xe_var 1 rfl) (xa_cons (R := WaysP2 W p) ?_ xa_nil))) fun vs H2 s2 hvs => ?_) fun x H1 r => by cases r; rfl) fun v H3 s3 r => ⟨s3, r⟩
  · refine XE.imp (xe_make (Rs := [PairR W p q]) (F := fun fs H' => ∃ w, WaysP (pairS p) w ∧ WaysF W w (okP p) fs H') T.ways hr (xa_cons (R := PairR W p q) (XE.imp (xe_make (Rs := [Is (.ref a1), Is (.ref a2)]) (F := fun fs H' => ∃ T b, fs = pairFs T b ∧ SqT W.K H' T [.ref a1, .ref a2] ∧ SqT W.K H' b [.str p.blank, .str p.blank]) T.pair hr (xa_cons (xe_var 0 rfl) (xa_cons (xe_var 1 rfl) xa_nil)) fun vs H1 s1 r => ?_) fun v H1 s1 r => ?_) xa_nil) fun vs H1 s1 r => ?_) fun v H1 _ r => ?_
    · obtain ⟨_, _, rfl, q1, q2⟩ := allR2 r
      cases q1; cases q2
      exact ⟨p, q, a1, a2, rfl, h1.mono s1, h2.mono s1, L.blank, rfl⟩
    · obtain ⟨st, dx, fs, e1, i1, TT, b, rfl, hT, hb⟩ := r
      exact ⟨st, e1, dx, TT, a1, a2, b, i1, hT, h1.mono s1, h2.mono s1, hb⟩
    · obtain ⟨v, rfl, st, rfl, hs⟩ := allR1 r
      exact ⟨st, _, _, _, _, _, rfl, T.st p q L op oq hm, hs, rfl⟩
    · obtain ⟨a, dx, fs, i1, i2, w, _, i3⟩ := r
      exact ⟨a, dx, fs, w, i1, i2, i3⟩
  · obtain ⟨_, _, _, rfl, q1, q2, wy, dx, fs, w, rfl, i2, i3⟩ := allR3 hvs
    cases q1; cases q2
    refine ⟨p, q, w, a1, a2, wy, rfl, L, h1.mono s2, h2.mono s2, ⟨dx, fs, i2, i3⟩, ?_, rfl⟩
    have := (ways_len i3 fun x hx => okP_univ hx).1
    unfold univP at this
    rw [List.length_map] at this
    omega
end
end LM

set_option maxHeartbeats 400000
/-! plain: tools stay well made -/
namespace LM
open PySem L2
theorem LT.norm_ok {t : LT} (h : t.ok) : t.norm.ok where
  ne := h.ne
  few := h.few
  names := h.names
  nd := h.nd
  told := fun m hm => h.told m (of_decide_eq_true (List.mem_filter.mp hm).2)
  toldNd := h.nd.sublist List.filter_sublist
  parts := fun p hp => (List.mem_filter.mp hp).1
  partsNd := (show lPARTS.Nodup by decide +kernel).sublist List.filter_sublist
  own := List.mem_filter.mpr ⟨by decide +kernel, decide_eq_true h.own⟩
  rows := h.rows
  rowsFew := h.rowsFew
  inM := h.inM
  blank := h.blank
theorem LT.rows_ok {t : LT} (h : t.ok) {rs : List LR} (h1 : ∀ r ∈ rs, ∃ r0 ∈ t.rows, (r0.ok → r.ok) ∧ (∀ n ∈ r.names, n ∈ r0.names) ∧ isLeadB t.blank r = isLeadB t.blank r0) (h2 : rs.length ≤ t.rows.length) : ({ t with rows := rs } : LT).ok where
  ne := h.ne
  few := h.few
  names := h.names
  nd := h.nd
  told := h.told
  toldNd := h.toldNd
  parts := h.parts
  partsNd := h.partsNd
  own := h.own
  rows := fun r hr => let ⟨r0, h0, a, _, _⟩ := h1 r hr; a (h.rows r0 h0)
  rowsFew := Nat.le_trans h2 h.rowsFew
  inM := fun r hr n hn => let ⟨r0, h0, _, b, _⟩ := h1 r hr; h.inM r0 h0 n (b n hn)
  blank := fun r hr => let ⟨r0, h0, _, _, c⟩ := h1 r hr; by
    show isLeadB t.blank r = false
    rw [c]; exact h.blank r0 h0
theorem LT.without_ok {t : LT} (h : t.ok) (i : Nat) : (t.without i).ok := LT.rows_ok h (fun r hr => ⟨r, by
    rcases List.mem_append.mp hr with q | q
    · exact List.mem_of_mem_take q
    · exact List.mem_of_mem_drop q, fun a => a, fun _ a => a, rfl⟩) (by rw [List.length_append, List.length_take, List.length_drop]; omega)
theorem heedRow_lead {ps ts : List Str} {o t : Str} : heedRow ps (.lead ts o t) = if (ts.any fun x => decide (x = partOf x) && !decide (x ∈ ps)) = true then none else some (.lead (ts.filter fun x => decide (partOf x ∈ ps)) o t) := rfl
theorem heedRow_leadS {ps ts : List Str} {o t : Str} {r' : LR} (h : heedRow ps (.lead ts o t) = some r') : r' = .lead (ts.filter fun x => decide (partOf x ∈ ps)) o t := by
  rw [heedRow_lead] at h
  by_cases c : (ts.any fun x => decide (x = partOf x) && !decide (x ∈ ps)) = true
  · rw [if_pos c] at h; cases h
  · rw [if_neg c] at h; exact (Option.some.inj h).symm
theorem heedRow_some {ps : List Str} {r r' : LR} (h : heedRow ps r = some r') : (r.ok → r'.ok) ∧ r'.names = r.names ∧ ∀ b, isLeadB b r' = isLeadB b r := by
  cases r with
  | run o t => cases h; exact ⟨fun a => a, rfl, fun _ => rfl⟩
  | join a c t => cases h; exact ⟨fun a => a, rfl, fun _ => rfl⟩
  | lead ts o t =>
    rw [heedRow_leadS h]
    exact ⟨fun a => lead_ok_filter a, rfl, fun _ => rfl⟩
theorem LT.heeding_ok {t : LT} (h : t.ok) (ps : List Str) : (t.heeding ps).ok := LT.rows_ok h (fun r hr => by
    obtain ⟨r0, h0, e⟩ := List.mem_filterMap.mp hr
    obtain ⟨a, b, c⟩ := heedRow_some e
    exact ⟨r0, h0, a, fun n hn => by rw [← b]; exact hn, c _⟩) (List.length_filterMap_le _ _)
theorem heedRow_short {ps : List Str} {r r' : LR} (h : heedRow ps r = some r') (hs : r.short) : r'.short := by
  cases r with
  | run o t => cases h; exact hs
  | join a c t => cases h; exact hs
  | lead ts o t =>
    rw [heedRow_leadS h]
    exact ⟨Nat.le_trans (List.length_filter_le _ _) hs.1, fun x hx => hs.2.1 x (List.mem_filter.mp hx).1, hs.2.2⟩
theorem LT.norm_small {t : LT} (h : t.small) : t.norm.small where
  marks := h.marks
  mlen := h.mlen
  told := Nat.le_trans (List.length_filter_le _ _) h.marks
  tlen := fun m hm => h.mlen m (List.mem_filter.mp hm).1
  parts := Nat.le_trans (List.length_filter_le _ _) (by decide)
  plen := fun p hp => by
    have : ∀ p ∈ lPARTS, p.length ≤ 100 := by decide +kernel
    exact this p (List.mem_filter.mp hp).1
  rows := h.rows
  short := h.short
theorem LT.without_small {t : LT} (h : t.small) (i : Nat) : (t.without i).small where
  marks := h.marks
  mlen := h.mlen
  told := h.told
  tlen := h.tlen
  parts := h.parts
  plen := h.plen
  rows := by
    have := h.rows
    show (t.rows.take i ++ t.rows.drop (i + 1)).length ≤ 40
    rw [List.length_append, List.length_take, List.length_drop]
    omega
  short := fun r hr => h.short r (by
    rcases List.mem_append.mp hr with q | q
    · exact List.mem_of_mem_take q
    · exact List.mem_of_mem_drop q)
theorem LT.heeding_small {t : LT} (h : t.small) (ps : List Str) : (t.heeding ps).small where
  marks := h.marks
  mlen := h.mlen
  told := h.told
  tlen := h.tlen
  parts := h.parts
  plen := h.plen
  rows := Nat.le_trans (List.length_filterMap_le _ _) h.rows
  short := fun r hr => by
    obtain ⟨r0, h0, e⟩ := List.mem_filterMap.mp hr
    exact heedRow_short e (h.short r0 h0)
end LM

set_option maxHeartbeats 400000
namespace LM
open PySem PySem.Spec PyProof.Rows L2
/-! ### equality of data, whole -/
theorem rv_eqDt {K : PySem.W.Frag} {H : Hp} {x y : V} {d d' : PyData} (h1 : Dp K H x d) (h2 : Dp K H y d') (s1 : SeqAt.shaped d = true) (s2 : SeqAt.shaped d' = true) : RV (rEqD K) x y H (Is (.bl (PyData.eqv d d'))) := fun H1 e Q k => ⟨d, d', Dp.mono e h1, Dp.mono e h2, s1, s2, k _ H1 (Same.refl _) rfl⟩
theorem rv_neDt {K : PySem.W.Frag} {H : Hp} {x y : V} {d d' : PyData} (h1 : Dp K H x d) (h2 : Dp K H y d') (s1 : SeqAt.shaped d = true) (s2 : SeqAt.shaped d' = true) : RV (rNeD K) x y H (Is (.bl (!PyData.eqv d d'))) := fun H1 e Q k => ⟨d, d', Dp.mono e h1, Dp.mono e h2, s1, s2, k _ H1 (Same.refl _) rfl⟩
theorem eqvAll_strs : ∀ (ss zs : List Str), PyData.eqvAll (ss.map .str) (zs.map .str) = decide (ss = zs)
  | [], [] => rfl
  | [], _ :: _ => rfl
  | _ :: _, [] => rfl
  | s :: ss, z :: zs => by
    have ih := eqvAll_strs ss zs
    show (PyData.eqv (.str s) (.str z) && PyData.eqvAll (ss.map .str) (zs.map .str)) = _
    rw [ih]
    show ((s == z) && decide (ss = zs)) = _
    by_cases h : s = z
    · subst h; simp
    · have : (s == z) = false := beq_eq_false_iff_ne.mpr h
      rw [this, decide_eq_false (fun e => h (List.cons.inj e).1)]
      rfl
theorem lay_strs : ∀ (ss : List Str), (∀ s ∈ ss, PyData.strOk s = true) → PyData.canLayAll0 (ss.map .str) = true
  | [], _ => rfl
  | s :: r, h => by
    simp only [List.map_cons, PyData.canLayAll0, PyData.canLay0, h s (by simp), lay_strs r fun x hx => h x (by simp [hx]), Bool.and_self]
theorem depth_strs : ∀ (ss : List Str), PyData.depthAll (ss.map .str) ≤ 1
  | [] => by simp [PyData.depthAll]
  | s :: r => by
    have := depth_strs r
    simp only [List.map_cons, PyData.depthAll, PyData.depth]
    omega
theorem shaped_strsL {ss : List Str} (h : ∀ s ∈ ss, PyData.strOk s = true) : SeqAt.shaped (.list (ss.map .str)) = true := by
  unfold SeqAt.shaped
  rw [Bool.and_eq_true]
  refine ⟨by simp only [PyData.canLay0, lay_strs ss h], decide_eq_true (Nat.le_trans (m := 2) ?_ (by decide))⟩
  have := depth_strs ss
  simp only [PyData.depth]
  omega
theorem shaped_strsT {ss : List Str} (h : ∀ s ∈ ss, PyData.strOk s = true) : SeqAt.shaped (.tuple (ss.map .str)) = true := by
  unfold SeqAt.shaped
  rw [Bool.and_eq_true]
  refine ⟨by simp only [PyData.canLay0, lay_strs ss h], decide_eq_true (Nat.le_trans (m := 2) ?_ (by decide))⟩
  have := depth_strs ss
  simp only [PyData.depth]
  omega
theorem dp_strsL {K : PySem.W.Frag} {H : Hp} {a : Addr} {ss : List Str} (h : SqL K H a (ss.map V.str)) : Dp K H (.ref a) (.list (ss.map .str)) := .lst h (DpAll.strs ss)
theorem dp_strsT {K : PySem.W.Frag} {H : Hp} {a : Addr} {ss : List Str} (h : SqT K H a (ss.map V.str)) : Dp K H (.ref a) (.tuple (ss.map .str)) := .tup h (DpAll.strs ss)
theorem faults_strOk : ∀ f ∈ lFAULTS, PyData.strOk f = true := by decide +kernel
/-! ### need_all, happening -/
def preNeedAll (W : Wd) : List V → Hp → VP → Prop := fun vs H R => ∃ (aw : Addr) (ws : List Str), vs = [.ref aw] ∧ H aw = some (.lst (ws.map V.str)) ∧ (∀ f ∈ ws, f ∈ lFAULTS) ∧ R = Is .non
noncomputable def happK (t : LT) (ws : List Str) : List Str := (faultsK t).filter fun f => decide (f ∈ ws)
theorem happ_strOk {t : LT} {ws : List Str} : ∀ f ∈ happK t ws, PyData.strOk f = true := fun f hf => faults_strOk f (List.mem_filter.mp (List.mem_filter.mp hf).1).1
def preHapp (W : Wd) : List V → Hp → VP → Prop := fun vs H R => ∃ (t : LT) (a aw : Addr) (ws : List Str), vs = [.ref a, .ref aw] ∧ ToolA W t a H ∧ t.ok ∧ t.marks.length ≤ 20 ∧ H aw = some (.lst (ws.map V.str)) ∧ R = LstV ((happK t ws).map V.str)
section
variable {W : Wd}
theorem cal_need_all (c1 : Cal W 1 "need_fault" (Pure preNeedFault)) (A : DefAt W "need_all" s_need_all ["wanted"]) : Cal W 2 "need_all" (Pure (preNeedAll W)) := by
  refine cal_pure A sc_need_all (fun vs H R h => by obtain ⟨_, _, rfl, _⟩ := h; rfl) fun f0 cdv A outer s H vs R E hr h => ?_
  obtain ⟨aw, ws, rfl, hw, hf, rfl⟩ := h
  refine xs_each (src := ws) (rel := fun f => Is (.str f)) (j := 1) (XI.len (xi_listX (xe_var 0 rfl) (SqL.of hw)) (by simp)) (fun _ _ _ _ _ _ => ys_X V.str _ _ _ _ _) (fun _ => inferInstance) (pg_name (i := 1) sc_need_all.nd rfl (Or.inl rfl)) (fun _ => True) trivial (fun i f x u G' hi _ e hx => ?_) (fun _ u G' e => xs_nil fun H1 s1 => ⟨e.trans s1, rfl⟩) ⟨_, rfl⟩
  cases hx
  refine xs_expr (R := Is .non) (xe_call1 c1 hr (xe_var 1 rfl) fun H1 _ => ⟨f, rfl, hf f (List.mem_of_getElem? hi), rfl⟩) fun _ H1 s1 _ => xs_nil fun H2 s2 => ⟨trivial, s1.trans s2, _, rfl⟩
theorem cal_happening (B : Blt W) (c1 : Cal W 9 "faults" (Pure (preFaults W))) (A : DefAt W "happening" s_happening ["tool", "wanted"]) : Cal W 10 "happening" (Pure (preHapp W)) := by
  refine cal_pure A sc_happening (fun vs H R h => by obtain ⟨_, _, _, _, rfl, _⟩ := h; rfl) fun f0 cdv A outer s H vs R E hr h => ?_
  obtain ⟨t, a, aw, ws, rfl, ht, hok, hm, hw, rfl⟩ := h
  have hlen : (faultsK t).length ≤ 5 := Nat.le_trans (List.length_filter_le _ _) (by decide)
  refine xs_ret (R := LstV ((happK t ws).map V.str)) (XE.vals (g := V.str) (xe_lcS (own := [("fault", 2)]) (j := 2) (src := faultsK t) (rel := fun f => Is (.str f)) (pp := fun f => decide (f ∈ ws)) (ff := fun f => Is (.str f)) (XI.len (xi_tupV (xs := (faultsK t).map V.str) (xe_call1 c1 hr (xe_var 0 rfl) fun H1 s1 => ⟨t, a, rfl, ht.mono s1, hok, hm, rfl⟩)) (by simp)) (fun _ _ _ _ _ _ => ys_X V.str _ _ _ _ _) (fun _ => inferInstance) (fun _ => inferInstance) (by omega) sc_happening.nd (blkOk_by (N := n_happening) (sc := defScope s_happening) (by decide +kernel))
    (fun _ _ _ _ _ => pg_name (i := 2) sc_happening.nd rfl (Or.inl rfl)) (fun f x G' hf e1 hx => ⟨?_, fun _ s0 H0 C cl fp => ?_⟩))) fun v H1 s1 r => ⟨s1, r⟩
  · intro s0 H0 C cl fp
    cases hx
    exact xt_cmp op_in_seq (xe_var 2 rfl) (xe_var 1 rfl) (rv_inS (.inl (SqL.of (e1 _ _ hw)))) rfl
  · cases hx
    exact xe_var 2 rfl
/-! ### choices -/
def choL : Nat → List (List Str × Nat)
  | 0 => [([], 0)]
  | k + 1 => (choL k).flatMap fun c => ((List.range (3 - c.2)).map (c.2 + ·)).map fun a => (c.1 ++ [lPARTS.getD a ""], a + 1)
def ChoR (K : PySem.W.Frag) (c : List Str × Nat) : VP := fun v H => ∃ T S, v = .ref T ∧ SqT K H T [.ref S, .int c.2] ∧ H S = some (.tup (c.1.map V.str))
instance (K : PySem.W.Frag) (c : List Str × Nat) : Mon (ChoR K c) := ⟨fun v H H' e ⟨T, S, h1, h2, h3⟩ => ⟨T, S, h1, st_mono e h2, e _ _ h3⟩⟩
theorem cho_bound : ∀ k, k ≤ 3 → ∀ c ∈ choL k, c.2 ≤ 3 ∧ c.1.length ≤ 3 := by
  intro k hk
  match k, hk with
  | 0, _ => decide +kernel
  | 1, _ => decide +kernel
  | 2, _ => decide +kernel
  | 3, _ => decide +kernel
theorem cho_len : ∀ k, k ≤ 3 → (choL k).length ≤ 100 := by
  intro k hk
  match k, hk with
  | 0, _ => decide +kernel
  | 1, _ => decide +kernel
  | 2, _ => decide +kernel
  | 3, _ => decide +kernel
def preChoices (W : Wd) : List V → Hp → VP → Prop := fun vs H R => ∃ k : Nat, vs = [.int k] ∧ k ≤ 3 ∧ R = LstR ((choL k).map fun c => TupV (c.1.map V.str))
theorem cal_choices (B : Blt W) (Wo : Words W) (A : DefAt W "choices" s_choices ["many"]) : Cal W 1 "choices" (Pure (preChoices W)) := by
  refine cal_pure A sc_choices (fun vs H R h => by obtain ⟨_, rfl, _⟩ := h; rfl) fun f0 cdv A outer s H vs R E hr h => ?_
  obtain ⟨k, rfl, hk, rfl⟩ := h
  obtain ⟨pa, hpa, hpq, _⟩ := Wo.parts.ex
  refine xs_set (R := LstR ((choL 0).map (ChoR W.K))) 1 (XE.imp (xe_lst (Rs := [TupR [TupR [], Is (.int 0)]]) (xa_cons (m := ⟨fun v H H' e ⟨a, ys, h1, h2, h3⟩ => ⟨a, ys, h1, e _ _ h2, AllR.mono (.cons ⟨fun v H H' e ⟨a, ys, h1, h2, h3⟩ => ⟨a, ys, h1, e _ _ h2, AllR.mono .nil e h3⟩⟩ (.cons inferInstance .nil)) e h3⟩⟩) (xe_tup (Rs := [TupR [], Is (.int 0)]) (xa_cons (m := ⟨fun v H H' e ⟨a, ys, h1, h2, h3⟩ => ⟨a, ys, h1, e _ _ h2, AllR.mono .nil e h3⟩⟩) (xe_tup (Rs := []) xa_nil (by simp)) (xa_cons xe_int xa_nil)) (by simp)) xa_nil) (by simp)) fun v H2 _ r => ?_) (fun v H1 s1 hv => ?_) sc_choices.nd
  · obtain ⟨l, xs, rfl, hl, hxs⟩ := r
    obtain ⟨x, rfl, T, ys, rfl, hT, hys⟩ := allR1 hxs
    obtain ⟨y, z, rfl, ⟨S, zs, rfl, hS, hzs⟩, hz⟩ := allR2 hys
    cases hz
    have : zs = [] := by
      cases zs with
      | nil => rfl
      | cons q r => exact hzs.elim
    subst this
    exact ⟨l, _, rfl, hl, ⟨T, S, rfl, SqT.of hT, hS⟩, trivial⟩
  · obtain ⟨l, xs, rfl, hl, hxs⟩ := hv
    refine xs_forR (n := (k : Int)) (i0 := 2) B.range (xe_var 0 rfl) (by omega) (pg_name (i := 2) sc_choices.nd rfl (Or.inl rfl))
      (fun i σ' H' => Same H H' ∧ ∃ l xs u2 u3 u4 u5, σ' = [some (.int k), some (.ref l), u2, u3, u4, u5] ∧ H' l = some (.lst xs) ∧ AllR ((choL i).map (ChoR W.K)) xs H') (fun H2 s2 => ⟨s1.trans s2, l, xs, _, _, _, _, rfl, s2 _ _ hl, AllR.mono (monL_map (fun _ => inferInstance) _) s2 hxs⟩) (fun i σ' H' hi hP => ?_) (fun σ' H' hP => ?_)
    · obtain ⟨sH, l, xs, u2, u3, u4, u5, rfl, hl, hxs⟩ := hP
      have hi3 : i < 3 := by omega
      have hb := cho_bound i (by omega)
      refine XL.set (i := 1) (R := LstR ((choL i).flatMap fun c => ((List.range (3 - c.2)).map (c.2 + ·)).map fun a => ChoR W.K (c.1 ++ [lPARTS.getD a ""], a + 1))) (xl_lc2 (own := [("some", 3), ("begin", 4), ("at", 5)]) (vs1 := [5]) (j1 := 5) (g := g2 W.K 3 4) (src := choL i) (rel := ChoR W.K) (Y2 := fun c => YI (c.2 : Int)) (src2 := fun c => (List.range (3 - c.2)).map (c.2 + ·)) (rel2 := fun c a => Is (.int (a : Nat))) (ff := fun c a => ChoR W.K (c.1 ++ [lPARTS.getD a ""], a + 1))
        (XI.len (xi_list (Rs := (choL i).map (ChoR W.K)) ((xe_var 1 rfl).is fun H2 e2 => ⟨l, xs, rfl, SqL.of (e2 _ _ hl), AllR.mono (monL_map (fun _ => inferInstance) _) e2 hxs⟩)) (by simp)) (fun _ _ _ _ _ _ => ys_R _ _ _ _ _) (fun _ => inferInstance) (fun c G2 j H' x H'' hj y => ⟨y.1, c.2 + j, ?_, by rw [y.2]; rfl⟩) (fun _ _ => inferInstance) (fun _ _ => inferInstance) ?_ sc_choices.nd (blkOk_by (N := n_choices) (sc := defScope s_choices) (by decide +kernel)) (fun i hi => by simp at hi; subst hi; simp)
        (fun _ _ _ _ _ => pg_2 rfl sc_choices.nd rfl rfl (Or.inl rfl) (Or.inl rfl) (.inr rfl) (.inr rfl)) gmon_2 (fun _ _ _ _ _ => pg_name (i := 5) sc_choices.nd rfl (Or.inl rfl)) (fun c x G' D ys hc e1 hx hD => ?_)) rfl rfl (by rfl) fun v H2 s2 hv => ?_
      · rw [List.length_map, List.length_range] at hj
        rw [List.getElem?_map, List.getElem?_range hj]
        rfl
      · have h1 := cho_len (i + 1) (by omega)
        have : ((choL i).flatMap fun c => (List.range (3 - c.2)).map (c.2 + ·)).length = (choL (i + 1)).length := by
          show _ = ((choL i).flatMap fun c => ((List.range (3 - c.2)).map (c.2 + ·)).map fun a => (c.1 ++ [lPARTS.getD a ""], a + 1)).length
          simp [List.length_flatMap]
        omega
      · obtain ⟨T, S, rfl, hT, hS⟩ := hx
        have hcb := hb c hc
        refine g2_ok (st_mono (upds_ge (fresh1 hD)) hT) ⟨rfl, rfl, fun s0 H0 C cl fp => ?_, fun x => rfl, fun a x1 G4 ha e4 hx1 s0 H0 C cl fp => ?_⟩
        · refine XI.len (xi_range2 B.range (lo := (c.2 : Int)) (n := ((3 : Nat) : Int)) (xe_var 4 rfl) (XE.cast (xe_len B.len (xe_globR hpa) (.inr (hpq _))) (by rfl)) (by omega)) ?_
          rw [List.length_map, List.length_range]
          omega
        · cases hx1
          have ha3 : a < 3 := by
            obtain ⟨q, hq, rfl⟩ := List.mem_map.mp ha
            have := List.mem_range.mp hq
            omega
          have hpart : lPARTS[a]? = some (lPARTS.getD a "") := by
            match a, ha3 with
            | 0, _ => rfl
            | 1, _ => rfl
            | 2, _ => rfl
          refine XE.imp (xe_tup (Rs := [TupR ((c.1.map V.str).map Is ++ [Is (.str (lPARTS.getD a ""))]), Is (.int ((a + 1 : Nat) : Int))]) (xa_cons (m := ?_) (xe_tup (xa_star (Rs' := (c.1.map V.str).map Is) (monL_is _) ((xe_var 3 rfl).is fun H5 e5 => ⟨S, _, rfl, .inl (SqT.of (e5 _ _ (e4 _ _ hS))), allR_isOf _⟩) (xa_cons (xe_ixT (i := (a : Int)) (xe_globR hpa) (xe_var 5 rfl) (hpq _) (atI_nat (v := V.str (lPARTS.getD a "")) (by rw [List.getElem?_map, hpart]; rfl))) xa_nil)) ?_) (xa_cons (XE.cast (xe_op (x := .int (a : Nat)) (y := .int 1) op_add (xe_var 5 rfl) xe_int rv_I0) (by simp)) xa_nil)) (by simp)) fun v H5 _ r => ?_
          · have e : (c.1.map V.str).map Is ++ [Is (.str (lPARTS.getD a ""))] = ((c.1 ++ [lPARTS.getD a ""]).map V.str).map Is := by simp
            rw [e]
            exact ⟨fun v H H' e ⟨a, ys, h1, h2, h3⟩ => ⟨a, ys, h1, e _ _ h2, AllR.mono (monL_is _) e h3⟩⟩
          · rw [List.length_append, List.length_map, List.length_map]
            have := hcb.2
            simp
            omega
          · obtain ⟨T2, ys2, rfl, hT2, hys2⟩ := r
            obtain ⟨y, z, rfl, hy, hz⟩ := allR2 hys2
            cases hz
            have e : (c.1.map V.str).map Is ++ [Is (.str (lPARTS.getD a ""))] = ((c.1 ++ [lPARTS.getD a ""]).map V.str).map Is := by simp
            rw [e] at hy
            obtain ⟨S2, rfl, hS2⟩ := tupR_is hy
            exact ⟨T2, S2, rfl, SqT.of hT2, hS2⟩
      · obtain ⟨l2, xs2, rfl, hl2, hxs2⟩ := hv
        refine xs_nil fun H3 s3 => ⟨sH.trans (s2.trans s3), l2, xs2, _, _, _, _, rfl, s3 _ _ hl2, ?_⟩
        have e : (choL (i + 1)).map (ChoR W.K) = (choL i).flatMap fun c => ((List.range (3 - c.2)).map (c.2 + ·)).map fun a => ChoR W.K (c.1 ++ [lPARTS.getD a ""], a + 1) := by
          show ((choL i).flatMap fun c => ((List.range (3 - c.2)).map (c.2 + ·)).map fun a => (c.1 ++ [lPARTS.getD a ""], a + 1)).map (ChoR W.K) = _
          rw [List.map_flatMap]
          simp only [List.map_map]
          rfl
        have m : MonL ((choL (i + 1)).map (ChoR W.K)) := monL_map (fun _ => inferInstance) _
        rw [← e] at hxs2
        exact AllR.mono m s3 hxs2
    · obtain ⟨sH, l, xs, u2, u3, u4, u5, rfl, hl, hxs⟩ := hP
      have ek : ((k : Int)).toNat = k := by omega
      rw [ek] at hxs
      have hlen := cho_len k hk
      refine xs_ret (R := LstR (keptN (choL k).length (fun _ => true) (fAt (choL k) fun c => TupV (c.1.map V.str)))) (XL.val (xl_lcP (own := [("some", 3), ("begin", 4)]) (ja := 3) (jb := 4) (pp := fun _ => true) (ff := fAt (choL k) fun c => TupV (c.1.map V.str)) (n := (choL k).length) (rel := fun i u v _ H => ∃ c S, (choL k)[i]? = some c ∧ u = .ref S ∧ H S = some (.tup (c.1.map V.str))) (mon_fAt fun _ => inferInstance) (XI.len (xi_list (Rs := (choL k).map (ChoR W.K)) ((xe_var 1 rfl).is fun H2 e2 => ⟨l, xs, rfl, SqL.of (e2 _ _ hl), AllR.mono (monL_map (fun _ => inferInstance) _) e2 hxs⟩)) (by simp)) (fun G2 i H' x H'' hi y => ?_) (by omega) sc_choices.nd (blkOk_by (N := n_choices) (sc := defScope s_choices) (by decide +kernel))
        (fun _ _ _ _ _ => pg_2 rfl sc_choices.nd rfl rfl (Or.inl rfl) (Or.inl rfl) (.inr rfl) (.inr rfl)) (fun i u v x G2 G' hi e1 e2 hr' => ⟨rfl, fun _ s0 H0 C cl fp => ?_⟩))) fun v H2 s2 r => ⟨sH.trans s2, ?_⟩
      · obtain ⟨e1, R, hR, hx⟩ := y
        rw [List.getElem?_map] at hR
        cases hc : (choL k)[i]? with
        | none => rw [hc] at hR; cases hR
        | some c =>
          rw [hc] at hR
          cases hR
          obtain ⟨T, S, rfl, hT, hS⟩ := hx
          exact ⟨T, .ref S, .int c.2, rfl, ⟨c, S, hc, rfl, hS⟩, .inr ⟨e1, hT⟩⟩
      · obtain ⟨c, S, hc, rfl, hS⟩ := hr'
        have e : fAt (choL k) (fun c => TupV (c.1.map V.str)) i = TupV (c.1.map V.str) := by unfold fAt; rw [hc]
        rw [e]
        exact (xe_var 3 rfl).is fun H5 e5 => ⟨S, rfl, e5 _ _ (e2 _ _ hS)⟩
      · have e := keptN_src (fun _ => true) (fun c : List Str × Nat => TupV (c.1.map V.str)) (choL k)
        rw [filter_true] at e
        rw [← e]
        obtain ⟨a, ys, h1, h2, h3⟩ := r
        refine ⟨a, ys, h1, h2, ?_⟩
        have e2 : keptN (choL k).length (pAt (choL k) fun _ => true) (fAt (choL k) fun c => TupV (c.1.map V.str)) = keptN (choL k).length (fun _ => true) (fAt (choL k) fun c => TupV (c.1.map V.str)) := by
          unfold keptN
          congr 1
          apply List.filter_congr
          intro i hi
          have := List.mem_range.mp hi
          unfold pAt
          rw [List.getElem?_eq_getElem this]
        rw [e2]
        exact h3
end
end LM

set_option maxHeartbeats 400000
namespace LM
open PySem PySem.Spec PyProof.Rows L2
theorem room64 {j : Nat} {X : Cx} (hr : Room j X.A) : X.A.units + 64 < cLine := by have := hr.un; omega
noncomputable def hitP (t : LT) (ws : List Str) (s : List Str) : Bool := decide (happK (t.heeding s).norm ws = [])
def allCho : List (List Str) := (List.range 4).flatMap fun k => (choL k).map (·.1)
noncomputable def leastP (t : LT) (ws : List Str) : Option (List Str) := allCho.find? (hitP t ws)
def OptT : Option (List Str) → VP
  | none => Is .non
  | some s => TupV (s.map V.str)
instance (k : Option (List Str)) : Mon (OptT k) := by
  cases k with
  | none => exact inferInstanceAs (Mon (Is .non))
  | some s => exact inferInstanceAs (Mon (TupV _))
theorem find_at {α : Type} {l1 l2 : List α} {a : α} {f : α → Bool} (h1 : l1.any f = false) (ha : f a = true) : (l1 ++ a :: l2).find? f = some a := by
  rw [List.find?_append]
  have : l1.find? f = none := List.find?_eq_none.mpr fun x hx hf => by
    have := List.any_eq_true.mpr ⟨x, hx, hf⟩
    rw [h1] at this; cases this
  rw [this]
  simp [ha]
theorem find_no {α : Type} {l : List α} {f : α → Bool} (h : l.any f = false) : l.find? f = none := List.find?_eq_none.mpr fun x hx hf => by
  have := List.any_eq_true.mpr ⟨x, hx, hf⟩
  rw [h] at this; cases this
def preLeastP (W : Wd) : List V → Hp → VP → Prop := fun vs H R => ∃ (t : LT) (a aw : Addr) (ws : List Str), vs = [.ref a, .ref aw] ∧ ToolA W t a H ∧ t.ok ∧ t.marks.length ≤ 20 ∧ H aw = some (.lst (ws.map V.str)) ∧ (∀ f ∈ ws, f ∈ lFAULTS) ∧ R = OptT (leastP t ws)
noncomputable def needlessK (t : LT) (ws : List Str) : List Nat := (List.range t.rows.length).filter fun i => decide (happK (t.without i).norm ws = happK t ws)
def preNeedless (W : Wd) : List V → Hp → VP → Prop := fun vs H R => ∃ (t : LT) (a aw : Addr) (ws : List Str), vs = [.ref a, .ref aw] ∧ ToolA W t a H ∧ t.ok ∧ t.marks.length ≤ 20 ∧ H aw = some (.lst (ws.map V.str)) ∧ (∀ f ∈ ws, f ∈ lFAULTS) ∧ R = TupV ((needlessK t ws).map fun i => V.int (i : Nat))
theorem eqv_lists {ss zs : List Str} : PyData.eqv (.list (ss.map .str)) (.list (zs.map .str)) = decide (ss = zs) := eqvAll_strs ss zs
section
variable {W : Wd}
/-- a list of faults == another -/
theorem rv_eqL {K : PySem.W.Frag} {H : Hp} {x y : V} {ss zs : List Str} (h1 : LstV (ss.map V.str) x H) (h2 : LstV (zs.map V.str) y H) (s1 : ∀ s ∈ ss, PyData.strOk s = true) (s2 : ∀ s ∈ zs, PyData.strOk s = true) : RV (rEqD K) x y H (Is (.bl (decide (ss = zs)))) := by
  obtain ⟨a, rfl, ha⟩ := h1
  obtain ⟨b, rfl, hb⟩ := h2
  rw [← eqv_lists]
  exact rv_eqDt (dp_strsL (SqL.of ha)) (dp_strsL (SqL.of hb)) (shaped_strsL s1) (shaped_strsL s2)
theorem cal_least_parts (B : Blt W) (Wo : Words W) (TC : ToolC W) (c0 : Cal W 2 "need_all" (Pure (preNeedAll W))) (c1 : Cal W 1 "choices" (Pure (preChoices W))) (c2 : Cal W 10 "happening" (Pure (preHapp W))) (c3 : Met W 7 (cTool W) "heeding" (Pure (preHeeding W))) (A : DefAt W "least_parts" s_least_parts ["tool", "wanted"]) : Cal W 11 "least_parts" (Pure (preLeastP W)) := by
  refine cal_pure A sc_least_parts (fun vs H R h => by obtain ⟨_, _, _, _, rfl, _⟩ := h; rfl) fun f0 cdv A outer s H vs R E hr h => ?_
  obtain ⟨t, a, aw, ws, rfl, ht, hok, hm, hw, hf, rfl⟩ := h
  obtain ⟨pa, hpa, hpq, _⟩ := Wo.parts.ex
  refine xs_expr (R := Is .non) (xe_call1 c0 hr (xe_var 1 rfl) fun H1 s1 => ⟨aw, ws, rfl, s1 _ _ hw, hf, rfl⟩) fun _ H1 s1 _ => ?_
  refine xs_forR (n := (4 : Int)) (i0 := 2) B.range (XE.cast (xe_op (x := .int (3 : Nat)) (y := .int 1) op_add (XE.cast (xe_len B.len (xe_globR hpa) (.inr (hpq _))) (by rfl)) xe_int rv_I0) (by rfl)) (by omega) (pg_name (i := 2) sc_least_parts.nd rfl (Or.inl rfl))
    (fun i σ' H' => Same H H' ∧ ((List.range i).flatMap fun k => (choL k).map (·.1)).any (hitP t ws) = false ∧ ∃ u2 u3, σ' = [some (.ref a), some (.ref aw), u2, u3]) (fun H2 s2 => ⟨s1.trans s2, rfl, _, _, rfl⟩) (fun i σ' H' hi hP => ?_) (fun σ' H' hP => ?_)
  · obtain ⟨sH, hno, u2, u3, rfl⟩ := hP
    have hi3 : i ≤ 3 := by omega
    have er : (List.range (i + 1)).flatMap (fun k => (choL k).map (·.1)) = ((List.range i).flatMap fun k => (choL k).map (·.1)) ++ (choL i).map (·.1) := by
      rw [List.range_succ, List.flatMap_append]
      simp
    refine xs_each (src := choL i) (rel := fun c => TupV (c.1.map V.str)) (j := 3) (XI.len (xi_list (Rs := (choL i).map fun c => TupV (c.1.map V.str)) (XE.imp (xe_call1 c1 hr (xe_var 2 rfl) fun H2 s2 => ⟨i, rfl, hi3, rfl⟩) fun v H2 _ ⟨l, xs, e, hl, hx⟩ => ⟨l, xs, e, SqL.of hl, hx⟩)) (by simp)) (fun _ _ _ _ _ _ => ys_R _ _ _ _ _) (fun _ => inferInstance) (pg_name (i := 3) sc_least_parts.nd rfl (Or.inl rfl))
      (fun j => (((choL i).map (·.1)).take j).any (hitP t ws) = false) rfl (fun j c x u G' hj hC e hx => ?_) (fun hC u G' e => xs_nil fun H2 s2 => ⟨(sH.trans e).trans s2, ?_, _, _, rfl⟩) ⟨_, rfl⟩
    · obtain ⟨S, rfl, hS⟩ := hx
      have s2 := sH.trans e
      have ht2 := ht.mono s2
      have hcj : ((choL i).map (·.1))[j]? = some c.1 := by rw [List.getElem?_map, hj]; rfl
      refine xs_if (b := hitP t ws c.1) (xt_cmpR (Ra := LstV ((happK (t.heeding c.1).norm ws).map V.str)) (Rb := LstV (([] : List Str).map V.str)) (op_eqD (room64 hr)) (xe_call c2 hr (xa_cons (R := ToolR W (t.heeding c.1).norm) (xe_tool1 c3 hr (xe_var 0 rfl) ht2 (xe_var 3 rfl) fun H2 s3 ht3 => ⟨t, a, S, c.1, rfl, ht3, .inr (s3 _ _ hS), hok.rows, LT.heeding_ok hok _, hok.rowsFew, rfl⟩) (xa_cons (R := Is (.ref aw)) (xe_var 1 rfl) xa_nil)) fun vs H2 s3 hvs => ?_) (XE.lstV (xs := []) (xe_lst (Rs := []) xa_nil (by simp))) (fun x y H2 s3 hx hy => rv_eqL hx hy happ_strOk fun s hs => nomatch hs) (nomark _)) (fun hb => ?_) fun hb => ?_
      · obtain ⟨_, _, rfl, q1, q2⟩ := allR2 hvs
        cases q2
        obtain ⟨b, rfl, hb⟩ := toolR_iff.mp q1
        exact ⟨(t.heeding c.1).norm, b, aw, ws, rfl, hb, LT.norm_ok (LT.heeding_ok hok _), hm, (s2.trans s3) _ _ hw, rfl⟩
      · refine xs_ret (R := OptT (leastP t ws)) ((xe_var 3 rfl).is fun H3 s3 => ?_) fun v H3 s3 r => ⟨s2.trans s3, r⟩
        have e : leastP t ws = some c.1 := by
          unfold leastP allCho
          have e4 : List.range 4 = List.range i ++ i :: (List.range' (i + 1) (3 - i)) := by
            match i, hi3 with
            | 0, _ => rfl
            | 1, _ => rfl
            | 2, _ => rfl
            | 3, _ => rfl
          rw [e4, List.flatMap_append, List.flatMap_cons]
          have e5 : (choL i).map (·.1) = ((choL i).map (·.1)).take j ++ c.1 :: ((choL i).map (·.1)).drop (j + 1) := by
            have hlt : j < ((choL i).map (·.1)).length := (List.getElem?_eq_some_iff.mp hcj).1
            have e6 := List.drop_eq_getElem_cons hlt
            have e7 : ((choL i).map (·.1))[j] = c.1 := (List.getElem?_eq_some_iff.mp hcj).2
            rw [e7] at e6
            rw [← e6, List.take_append_drop]
          rw [e5, List.append_assoc, ← List.append_assoc, List.cons_append]
          exact find_at (by rw [List.any_append, hno, hC]; rfl) hb
        rw [e]
        exact ⟨S, rfl, s3 _ _ hS⟩
      · exact xs_nil fun H2 s3 => xs_nil fun H3 s4 => ⟨none_take hcj hC hb, s3.trans s4, _, rfl⟩
    · rw [er, List.any_append, hno]
      have := none_all (l := (choL i).map (·.1)) (f := hitP t ws) (by rw [List.length_map]; exact hC)
      rw [this]
      rfl
  · obtain ⟨sH, hno, u2, u3, rfl⟩ := hP
    refine xs_ret xe_non fun v H2 s2 r => ⟨sH.trans s2, ?_⟩
    have e : leastP t ws = none := find_no hno
    rw [e]
    exact r
theorem cal_needless (B : Blt W) (TC : ToolC W) (c0 : Cal W 2 "need_all" (Pure (preNeedAll W))) (c1 : Met W 1 (cTool W) "__len__" (Pure (preLen W))) (c2 : Cal W 10 "happening" (Pure (preHapp W))) (c3 : Met W 7 (cTool W) "without" (Pure (preWithout W))) (A : DefAt W "needless" s_needless ["tool", "wanted"]) : Cal W 11 "needless" (Pure (preNeedless W)) := by
  refine cal_pure A sc_needless (fun vs H R h => by obtain ⟨_, _, _, _, rfl, _⟩ := h; rfl) fun f0 cdv A outer s H vs R E hr h => ?_
  obtain ⟨t, a, aw, ws, rfl, ht, hok, hm, hw, hf, rfl⟩ := h
  have hfew := hok.rowsFew
  refine xs_expr (R := Is .non) (xe_call1 c0 hr (xe_var 1 rfl) fun H1 s1 => ⟨aw, ws, rfl, s1 _ _ hw, hf, rfl⟩) fun _ H1 s1 _ => ?_
  refine xs_set (R := LstV ((happK t ws).map V.str)) 2 (xe_call2 c2 hr (xe_var 0 rfl) (xe_var 1 rfl) fun H2 s2 => ⟨t, a, aw, ws, rfl, ht.mono (s1.trans s2), hok, hm, (s1.trans s2) _ _ hw, rfl⟩) (fun v H2 s2 hv => ?_) sc_needless.nd
  obtain ⟨lf, rfl, hlf⟩ := hv
  have s12 := s1.trans s2
  have ht2 := ht.mono s12
  obtain ⟨dx, fs, hi', hfs⟩ := id ht2
  refine xs_ret (R := TupV ((needlessK t ws).map fun i => V.int (i : Nat))) (xe_tupleL B.tuple (XE.vals (g := fun i : Nat => V.int (i : Nat)) (xe_lcS (own := [("at", 3)]) (j := 3) (src := List.range t.rows.length) (rel := fun i => Is (.int (0 + (i : Nat)))) (pp := fun i => decide (happK (t.without i).norm ws = happK t ws)) (ff := fun i => Is (.int (i : Nat))) (XI.len (xi_range B.range (n := (t.rows.length : Int)) (xe_lenO c1 hr B.len (xe_var 0 rfl) hi' (by omega) fun H3 s3 => ⟨t, a, rfl, ht2.mono s3, rfl⟩) (by omega)) (by simp)) (fun G2 i H' x H'' hi y => ys_I t.rows.length 0 G2 i H' x H'' (by rwa [List.length_range] at hi) y) (fun _ => inferInstance) (fun _ => inferInstance) (by rw [List.length_range]; omega) sc_needless.nd (blkOk_by (N := n_needless) (sc := defScope s_needless) (by decide +kernel))
    (fun _ _ _ _ _ => pg_name (i := 3) sc_needless.nd rfl (Or.inl rfl)) (fun i x G' hi e1 hx => ⟨?_, fun _ s0 H0 C cl fp => ?_⟩)))) fun v H3 s3 r => ⟨s12.trans s3, r⟩
  · intro s0 H0 C cl fp
    cases hx
    have s3 := s12.trans e1
    have ht3 := ht.mono s3
    have hlt := List.mem_range.mp hi
    refine xt_cmpR (Ra := LstV ((happK (t.without i).norm ws).map V.str)) (Rb := LstV ((happK t ws).map V.str)) (op_eqD (room64 hr)) (xe_call c2 hr (xa_cons (R := ToolR W (t.without i).norm) (xe_tool1 c3 hr (xe_var 0 rfl) ht3 (XE.cast (xe_var 3 rfl) (by rw [Int.zero_add])) fun H4 s4 ht4 => ⟨t, a, i, rfl, ht4, hlt, LT.without_ok hok i, hfew, rfl⟩) (xa_cons (R := Is (.ref aw)) (xe_var 1 rfl) xa_nil)) fun vs H4 s4 hvs => ?_) ((xe_var 2 rfl).is fun H4 s4 => ⟨lf, rfl, s4 _ _ (e1 _ _ hlf)⟩) (fun x y H4 s4 hx hy => rv_eqL hx hy happ_strOk happ_strOk) (nomark _)
    obtain ⟨_, _, rfl, q1, q2⟩ := allR2 hvs
    cases q2
    obtain ⟨b, rfl, hb⟩ := toolR_iff.mp q1
    exact ⟨(t.without i).norm, b, aw, ws, rfl, hb, LT.norm_ok (LT.without_ok hok i), hm, (s3.trans s4) _ _ hw, rfl⟩
  · cases hx
    exact XE.cast (xe_var 3 rfl) (by rw [Int.zero_add])
end
end LM

set_option maxHeartbeats 400000
namespace LM
open PySem PySem.Spec PyProof.Rows L2
/-! ### the box: a list of three ints, whatever they are -/
def boxF (b : Addr) : Heap → Prop := fun h => ∃ (g s c : Int) (its : List Value) (n : Nat), Vals [.int g, .int s, .int c] its ∧ h.get? b = some { cls := .type "list", data := .seq its.toArray n }
def BOX (b : Addr) : HO := .ext (boxF b)
abbrev ints3 (g s c : Int) : HO := .lst [.int g, .int s, .int c]
theorem upd_self {H : Hp} {b : Addr} {o : HO} (h : H b = some o) : upd H b o = H := by
  funext a
  by_cases q : a = b
  · subst q; rw [upd_same, h]
  · rw [upd_ne q]
section
variable {X : Cx} {pins : List (Addr × Obj)} {σ : St} {H : Hp} {s : Shared} {b : Addr}
theorem sb_refl {h : Heap} : Heap.SameBut b h h := ⟨rfl, fun _ _ => rfl⟩
theorem box_open (I : Inv X pins σ H s) (hb : H b = some (BOX b)) : ∃ i j k, Inv X pins σ (upd H b (ints3 i j k)) s := by
  obtain ⟨⟨i, j, k, its, n, r, e⟩, _, _⟩ := I.hok b _ hb
  exact ⟨i, j, k, d_write (t' := s.toks) I (by rw [hb]; exact True.intro) sb_refl ⟨_, e⟩ ⟨by show 3 ≤ sizeLine; decide, its, n, r, e⟩⟩
theorem box_close {i j k : Int} (I : Inv X pins σ H s) (hb : H b = some (ints3 i j k)) : Inv X pins σ (upd H b (BOX b)) s := by
  obtain ⟨_, its, n, r, e⟩ := I.hok b _ hb
  exact d_write (t' := s.toks) I (by rw [hb]; exact True.intro) sb_refl ⟨_, e⟩ ⟨⟨i, j, k, its, n, r, e⟩, ⟨_, e⟩, fun h1 h2 ⟨i, j, k, its, n, r, e⟩ q => ⟨i, j, k, its, n, r, q _ e⟩⟩
/-- the box opened: its ints; what else is known as before -/
def BxS (G : Hp) (b : Addr) (H' : Hp) : Prop := (∃ i j k, H' b = some (ints3 i j k)) ∧ Same G (upd H' b (BOX b))
theorem BxS.mono {G H' H'' : Hp} (h : BxS G b H') (e : Same H' H'') : BxS G b H'' := by
  obtain ⟨⟨i, j, k, h1⟩, h2⟩ := h
  exact ⟨⟨i, j, k, e _ _ h1⟩, h2.trans (same_upd e)⟩
theorem BxS.set {G H' : Hp} {i j k : Int} (h : BxS G b H') : BxS G b (upd H' b (ints3 i j k)) := ⟨⟨i, j, k, upd_same⟩, by rw [upd_upd]; exact h.2⟩
def boxD (b : Addr) (D : Ends) : Ends where
  nx := fun σ H' => (∃ i j k, H' b = some (ints3 i j k)) ∧ D.nx σ (upd H' b (BOX b))
  rt := fun v H' => (∃ i j k, H' b = some (ints3 i j k)) ∧ D.rt v (upd H' b (BOX b))
  bk := fun σ H' => (∃ i j k, H' b = some (ints3 i j k)) ∧ D.bk σ (upd H' b (BOX b))
  ct := fun σ H' => (∃ i j k, H' b = some (ints3 i j k)) ∧ D.ct σ (upd H' b (BOX b))
theorem xs_openBox {sts : List Stmt} {D : Ends} (hb : H b = some (BOX b)) (h : ∀ i j k, XSs X sts (boxD b D) σ (upd H b (ints3 i j k))) : XSs X sts D σ H := ⟨fun pins s H1 e1 I => by
  obtain ⟨i, j, k, I'⟩ := box_open I (e1 _ _ hb)
  refine thn ((h i j k).run pins s _ (same_upd e1) I') fun f s' q => ?_
  cases f with
  | next => obtain ⟨σ', H', J, ⟨_, _, _, hq⟩, q⟩ := q; exact ⟨σ', _, box_close J hq, q⟩
  | brk => obtain ⟨σ', H', J, ⟨_, _, _, hq⟩, q⟩ := q; exact ⟨σ', _, box_close J hq, q⟩
  | cont => obtain ⟨σ', H', J, ⟨_, _, _, hq⟩, q⟩ := q; exact ⟨σ', _, box_close J hq, q⟩
  | ret u => obtain ⟨v, σ', H', J, r, ⟨_, _, _, hq⟩, q⟩ := q; exact ⟨v, σ', _, box_close J hq, r, q⟩⟩
/-- a new list of three ints becomes a box -/
theorem xs_toBox {sts : List Stmt} {D : Ends} {i j k : Int} (hb : H b = some (ints3 i j k)) (h : XSs X sts D σ (upd H b (BOX b))) : XSs X sts D σ H :=
  ⟨fun pins s H1 e1 I => h.run pins s _ (same_upd e1) (box_close I (e1 _ _ hb))⟩
end
/-! ### l[i] = e -/
theorem xs_setL {X : Cx} {o ie e : Expr} {σ : St} {H : Hp} {rest : List Stmt} {D : Ends} {pos pos' : Pos} {l : Addr} {xs : List V} {i : Int} {j : Nat} {v : V} (he : XV X e σ H v) (ho : XV X o σ H (.ref l)) (hi : XV X ie σ H (.int i)) (hl : H l = some (.lst xs)) (hj : ixN xs.length i = some j)
    (k : ∀ H1, Same H H1 → XSs X rest D σ (upd H1 l (.lst (xs.set j v))))
    (ha : ∀ v, assign (.Subscript o ie pos') X.env v = (do
      let ov ← holding [v] (eval o X.env)
      let iv ← holding [v, ov] (eval ie X.env)
      standAt pos'
      holding [v, ov, iv] (setItem ov iv v)
      release [v, ov, iv] []) := by intro _; rfl)
    (hs : swapsWithSole [.Subscript o ie pos'] e pos.line X.env = pure false := by rfl) (hw : swappedStores [.Subscript o ie pos'] e X.env = pure none := by rfl) (h1 : (assignEach [.Subscript o ie pos'] X.env).map (·.2) = [assign (.Subscript o ie pos') X.env] := by rfl) : XSs X (.Assign [.Subscript o ie pos'] e pos :: rest) D σ H :=
  xs_asg (pg_sub pe_s pe_s set_list ha) he (fun u H1 e1 q => by
    cases q
    exact ho.s e1 fun u H2 e2 q => by
      cases q
      exact hi.s (e1.trans e2) fun u H3 e3 q => by
        cases q
        exact ⟨l, xs, i, j, rfl, rfl, ((e1.trans e2).trans e3) _ _ hl, hj, k H3 ((e1.trans e2).trans e3)⟩) hs hw h1
/-! ### tests that may go either way -/
structure XTA (X : Cx) (e : Expr) (σ : St) (H : Hp) : Prop where
  run : ∀ (pins : List (Addr × Obj)) (s : Shared) (H1 : Hp) (Q : Bool → Hp → Prop), Same H H1 → Inv X pins σ H1 s → (∀ b H2, Same H1 H2 → Q b H2) → wpAny (model X.prog X.w) X.A (isTrue e X.env (eval e X.env)) (TP X pins σ Q) X.xe s
section
variable {X : Cx} {e a c : Expr} {σ : St} {H H1 : Hp} {pos : Pos} {D : Ends} {rest : List Stmt} {Ra Rb R : VP}
theorem XTA.s {Q : Bool → Hp → Prop} (h : XTA X e σ H) (hs : Same H H1) (k : ∀ b H2, Same H1 H2 → Q b H2) : sT X e σ H1 Q := fun pins s I => h.run pins s H1 Q hs I k
theorem XTA.of {t : TT} (h : PT X e t) (q : ∀ H1, Same H H1 → ∀ Q : Bool → Hp → Prop, (∀ b H2, Same H1 H2 → Q b H2) → t σ H1 Q) : XTA X e σ H := ⟨fun pins s H1 Q e1 I k => h.run pins s σ H1 Q I (q H1 e1 Q k)⟩
theorem XTA.mono {H' : Hp} (h : XTA X e σ H) (hs : Same H H') : XTA X e σ H' := ⟨fun pins s H1 Q e1 I k => h.run pins s H1 Q (hs.trans e1) I k⟩
theorem xta_cmp [Mon Ra] {op : CmpOp} {r : R2} (ho : OpR X (compareOp op) r) (ha : XE X a σ H Ra) (hb : XE X c σ H Rb) (hr : ∀ x y H1, Same H H1 → Ra x H1 → Rb y H1 → ∃ p, RV r x y H1 (Is (.bl p))) (hm : behindInMarks op c = false) : XTA X (.Compare a [op] [c] pos) σ H :=
  XTA.of (pt_cmpR ho pe_s pe_s hm) fun H1 e Q k => ha.s e fun v H2 e2 q => hb.s (e.trans e2) fun u H3 e3 q' => by
    obtain ⟨p, h⟩ := hr v u H3 ((e.trans e2).trans e3) (Mon.mono v _ _ e3 q) q'
    exact h H3 (Same.refl _) _ fun v H4 e4 q => by cases q; exact ⟨p, rfl, k p H4 ((e2.trans e3).trans e4)⟩
theorem xs_ifA {b : List Stmt} {d : List Stmt} (ht : XTA X e σ H) (h1 : XSs X b { D with nx := fun σ' H' => XSs X rest D σ' H' } σ H) (h2 : XSs X d { D with nx := fun σ' H' => XSs X rest D σ' H' } σ H) : XSs X (.If e b d pos :: rest) D σ H :=
  xs_stepX (t := fun D' σ' H' => D' = { D with nx := fun σ' H' => XSs X rest D σ' H' } ∧ sT X e σ' H' fun p H2 => if p = true then sS X b D' σ' H2 else sS X d D' σ' H2) ⟨fun pins s σ' H' D' I h => (ps_if pt_s (pss_s (sts := b)) (pss_s (sts := d))).run pins s σ' H' D' I h.2⟩ fun H1 e1 => ⟨rfl, ht.s e1 fun p H2 e2 => by
    cases p with
    | true => exact iteT (h1.s (e1.trans e2))
    | false => exact iteF (h2.s (e1.trans e2))⟩
theorem xe_ifA (h : XTA X e σ H) (h1 : XE X a σ H R) (h2 : XE X c σ H R) : XE X (.IfExp e a c pos) σ H R := XE.of (pe_ifExp pt_s pe_s pe_s) fun H1 e1 Q k => h.s e1 fun p H2 e2 => by
  cases p with
  | true => exact iteT (h1.s (e1.trans e2) fun v H3 e3 q => k v H3 (e2.trans e3) q)
  | false => exact iteF (h2.s (e1.trans e2) fun v H3 e3 q => k v H3 (e2.trans e3) q)
end
/-- some int, some nat below a bound, some bool -/
def BoolR : VP := fun v _ => ∃ b, v = .bl b
instance : Mon BoolR := ⟨fun _ _ _ _ h => h⟩
def LtR (n : Nat) : VP := fun v _ => ∃ r : Nat, v = .int r ∧ r < n
instance (n : Nat) : Mon (LtR n) := ⟨fun _ _ _ _ h => h⟩
def OneOf (xs : List V) : VP := fun v _ => v ∈ xs
instance (xs : List V) : Mon (OneOf xs) := ⟨fun _ _ _ _ h => h⟩
/-! ### law_take, law_pick -/
section
variable {W : Wd}
def preTake : List V → Hp → VP → Prop := fun vs H R => ∃ (b : Addr) (n : Nat), vs = [.ref b, .int n] ∧ H b = some (BOX b) ∧ 0 < n ∧ n ≤ 1000 ∧ R = LtR n
theorem mod_ltR {x : Int} {n : Nat} (hn : 0 < n) {H : Hp} : LtR n (.int (x % (n : Int))) H := by
  have h1 := Int.emod_nonneg x (show (n : Int) ≠ 0 by omega)
  have h2 := Int.emod_lt_of_pos x (show (0 : Int) < n by omega)
  refine ⟨(x % (n : Int)).toNat, ?_, by omega⟩
  rw [Int.toNat_of_nonneg h1]
theorem cal_take (B : Blt W) (A : DefAt W "_law_take" s_law_take ["_law_box_here", "_law_many"]) : Cal W 1 "_law_take" (Pure preTake) := by
  refine cal_pure A sc_law_take (fun vs H R h => by obtain ⟨_, _, rfl, _⟩ := h; rfl) fun f0 cdv A outer s H vs R E hr h => ?_
  obtain ⟨b, n, rfl, hb, hn, hn2, rfl⟩ := h
  have hB0 : ∀ i j k, BxS H b (upd H b (ints3 i j k)) := fun i j k => ⟨⟨i, j, k, upd_same⟩, by rw [upd_upd, upd_self hb]; exact Same.refl _⟩
  have fin : ∀ {v : V} {H' : Hp}, BxS H b H' → LtR n v H' → (boxD b (RetD H (LtR n))).rt v H' := fun {v H'} hB hv => ⟨hB.1, hB.2, hv⟩
  refine xs_openBox hb fun g sd c => ?_
  have e0 : upd H b (ints3 g sd c) b = some (.lst [.int g, .int sd, .int c]) := upd_same
  refine xs_if (b := decide (g > 0)) (xt_cmp (x := .int g) (y := .int 0) op_gt (xe_ixL (xe_var 0 rfl) xe_int (SqL.of e0) rfl) xe_int rv_I0 (nomark _)) (fun hc => ?_) fun hc => ?_
  · refine xs_setv 2 (v := .int (g % (n : Int))) (xe_op (x := .int g) (y := .int n) op_mod (xe_intI B.int (xe_ixL (xe_var 0 rfl) xe_int (SqL.of e0) rfl)) (xe_var 1 rfl) (rv_I (by omega))) ?_ sc_law_take.nd
    refine xs_setL (v := .int (g / (n : Int))) (xe_op (x := .int g) (y := .int n) op_fdiv (xe_ixL (xe_var 0 rfl) xe_int (SqL.of e0) rfl) (xe_var 1 rfl) (rv_I ⟨by omega, by omega⟩)) (xe_var 0 rfl) xe_int e0 rfl fun H1 s1 => ?_
    refine xs_ret (xe_var 2 rfl) fun v H2 s2 r => ?_
    cases r
    exact fin (((hB0 g sd c).mono s1).set.mono s2) (mod_ltR hn)
  · refine xs_nil fun H1 s1 => ?_
    have hB1 := (hB0 g sd c).mono s1
    have e1 := s1 _ _ e0
    refine xs_setL (v := .int (c + 1)) (xe_op (x := .int c) (y := .int 1) op_add (xe_ixL (xe_var 0 rfl) xe_int (SqL.of e1) rfl) xe_int rv_I0) (xe_var 0 rfl) xe_int e1 rfl fun H2 s2 => ?_
    have hB2 := (hB1.mono s2).set (i := g) (j := sd) (k := c + 1)
    have e2 : upd H2 b (ints3 g sd (c + 1)) b = some (.lst [.int g, .int sd, .int (c + 1)]) := upd_same
    show XSs _ _ _ _ (upd H2 b (ints3 g sd (c + 1)))
    refine xs_setv 3 (v := .int ((sd + 98731 * (c + 1)) * 70229 % 2147483647)) (xe_op (x := .int ((sd + 98731 * (c + 1)) * 70229)) (y := .int 2147483647) op_mod (xe_intI B.int (xe_op (x := .int (sd + 98731 * (c + 1))) (y := .int 70229) op_mul (xe_op (x := .int sd) (y := .int (98731 * (c + 1))) op_add (xe_ixL (xe_var 0 rfl) xe_int (SqL.of e2) rfl) (xe_op (x := .int 98731) (y := .int (c + 1)) op_mul xe_int (xe_ixL (xe_var 0 rfl) xe_int (SqL.of e2) rfl) (rv_I (.inl (by decide)))) rv_I0) xe_int (rv_I (.inr (by decide))))) xe_int (rv_I (by decide))) ?_ sc_law_take.nd
    generalize (sd + 98731 * (c + 1)) * 70229 % 2147483647 = near
    refine xs_setL (v := .int ((near * 46103 + 28181) % 2147483629 + 1)) (xe_op (x := .int ((near * 46103 + 28181) % 2147483629)) (y := .int 1) op_add (xe_op (x := .int (near * 46103 + 28181)) (y := .int 2147483629) op_mod (xe_intI B.int (xe_op (x := .int (near * 46103)) (y := .int 28181) op_add (xe_op (x := .int near) (y := .int 46103) op_mul (xe_var 3 rfl) xe_int (rv_I (.inr (by decide)))) xe_int rv_I0)) xe_int (rv_I (by decide))) xe_int rv_I0) (xe_var 0 rfl) xe_int e2 rfl fun H3 s3 => ?_
    generalize (near * 46103 + 28181) % 2147483629 + 1 = sd2
    have hB3 := (hB2.mono s3).set (i := g) (j := sd2) (k := c + 1)
    have e3 : upd H3 b (ints3 g sd2 (c + 1)) b = some (.lst [.int g, .int sd2, .int (c + 1)]) := upd_same
    show XSs _ _ _ _ (upd H3 b (ints3 g sd2 (c + 1)))
    refine xs_ret (R := Is (.int ((near * 2147483647 + sd2) / 8191 % (n : Int)))) (xe_op (x := .int ((near * 2147483647 + sd2) / 8191)) (y := .int n) op_mod (xe_intI B.int (xe_op (x := .int (near * 2147483647 + sd2)) (y := .int 8191) op_fdiv (xe_op (x := .int (near * 2147483647)) (y := .int sd2) op_add (xe_op (x := .int near) (y := .int 2147483647) op_mul (xe_var 3 rfl) xe_int (rv_I (.inr (by decide)))) (xe_ixL (xe_var 0 rfl) xe_int (SqL.of e3) rfl) rv_I0) xe_int (rv_I ⟨by decide, by decide⟩))) (xe_var 1 rfl) (rv_I (by omega))) fun v H4 s4 r => ?_
    cases r
    exact fin (hB3.mono s4) (mod_ltR hn)
def prePick (W : Wd) : List V → Hp → VP → Prop := fun vs H R => ∃ (b l : Addr) (xs : List V), vs = [.ref b, .ref l] ∧ H b = some (BOX b) ∧ (SqL W.K H l xs ∨ SqT W.K H l xs) ∧ xs ≠ [] ∧ xs.length ≤ 1000 ∧ R = OneOf xs
theorem xe_ixA {X : Cx} {a c : Expr} {σ : St} {H : Hp} {pos : Pos} {l : Addr} {xs : List V} (ha : XV X a σ H (.ref l)) (hb : XE X c σ H (LtR xs.length)) (h : SqL X.K H l xs ∨ SqT X.K H l xs) (hs : PlainIx c := by exact fun _ _ => rfl) : XE X (.Subscript a c pos) σ H (OneOf xs) := by
  rcases h with h | h
  · exact XE.of (pe_ix ix_list pe_s pe_s hs) fun H1 s1 Q k => ha.s s1 fun u H2 e2 q => by
      cases q
      exact hb.s (s1.trans e2) fun u H3 e3 ⟨r, e, hr⟩ => by
        subst e
        have hx : xs[r]? = some xs[r] := by simp [hr]
        exact ⟨l, xs, r, xs[r], rfl, rfl, sq_mono ((s1.trans e2).trans e3) h, atI_nat hx, k _ H3 (e2.trans e3) (List.mem_of_getElem? hx)⟩
  · exact XE.of (pe_ix ix_tup pe_s pe_s hs) fun H1 s1 Q k => ha.s s1 fun u H2 e2 q => by
      cases q
      exact hb.s (s1.trans e2) fun u H3 e3 ⟨r, e, hr⟩ => by
        subst e
        have hx : xs[r]? = some xs[r] := by simp [hr]
        exact ⟨l, xs, r, xs[r], rfl, rfl, st_mono ((s1.trans e2).trans e3) h, atI_nat hx, k _ H3 (e2.trans e3) (List.mem_of_getElem? hx)⟩
theorem cal_pick (B : Blt W) (c1 : Cal W 1 "_law_take" (Pure preTake)) (A : DefAt W "_law_pick" s_law_pick ["_law_box_here", "_law_some"]) : Cal W 2 "_law_pick" (Pure (prePick W)) := by
  refine cal_pure A sc_law_pick (fun vs H R h => by obtain ⟨_, _, _, rfl, _⟩ := h; rfl) fun f0 cdv A outer s H vs R E hr h => ?_
  obtain ⟨b, l, xs, rfl, hb, hl, hne, hlen, rfl⟩ := h
  have hpos : 0 < xs.length := List.length_pos_iff.mpr hne
  exact xs_ret (R := OneOf xs) (xe_ixA (xe_var 1 rfl) (xe_call2 c1 hr (xe_var 0 rfl) (xe_len B.len (xe_var 1 rfl) hl) fun H1 s1 => ⟨b, xs.length, rfl, s1 _ _ hb, hpos, hlen, rfl⟩) hl) fun v H1 s1 r => ⟨s1, r⟩
end
end LM

set_option maxHeartbeats 400000
namespace LM
open PySem PySem.Spec PyProof.Rows L2
/-! ### a list whose items are told -/
def LstP (P : List V → Prop) : VP := fun v H => ∃ p ys, v = .ref p ∧ H p = some (.lst ys) ∧ P ys
instance (P : List V → Prop) : Mon (LstP P) := ⟨fun v H H' e ⟨p, ys, h1, h2, h3⟩ => ⟨p, ys, h1, e _ _ h2, h3⟩⟩
theorem lstP_of {xs : List V} {v : V} {H : Hp} (h : LstV xs v H) : LstP (fun ys => ys = xs) v H := let ⟨p, h1, h2⟩ := h; ⟨p, xs, h1, h2, rfl⟩
section
variable {X : Cx} {e o eh : Expr} {σ : St} {H : Hp} {pos apos cpos p p2 : Pos} {l : Addr} {xs : List V} {RU : Hp → VP} {rest : List Stmt} {D : Ends} {P : List V → Prop} {n : Nat}
/-- l.append(e), e changes things -/
theorem xs_appendU {ys : List V} (ho : XV X o σ H (.ref l)) (he : XU X e σ H RU) (hl : H l = some (.lst ys))
    (k : ∀ H1 v H2, Same H H1 → RU H1 v H2 → ∃ zs, H2 l = some (.lst zs) ∧ zs.length < 1000000 ∧ XSs X rest D σ (upd H2 l (.lst (zs ++ [v]))))
    (hbase : attributeBase o "append" X.env (eval o X.env) = eval o X.env := by rfl)
    (hfew : ((backTo cpos (starEach [e] X.env)).all (fun x => !x.1) && (backToKw cpos (keywordEach [] X.env)).all (fun x => x.1.isSome)
      && decide ([e].length + ([] : List Keyword).length + (if ([] : List Keyword).isEmpty then 0 else 1) < 30)) = true := by rfl)
    (hline : (apos.endLine == cpos.line) = true := by rfl) (hs1 : starEach [e] X.env = (false, eval e X.env) :: starEach [] X.env := by rfl) (hplain : (backTo cpos (starEach [] X.env)).any (·.1) = false := by rfl)
    (hs : swapsWith (.Call (.Attribute o "append" apos) [e] [] cpos) none pos.line X.env = pure false := by rfl) :
    XSs X (.Expr (.Call (.Attribute o "append" apos) [e] [] cpos) pos :: rest) D σ H :=
  xs_stepX (ps_expr (pe_bm PySem.F.plainAttrs_list PySem.F.slot_list_append PySem.F.type_list_append mt_append pe_s (pa_cons pe_s pa_nil hs1) hbase hfew hline hs1 hplain) hs) fun H1 e1 => ho.s e1 fun v H2 e2 q => by
    cases q
    refine ⟨Or.inl ⟨rfl, _, SqL.of ((e1.trans e2) _ _ hl)⟩, he.run H2 (e1.trans e2) _ fun v H3 r => ?_⟩
    obtain ⟨zs, h1, h2, h3⟩ := k H2 v H3 (e1.trans e2) r
    exact ⟨l, zs, v, rfl, rfl, h1, sz_lt h2, h3⟩
/-- l.pop(i), some i -/
theorem xu_popR (ho : XV X o σ H (.ref l)) (he : XE X e σ H (LtR xs.length)) (hl : H l = some (.lst xs)) (hz : xs.length ≤ 1000)
    (hbase : attributeBase o "pop" X.env (eval o X.env) = eval o X.env := by rfl)
    (hfew : ((backTo cpos (starEach [e] X.env)).all (fun x => !x.1) && (backToKw cpos (keywordEach [] X.env)).all (fun x => x.1.isSome)
      && decide ([e].length + ([] : List Keyword).length + (if ([] : List Keyword).isEmpty then 0 else 1) < 30)) = true := by rfl)
    (hline : (apos.endLine == cpos.line) = true := by rfl) (hs1 : starEach [e] X.env = (false, eval e X.env) :: starEach [] X.env := by rfl) (hplain : (backTo cpos (starEach [] X.env)).any (·.1) = false := by rfl) :
    XU X (.Call (.Attribute o "pop" apos) [e] [] cpos) σ H (fun H1 v H2 => ∃ k H3, xs[k]? = some v ∧ Same H1 H3 ∧ H2 = upd H3 l (.lst (xs.eraseIdx k))) :=
  ⟨fun H1 e1 Q kq pins s I => (pe_bm PySem.F.plainAttrs_list PySem.F.slot_list_pop PySem.F.type_list_pop mt_popAt pe_s (pa_cons pe_s pa_nil hs1) hbase hfew hline hs1 hplain).run pins s σ H1 Q I (ho.s e1 fun v H2 e2 q => by
    cases q
    refine ⟨Or.inl ⟨rfl, _, SqL.of ((e1.trans e2) _ _ hl)⟩, he.s (e1.trans e2) fun v H3 e3 ⟨r, er, hr⟩ => ?_⟩
    subst er
    have hx : xs[r]? = some xs[r] := by simp [hr]
    have hix : ixN xs.length (r : Int) = some r := by unfold ixN; rw [if_pos (by omega), if_pos (by omega)]; simp
    exact ⟨l, xs, r, r, xs[r], rfl, rfl, ((e1.trans e2).trans e3) _ _ hl, by omega, by omega, (ixN_seq hix).1, hx, kq _ _ ⟨r, H3, hx, e2.trans e3, rfl⟩⟩)⟩
/-- slices of told lists -/
theorem xe_sliceP {lo hi : Option Expr} {i j : Option Int} (he : XE X e σ H (LstP P)) (h1 : SlO X σ H lo i) (h2 : SlO X σ H hi j) : XE X (.Subscript e (.Slice lo hi none p2) pos) σ H (LstP fun zs => ∃ ys, P ys ∧ zs = cutV ys i j) := by
  obtain ⟨t1, p1, q1⟩ := h1.po
  obtain ⟨t2, p2', q2⟩ := h2.po
  exact XE.of (pe_slice sl_list pe_s p1 p2') fun H1 s1 Q k => he.s s1 fun v H2 e2 ⟨a, ys, ev, ha, hP⟩ => by
    subst ev
    exact q1 H2 (s1.trans e2) _ fun H3 e3 => q2 H3 ((s1.trans e2).trans e3) _ fun H4 e4 => ⟨a, ys, rfl, SqL.of ((e3.trans e4) _ _ ha), fun p hp => k _ _ (((e2.trans e3).trans e4).trans (newS hp)) ⟨p, _, rfl, upd_same, ys, hP, rfl⟩⟩
/-- .. up to some number -/
theorem xe_sliceN (he : XE X e σ H (LstP P)) (hh : XE X eh σ H (LtR n)) : XE X (.Subscript e (.Slice none (some eh) none p2) pos) σ H (LstP fun zs => ∃ ys k, P ys ∧ zs = ys.take k ∧ k < n) :=
  XE.of (pe_slice sl_list pe_s po_none (po_some pe_s)) fun H1 s1 Q k => he.s s1 fun v H2 e2 ⟨a, ys, ev, ha, hP⟩ => by
    subst ev
    refine hh.s (s1.trans e2) fun u H3 e3 ⟨r, er, hr⟩ => ?_
    subst er
    exact ⟨_, rfl, a, ys, rfl, SqL.of (e3 _ _ ha), fun p hp => k _ _ ((e2.trans e3).trans (newS hp)) ⟨p, _, rfl, upd_same, ys, r, hP, cutV_upto ys r, hr⟩⟩
/-- list + list -/
theorem xe_cat {a b : Expr} {P1 P2 : List V → Prop} (ha : XE X a σ H (LstP P1)) (hb : XE X b σ H (LstP P2)) (hz : ∀ xs zs, P1 xs → P2 zs → xs.length + zs.length ≤ 1000000) : XE X (.BinOp a .Add b pos) σ H (LstP fun ys => ∃ xs zs, P1 xs ∧ P2 zs ∧ ys = xs ++ zs) :=
  XE.of (pe_op op_cat pe_s pe_s) fun H1 e Q k => ha.s e fun v H2 e2 ⟨p, xs, ev, hp, h1⟩ => hb.s (e.trans e2) fun u H3 e3 ⟨q, zs, eu, hq, h2⟩ => by
    subst ev eu
    exact ⟨p, q, xs, zs, rfl, rfl, e3 _ _ hp, hq, sz_of (hz _ _ h1 h2), fun l hl => k _ _ ((e2.trans e3).trans (newS hl)) ⟨l, _, rfl, upd_same, xs, zs, h1, h2, rfl⟩⟩
/-- list(e) -/
theorem xe_listS (hm : X.mg "list" = none) (ha : XV X e σ H (.ref l)) (hq : SqL X.K H l xs ∨ SqT X.K H l xs) (hg : Gl X "list" := by rfl)
    (he : starEach [e] X.env = (false, eval e X.env) :: starEach [] X.env := by rfl) (hpl : (backTo pos (starEach [] X.env)).any (·.1) = false := by rfl) : XE X (.Call (.Name "list" p) [e] [] pos) σ H (NewL H xs) :=
  xe_callTy call_list_of hm (xa_cons ha xa_nil he) (fun vs H1 s1 hr H2 s2 Q k => by
    obtain ⟨v, rfl, hv⟩ := allR1 hr
    cases hv
    exact ⟨l, xs, rfl, hq.imp (sq_mono (s1.trans s2)) (st_mono (s1.trans s2)), fun l hl => k _ _ (newS hl) ⟨l, rfl, none_of (s1.trans s2) hl, upd_same⟩⟩) (by decide +kernel) hg (by decide) (by decide) he hpl
/-- tuple(e) -/
theorem xe_tupleP (hm : X.mg "tuple" = none) (ha : XE X e σ H (LstP P)) (hg : Gl X "tuple" := by rfl)
    (he : starEach [e] X.env = (false, eval e X.env) :: starEach [] X.env := by rfl) (hpl : (backTo pos (starEach [] X.env)).any (·.1) = false := by rfl) : XE X (.Call (.Name "tuple" p) [e] [] pos) σ H (fun v H' => ∃ a ys, v = .ref a ∧ H' a = some (.tup ys) ∧ P ys) :=
  xe_callTy call_tuple_of hm (xa_cons ha xa_nil he) (fun vs H1 s1 hr H2 s2 Q k => by
    obtain ⟨v, rfl, a, ys, rfl, h2, h3⟩ := allR1 hr
    exact ⟨a, ys, rfl, .inl ⟨SqL.of (s2 _ _ h2), fun l hl => k _ _ (newS hl) ⟨l, ys, rfl, upd_same, h3⟩⟩⟩) (by decide +kernel) hg (by decide) (by decide) he hpl
/-- for i in range(e), e some number -/
theorem xs_forN {tg ar : Expr} {body : List Stmt} {i0 : Nat} {R : VP} (hm : X.mg "range" = none) (hn : XE X ar σ H R) {N : Nat} (hN : N ≤ 1000) (hR : ∀ v H1, R v H1 → ∃ n : Nat, v = .int n ∧ n ≤ N) (hg : PG X tg (gName i0)) (Pv : Nat → St → Hp → Prop) (h0 : ∀ H1, Same H H1 → Pv 0 σ H1)
    (ht : ∀ i σ' H', i < N → Pv i σ' H' → XSs X body { D with nx := Pv (i + 1), ct := Pv (i + 1), bk := fun σ' H' => XSs X rest D σ' H' } (σ'.set i0 (some (.int (i : Int)))) H')
    (hd : ∀ i σ' H', i ≤ N → Pv i σ' H' → XSs X rest D σ' H') (hgl : Gl X "range" := by rfl)
    (hp : PassesOwn (model X.prog X.w) X.A X.env X.xe := by exact PassesOwn.never) (hc : X.calm = true := by rfl) (hs : starEach [ar] X.env = [(false, eval ar X.env)] := by rfl) (hf : ∀ x, foldedSetIterable (.Call (.Name "range" p) [ar] [] pos) X.env x = pure x := by intro _; rfl) {fpos : Pos} :
    XSs X (.For tg (.Call (.Name "range" p) [ar] [] pos) body [] fpos :: rest) D σ H :=
  xs_stepX (ps_for hp hc (pi_range1 hgl hm (pa_cons pe_s pa_nil (by exact hs)) hs) hg pss_s hf) fun H1 e1 => hn.s e1 fun v H2 e2 q => by
    obtain ⟨n, rfl, hn2⟩ := hR v H2 q
    refine ⟨(n : Int), rfl, by omega, by omega, for_range (lo := 0) (n := n) Pv (h0 H2 (e1.trans e2)) (fun i σ' H' hi p => ?_) fun σ' H' p => hd n σ' H' hn2 p⟩
    have z := ht i σ' H' (by omega) p
    rw [show ((i : Int)) = 0 + (i : Int) from (Int.zero_add _).symm] at z
    exact z.s (Same.refl _)
end
def unS : V → Str
  | .str z => z
  | _ => ""
theorem perm_strs {ys : List V} {ss : List Str} (h : ys.Perm (ss.map V.str)) : ∃ zs : List Str, zs.Perm ss ∧ ys = zs.map V.str := by
  refine ⟨ys.map unS, ?_, ?_⟩
  · have := h.map unS
    rw [List.map_map] at this
    have e : (unS ∘ V.str) = id := rfl
    rwa [e, List.map_id] at this
  · rw [List.map_map]
    have : ∀ y ∈ ys, (V.str ∘ unS) y = y := fun y hy => by
      obtain ⟨z, _, rfl⟩ := List.mem_map.mp (h.mem_iff.mp hy)
      rfl
    exact (List.map_congr_left this).trans (List.map_id _) |>.symm
theorem okM2L {p q : Addr} {xs ys : List V} (h : p ≠ q) : OkM [(p, .lst xs), (q, .lst ys)] := ⟨by simp [h], fun z hz => by
  rcases List.mem_cons.mp hz with rfl | hz
  · trivial
  · rw [List.mem_singleton.mp hz]; trivial⟩
section
variable {W : Wd}
def preShuf (W : Wd) : List V → Hp → VP → Prop := fun vs H R => ∃ (b l : Addr) (xs : List V), vs = [.ref b, .ref l] ∧ H b = some (BOX b) ∧ (SqL W.K H l xs ∨ SqT W.K H l xs) ∧ xs ≠ [] ∧ xs.length ≤ 1000 ∧ R = LstP fun ys => ys.Perm xs
theorem cal_shuffled (B : Blt W) (c1 : Cal W 1 "_law_take" (Pure preTake)) (A : DefAt W "_law_shuffled" s_law_shuffled ["_law_box_here", "_law_some"]) : Cal W 2 "_law_shuffled" (Pure (preShuf W)) := by
  refine cal_pure A sc_law_shuffled (fun vs H R h => by obtain ⟨_, _, _, rfl, _⟩ := h; rfl) fun f0 cdv A outer s H vs R E hr h => ?_
  obtain ⟨b, l, xs, rfl, hb, hl, hne, hlen, rfl⟩ := h
  refine xs_par 2 3 (R1 := NewL H xs) (R2 := NewL H []) (xa_cons (xe_listS B.list (xe_var 1 rfl) hl) (xa_cons (xe_lstN (xs := []) xa_nil (by simp)) xa_nil)) (fun v w H1 s1 hv hw => ?_) sc_law_shuffled.nd
  obtain ⟨p, rfl, hp0, hp⟩ := hv
  obtain ⟨q, rfl, hq0, hq⟩ := hw
  have pq : p ≠ q := fun e => by
    subst e
    rw [hp] at hq
    cases hq
    exact hne rfl
  obtain ⟨G, rfl, sG, fG⟩ := split_new (H := H) (M := [(p, .lst xs), (q, .lst [])]) (okM2L pq).1 (fun z hz => by
    rcases List.mem_cons.mp hz with rfl | hz
    · exact hp
    · rw [List.mem_singleton.mp hz]; exact hq) (fun z hz => by
    rcases List.mem_cons.mp hz with rfl | hz
    · exact hp0
    · rw [List.mem_singleton.mp hz]; exact hq0) s1
  refine xs_forR (n := (xs.length : Int)) (i0 := 4) B.range (xe_len B.len (xe_var 2 rfl) (.inl (SqL.of (upds_at (i := 0) (okM2L pq).1 rfl)))) (by omega) (pg_name (i := 4) sc_law_shuffled.nd rfl (Or.inl rfl))
    (fun i σ' H' => ∃ (G2 : Hp) (rs fs : List V) (u4 : Option V), H' = Upds G2 [(p, .lst rs), (q, .lst fs)] ∧ Same G G2 ∧ Fresh [(p, .lst rs), (q, .lst fs)] G2 ∧ rs.length + i = xs.length ∧ (fs ++ rs).Perm xs ∧ σ' = [some (.ref b), some (.ref l), some (.ref p), some (.ref q), u4])
    (fun H2 s2 => ?_) (fun i σ' H' hi hP => ?_) (fun σ' H' hP => ?_)
  · obtain ⟨G2, rfl, sG2, f2⟩ := renorm (okM2L pq).1 fG s2
    exact ⟨G2, xs, [], _, rfl, sG2, f2, rfl, by simp, rfl⟩
  · obtain ⟨G2, rs, fs, u4, rfl, sG2, f2, hlen2, hperm, rfl⟩ := hP
    have hM : OkM [(p, HO.lst rs), (q, HO.lst fs)] := okM2L pq
    have hpos : 0 < rs.length := by omega
    have hbG : Upds G2 [(p, HO.lst rs), (q, HO.lst fs)] b = some (BOX b) := upds_ge f2 _ _ ((sG.trans sG2) _ _ hb)
    refine xs_appendU (ys := fs) (xe_var 3 rfl) (xu_popR (xs := rs) (xe_var 2 rfl) (xe_call2 c1 hr (xe_var 0 rfl) (xe_len B.len (xe_var 2 rfl) (.inl (SqL.of (upds_at (i := 0) hM.1 rfl)))) fun H3 s3 => ⟨b, rs.length, rfl, s3 _ _ hbG, hpos, by omega, rfl⟩) (upds_at (i := 0) hM.1 rfl) (by omega)) (upds_at (i := 1) hM.1 rfl) fun H1 v H2 s1 hv => ?_
    obtain ⟨k, H3, hk, s3, rfl⟩ := hv
    obtain ⟨G3, rfl, sG3, f3⟩ := renorm hM.1 f2 (s1.trans s3)
    have f3' : Fresh [(p, HO.lst (rs.eraseIdx k)), (q, HO.lst fs)] G3 := fun z hz => by
      rcases List.mem_cons.mp hz with rfl | hz
      · exact f3 (p, .lst rs) (by simp)
      · rw [List.mem_singleton.mp hz]; exact f3 (q, .lst fs) (by simp)
    have hM3 : OkM [(p, HO.lst (rs.eraseIdx k)), (q, HO.lst fs)] := okM2L pq
    rw [upds_set (i := 0) hM.1 rfl]
    have hpl := hperm.length_eq
    rw [List.length_append] at hpl
    refine ⟨fs, upds_at (i := 1) hM3.1 rfl, by omega, ?_⟩
    show XSs _ _ _ _ (upd (Upds G3 [(p, HO.lst (rs.eraseIdx k)), (q, HO.lst fs)]) q (.lst (fs ++ [v])))
    rw [upds_set (i := 1) hM3.1 rfl]
    refine xs_nil fun H4 s4 => ?_
    have f4 : Fresh [(p, HO.lst (rs.eraseIdx k)), (q, HO.lst (fs ++ [v]))] G3 := fun z hz => by
      rcases List.mem_cons.mp hz with rfl | hz
      · exact f3 (p, .lst rs) (by simp)
      · rw [List.mem_singleton.mp hz]; exact f3 (q, .lst fs) (by simp)
    obtain ⟨G4, rfl, sG4, f4'⟩ := renorm (okM2L (xs := rs.eraseIdx k) (ys := fs ++ [v]) pq).1 f4 s4
    have hlt : k < rs.length := (List.getElem?_eq_some_iff.mp hk).1
    refine ⟨G4, _, _, _, rfl, (sG2.trans sG3).trans sG4, f4', by rw [List.length_eraseIdx_of_lt hlt]; omega, ?_, rfl⟩
    have hp2 := erase_perm rs k v hk
    have : ((fs ++ [v]) ++ rs.eraseIdx k).Perm (fs ++ rs) := by
      rw [List.append_assoc]
      exact List.Perm.append_left fs hp2
    exact this.trans hperm
  · obtain ⟨G2, rs, fs, u4, rfl, sG2, f2, hlen2, hperm, rfl⟩ := hP
    have e0 : rs = [] := List.eq_nil_of_length_eq_zero (by omega)
    subst e0
    rw [List.append_nil] at hperm
    refine xs_ret (R := LstP fun ys => ys.Perm xs) ((xe_var 3 rfl).is fun H3 s3 => ⟨q, fs, rfl, s3 _ _ (upds_at (i := 1) (okM2L pq).1 rfl), hperm⟩) fun v H3 s3 r => ⟨((sG.trans sG2).trans (upds_ge f2)).trans s3, r⟩
/-! ### law_words -/
def lWORDS : List Str := ["a", "b", "c", "x", "yy", "zzz", "text", "run", "edit", "hear", "m", "sent", "fold", "k", "of", "none"]
def WordsP (lo hi : Nat) (ys : List V) : Prop := ∃ ws : List Str, ys = ws.map V.str ∧ ws.Nodup ∧ (∀ w ∈ ws, w ∈ lWORDS) ∧ lo ≤ ws.length ∧ ws.length ≤ hi
def preWords : List V → Hp → VP → Prop := fun vs H R => ∃ (b : Addr) (k lo hi : Nat), vs = [.ref b, .int k] ∧ H b = some (BOX b) ∧ lo ≤ k ∧ k ≤ hi ∧ hi ≤ 16 ∧ R = LstP (WordsP lo hi)
theorem xe_strs {X : Cx} {σ : St} {H : Hp} {pos : Pos} {es : List Expr} {ss : List Str} (h : XA X es σ H ((ss.map V.str).map Is)) (hl : ss.length ≤ 1000) : XE X (.List es pos) σ H (LstP fun ys => ys = ss.map V.str) :=
  XE.imp (xe_lst h (by simp; omega)) fun v H2 _ r => lstP_of (lstR_is r)
theorem cal_words (c1 : Cal W 2 "_law_shuffled" (Pure (preShuf W))) (A : DefAt W "_law_words" s_law_words ["_law_box_here", "_law_many"]) : Cal W 3 "_law_words" (Pure preWords) := by
  refine cal_pure A sc_law_words (fun vs H R h => by obtain ⟨_, _, _, _, rfl, _⟩ := h; rfl) fun f0 cdv A outer s H vs R E hr h => ?_
  obtain ⟨b, k, lo, hi, rfl, hb, hk1, hk2, hk, rfl⟩ := h
  refine xs_set (R := LstP fun ys => ys = (lWORDS.take 8).map V.str) 2 (xe_strs (ss := lWORDS.take 8) (xa_cons xe_str (xa_cons xe_str (xa_cons xe_str (xa_cons xe_str (xa_cons xe_str (xa_cons xe_str (xa_cons xe_str (xa_cons xe_str xa_nil)))))))) (by decide)) (fun v H1 s1 hv => ?_) sc_law_words.nd
  refine xs_set (R := LstP fun ys => ys = lWORDS.map V.str) 2 (XE.imp (xe_cat (P1 := fun ys => ys = (lWORDS.take 8).map V.str) (P2 := fun ys => ys = (lWORDS.drop 8).map V.str) ((xe_var 2 rfl).is fun H2 s2 => Mon.mono _ _ _ s2 hv) (xe_strs (ss := lWORDS.drop 8) (xa_cons xe_str (xa_cons xe_str (xa_cons xe_str (xa_cons xe_str (xa_cons xe_str (xa_cons xe_str (xa_cons xe_str (xa_cons xe_str xa_nil)))))))) (by decide)) (fun xs zs h1 h2 => by subst h1 h2; simp [lWORDS])) fun v H2 _ ⟨p, ys, e1, e2, xs, zs, h1, h2, h3⟩ => ⟨p, ys, e1, e2, by subst h1 h2 h3; rfl⟩) (fun v H2 s2 hv => ?_) sc_law_words.nd
  obtain ⟨p, ys, rfl, hp, rfl⟩ := hv
  refine xs_ret (R := LstP (WordsP lo hi)) (XE.imp (xe_sliceP (P := fun ys => ys.Perm (lWORDS.map V.str)) (i := none) (j := some (k : Int)) (xe_call2 c1 hr (xe_var 0 rfl) (xe_var 2 rfl) fun H3 s3 => ⟨b, p, lWORDS.map V.str, rfl, ((s1.trans s2).trans s3) _ _ hb, .inl (SqL.of (s3 _ _ hp)), by simp [lWORDS], by simp [lWORDS], rfl⟩) .none (.some (xe_var 1 rfl))) fun v H3 _ ⟨q, zs, e1, e2, ys, h1, h2⟩ => ⟨q, zs, e1, e2, ?_⟩) fun v H3 s3 r => ⟨(s1.trans s2).trans s3, r⟩
  obtain ⟨ws, hw, rfl⟩ := perm_strs h1
  subst h2
  have hnd : lWORDS.Nodup := by decide +kernel
  have hlen : ws.length = 16 := hw.length_eq
  refine ⟨ws.take k, by rw [cutV_upto, List.map_take], (hw.nodup_iff.mpr hnd).sublist (List.take_sublist _ _), (fun x hx => hw.mem_iff.mp (List.mem_of_mem_take hx)), ?_, ?_⟩ <;> (rw [List.length_take]; omega)
end
end LM

set_option maxHeartbeats 400000
namespace LM
open PySem PySem.Spec PyProof.Rows L2
/-! ### comprehensions that keep what they like -/
theorem XTA.fr {X : Cx} {e : Expr} {σ : St} {G H1 : Hp} {M : Mp} {Q : Bool → Hp → Prop} (h : XTA X e σ G) (hM : OkM M) (fr : Fresh M G) (hs : Same (Upds G M) H1) (k : ∀ b G2, Same G G2 → Fresh M G2 → Same H1 (Upds G2 M) → Q b (Upds G2 M)) : sT X e σ H1 Q := fun pins s I => by
  obtain ⟨sg, hp⟩ := same_hide hM.1 fr hs
  refine thn (h.run (pins ++ pinM s M) s (hide M H1) (fun b G2 => Same (hide M H1) G2) sg (hideM_inv hM I hp) fun b G2 e2 => e2) fun u s2 ⟨G2, I2, e2⟩ => ?_
  have fr2 : Fresh M G2 := fun p hp' => by
    obtain ⟨ob, e, _⟩ := okM_there hM I hp (show (p.1, p.2) ∈ M from hp')
    exact (I2.pin (p.1, ob) (by rw [← List.append_assoc]; exact List.mem_append_right _ (mem_pinM (show (p.1, p.2) ∈ M from hp') e))).2.1
  refine ⟨Upds G2 M, showM_inv hM I hp e2 I2, k u G2 (sg.trans e2) fr2 ?_⟩
  have q := upds_mono (M := M) e2
  rw [upds_hide hM.1 hp] at q
  exact q
section
variable {X : Cx} {elt iter c : Expr} {scope : Scope} {own : List (Str × Nat)} {pos tpos : Pos} {tn : Str} {σ : St} {H : Hp} {Y : YY} {α : Type} {src : List α} {rel ff : α → VP} {j : Nat}
theorem monL_mapA {ff : α → VP} (hm : ∀ a, Mon (ff a)) : ∀ l : List α, MonL (l.map ff)
  | [] => .nil
  | a :: r => .cons (hm a) (monL_mapA hm r)
theorem xl_lcA (hi : XI X (.Name tn tpos) iter σ H src.length Y) (hY : ∀ G2 i H' x H'', i < src.length → Y G2 i H' x H'' → H'' = H' ∧ ∃ a, src[i]? = some a ∧ rel a x G2) (hmr : ∀ a, Mon (rel a)) (hm : ∀ a, Mon (ff a)) (hn : src.length ≤ 500000) (hN : X.N.Nodup) (ok : BlkOk X.N X.env.scope scope own)
    (hg : ∀ s0 H0 C cl fp, PG (bk X scope s0 H0 C cl fp) (.Name tn tpos) (gName j))
    (ht : ∀ a x G', a ∈ src → Same H G' → rel a x G' → (∀ s0 H0 C cl fp, XTA (bk X scope s0 H0 C cl fp) c ((wipe σ (own.map (·.2))).set j (some x)) G') ∧ XEB X scope elt ((wipe σ (own.map (·.2))).set j (some x)) G' (ff a))
    (hw : ∀ x, wipe ((wipe σ (own.map (·.2))).set j (some x)) (own.map (·.2)) = wipe σ (own.map (·.2)) := by intro _; rfl) (hc : X.calm = true := by rfl) (hs : ∀ x, foldedSetIterable iter X.env x = pure x := by intro _; rfl) :
    XL X (.ListComp elt [⟨.Name tn tpos, iter, [c], 0⟩] scope pos) σ H (fun v H => ∃ l : List α, l.Sublist src ∧ LstR (l.map ff) v H) := by
  have T : ∀ H1, Same H H1 → ∀ Q : VK, (∀ v H2, Same H1 H2 → (∃ l : List α, l.Sublist src ∧ LstR (l.map ff) v H2) → Q v H2) → tLc (sI X (.Name tn tpos) iter) (gName j) (sTsB X scope [c]) (sEB X scope elt) (own.map (·.2)) σ H1 Q := fun H1 e1 Q k => hi.s e1 fun J H2 e2 w => fun D hD => by
      refine lc_it w (fun i H' => ∃ G ys l, H' = Upds G [(D, .lst ys)] ∧ G D = none ∧ Same H2 G ∧ (l : List α).Sublist (src.take i) ∧ AllR (l.map ff) ys G) ⟨H2, [], [], rfl, hD, Same.refl _, List.Sublist.slnil, trivial⟩ (fun i H' _ ⟨G, ys, l, hH, hGD, sG, _⟩ => by rw [hH]; exact sG.trans (upds_ge (fresh1 hGD))) (fun i x H' H'' hlt ⟨G, ys, l, hH, hGD, sG, hl, hr⟩ y => ?_) fun H' ⟨G, ys, l, hH, hGD, sG, hl, hr⟩ => ?_
      · subst hH
        obtain ⟨rfl, a, ha, ra⟩ := hY _ _ _ _ _ hlt y
        obtain ⟨htt, hee⟩ := ht a x G (List.mem_of_getElem? ha) ((e1.trans e2).trans sG) ((hmr a).mono x _ _ sG ra)
        have et : src.take (i + 1) = src.take i ++ [a] := by rw [List.take_succ, ha]; rfl
        refine ⟨hw x, fun s0 H0 C cl fp => (htt s0 H0 C cl fp).fr (okM_lst D ys) (fresh1 hGD) (Same.refl _) fun b G4 s4 f4 _ => ?_⟩
        have g4 : G4 D = none := f4 (D, .lst ys) (by simp)
        cases b with
        | true =>
          rw [if_pos rfl]
          refine XEB.fr (G := G4) (fun s0 H0 C cl fp => (hee s0 H0 C cl fp).mono s4) (okM_lst D ys) (fresh1 g4) (Same.refl _) fun v G5 s5 f5 _ rv => ⟨ys, upd_same, ?_, G5, ys ++ [v], l ++ [a], ?_, f5 (D, .lst ys) (by simp), (sG.trans s4).trans s5, by rw [et]; exact hl.append (List.Sublist.refl _), ?_⟩
          · have h1 := hl.length_le
            rw [hr.length, List.length_map]
            rw [List.length_take] at h1
            exact sz_lt (by omega)
          · show upd (upd G5 D (.lst ys)) D (.lst (ys ++ [v])) = upd G5 D (.lst (ys ++ [v]))
            exact upd_upd
          · rw [List.map_append]
            exact (AllR.mono (monL_mapA hm l) (s4.trans s5) hr).append ⟨rv, trivial⟩
        | false =>
          rw [if_neg Bool.false_ne_true]
          exact ⟨G4, ys, l, rfl, g4, sG.trans s4, by rw [et]; exact hl.trans (List.sublist_append_left _ _), AllR.mono (monL_mapA hm l) s4 hr⟩
      · subst hH
        rw [List.take_length] at hl
        exact k (.ref D) _ (e2.trans (sG.trans (upds_ge (fresh1 hGD)))) ⟨l, hl, D, ys, rfl, upd_same, AllR.mono (monL_mapA hm l) (upds_ge (fresh1 hGD)) hr⟩
  exact ⟨XE.of (pe_lc hc hN pi_s ok hg (pts_sB [c]) pe_sB hs) T, fun {i y py spos rest D} hy hyl hsw k => xs_stepX (t := tAsg (tLc (sI X (.Name tn tpos) iter) (gName j) (sTsB X scope [c]) (sEB X scope elt) (own.map Prod.snd)) (gName i)) (ps_setLc hc hN hy hyl hsw pi_s ok hg (pts_sB [c]) pe_sB hs) fun H1 e1 => T H1 e1 _ fun v H2 e2 r => k v H2 (e1.trans e2) r⟩
/-- texts kept -/
theorem strs_kept {l src : List Str} {v : V} {H : Hp} (h1 : l.Sublist src) (h2 : LstR (l.map fun s => Is (.str s)) v H) : LstP (fun ys => ∃ l : List Str, l.Sublist src ∧ ys = l.map V.str) v H := by
  have h3 : LstR ((l.map V.str).map Is) v H := by rw [List.map_map]; exact h2
  obtain ⟨a, e, ha⟩ := lstR_is h3
  exact ⟨a, _, e, ha, l, h1, rfl⟩
theorem xi_lstV {tg e : Expr} {xs : List V} (h : XE X e σ H (LstV xs)) : XI X tg e σ H xs.length (YX xs) :=
  XI.of (pi_list pe_s) fun H1 e1 R k => h.s e1 fun v H2 e2 ⟨a, ev, ha⟩ => by
    subst ev
    exact ⟨a, rfl, ⟨xs, SqL.of ha⟩, k _ H2 e2 (walk_list.mono (fun H' e => SqL.of (e _ _ ha)) fun i H' x H'' _ _ y => y)⟩
end
/-! ### rows as tuples -/
def TRow : LR → VP
  | .run o t => TupV [.str "run", .str o, .str t]
  | .lead ts o t => fun v H => ∃ T q, v = .ref T ∧ H T = some (.tup [.str "lead", .ref q, .str o, .str t]) ∧ H q = some (.tup (ts.map V.str))
  | .join a c t => TupV [.str "join", .str a, .str c, .str t]
instance (r : LR) : Mon (TRow r) := by
  cases r with
  | run o t => exact inferInstanceAs (Mon (TupV _))
  | join a c t => exact inferInstanceAs (Mon (TupV _))
  | lead ts o t => exact ⟨fun v H H' e ⟨T, q, h1, h2, h3⟩ => ⟨T, q, h1, e _ _ h2, e _ _ h3⟩⟩
def rowD (ws : List Str) : LR → Prop
  | .run o t => (o ∈ ws ∨ o = "any") ∧ t ∈ ws
  | .lead ts o t => (∀ x ∈ ts, x ∈ lTESTS) ∧ (ts.map partOf).Nodup ∧ (o ∈ ws.drop 1 ∨ o = "any") ∧ t ∈ ws
  | .join a c t => (a ∈ ws ∨ a = "any") ∧ (c ∈ ws ∨ c = "any") ∧ (t ∈ ws ∨ t = "here" ∨ t = "came")
def rowsD (ws : List Str) (k : Nat) (rs : List LR) : Prop := (∀ r ∈ rs, rowD ws r) ∧ ∀ ts o b, LR.lead ts o b ∈ rs → ts.length ≤ k
structure DrawnT (k n : Nat) (t : LT) : Prop where
  words : t.marks.Nodup ∧ (∀ w ∈ t.marks, w ∈ lWORDS) ∧ 2 ≤ t.marks.length ∧ t.marks.length ≤ 4
  told : t.told.Sublist (t.marks.drop 1)
  parts : t.parts.Nodup ∧ (∀ p ∈ t.parts, p ∈ lPARTS) ∧ ("own" : Str) ∈ t.parts
  rows : rowsD t.marks k t.rows
  few : 0 < t.rows.length ∧ t.rows.length ≤ n
def DTool (t : LT) : VP := fun v H => ∃ T m o p r xs, v = .ref T ∧ H T = some (.tup [.ref m, .ref o, .ref p, .bl t.clears, .ref r]) ∧ H m = some (.lst (t.marks.map V.str)) ∧ H o = some (.lst (t.told.map V.str)) ∧ H p = some (.lst (t.parts.map V.str)) ∧ H r = some (.lst xs) ∧ AllR (t.rows.map TRow) xs H
theorem monTR (l : List LR) : MonL (l.map TRow) := monL_map (fun _ => inferInstance) l
instance (t : LT) : Mon (DTool t) := ⟨fun v H H' e ⟨T, m, o, p, r, xs, h0, h1, h2, h3, h4, h5, h6⟩ => ⟨T, m, o, p, r, xs, h0, e _ _ h1, e _ _ h2, e _ _ h3, e _ _ h4, e _ _ h5, AllR.mono (monTR _) e h6⟩⟩
theorem tRow_down {M : Mp} {G : Hp} (hM : OkM M) : ∀ {r : LR} {v : V}, TRow r v (Upds G M) → TRow r v G
  | .run o t, v, ⟨a, e, h⟩ => ⟨a, e, upds_some hM h trivial⟩
  | .join a c t, v, ⟨b, e, h⟩ => ⟨b, e, upds_some hM h trivial⟩
  | .lead ts o t, v, ⟨T, q, e, h1, h2⟩ => ⟨T, q, e, upds_some hM h1 trivial, upds_some hM h2 trivial⟩
theorem tRows_down {M : Mp} {G : Hp} (hM : OkM M) : ∀ {rs : List LR} {vs : List V}, AllR (rs.map TRow) vs (Upds G M) → AllR (rs.map TRow) vs G
  | [], [], _ => trivial
  | r :: rs, v :: vs, h => ⟨tRow_down hM h.1, tRows_down hM h.2⟩
  | [], _ :: _, h => h.elim
  | _ :: _, [], h => h.elim
theorem parts_tests : ∀ p ∈ lPARTS, p ∈ lTESTS ∧ partOf p = p ∧ (("not " : Str) ++ p) ∈ lTESTS ∧ partOf (("not " : Str) ++ p) = p := by
  have h : lPARTS.all (fun p => decide (p ∈ lTESTS) && (decide (partOf p = p) && (decide ((("not " : Str) ++ p) ∈ lTESTS) && decide (partOf (("not " : Str) ++ p) = p)))) = true := by decide +kernel
  intro p hp
  have h1 := List.all_eq_true.mp h p hp
  simp only [Bool.and_eq_true, decide_eq_true_eq] at h1
  exact ⟨h1.1, h1.2.1, h1.2.2.1, h1.2.2.2⟩
/-- a test about a part -/
def TestR (p : Str) : VP := fun v _ => ∃ x : Str, v = .str x ∧ x ∈ lTESTS ∧ partOf x = p
instance (p : Str) : Mon (TestR p) := ⟨fun _ _ _ _ h => h⟩
theorem tests_of {H : Hp} : ∀ {ps : List Str} {vs : List V}, AllR (ps.map TestR) vs H → ∃ ts : List Str, vs = ts.map V.str ∧ (∀ x ∈ ts, x ∈ lTESTS) ∧ ts.map partOf = ps
  | [], [], _ => ⟨[], rfl, (fun x hx => nomatch hx), rfl⟩
  | p :: ps, v :: vs, h => by
    obtain ⟨x, rfl, h1, h2⟩ := h.1
    obtain ⟨ts, rfl, h3, h4⟩ := tests_of h.2
    refine ⟨x :: ts, rfl, fun y hy => ?_, by rw [List.map_cons, h2, h4]⟩
    rcases List.mem_cons.mp hy with rfl | hy
    · exact h1
    · exact h3 y hy
  | [], _ :: _, h => h.elim
  | _ :: _, [], h => h.elim
end LM

set_option maxHeartbeats 400000
namespace LM
open PySem PySem.Spec PyProof.Rows L2
section
variable {W : Wd}
def preLTool : List V → Hp → VP → Prop := fun vs H R => ∃ b : Addr, vs = [.ref b] ∧ H b = some (BOX b) ∧ R = fun v H' => ∃ t, DrawnT 2 8 t ∧ DTool t v H'
/-- take(box, n) -/
theorem xe_take {X : Cx} {j : Nat} {e1 e2 : Expr} {σ : St} {H : Hp} {p pos : Pos} {b : Addr} {n : Nat} (c : Cal (wd X) 1 "_law_take" (Pure preTake)) (hr : Room j X.A) (h1 : XV X e1 σ H (.ref b)) (h2 : XV X e2 σ H (.int (n : Nat))) (hb : H b = some (BOX b)) (hn : 0 < n) (hn2 : n ≤ 1000) (hk : 1 ≤ j := by decide) (hg : Gl X "_law_take" := by rfl)
    (he : starEach [e1, e2] X.env = (false, eval e1 X.env) :: starEach [e2] X.env := by rfl) (he2 : starEach [e2] X.env = (false, eval e2 X.env) :: starEach [] X.env := by rfl) (hpl : (backTo pos (starEach [e2] X.env)).any (·.1) = false := by rfl) : XE X (.Call (.Name "_law_take" p) [e1, e2] [] pos) σ H (LtR n) :=
  xe_call2 c hr h1 h2 (fun H1 s1 => ⟨b, n, rfl, s1 _ _ hb, hn, hn2, rfl⟩) hk hg (by decide) he he2 hpl
/-- pick(box, list) -/
theorem xe_pick {X : Cx} {j : Nat} {e1 e2 : Expr} {σ : St} {H : Hp} {p pos : Pos} {b : Addr} {xs : List V} (c : Cal (wd X) 2 "_law_pick" (Pure (prePick (wd X)))) (hr : Room j X.A) (h1 : XV X e1 σ H (.ref b)) (h2 : XE X e2 σ H (LstP fun ys => ys = xs)) (hb : H b = some (BOX b)) (hn : xs ≠ []) (hn2 : xs.length ≤ 1000) (hk : 2 ≤ j := by decide) (hg : Gl X "_law_pick" := by rfl)
    (he : starEach [e1, e2] X.env = (false, eval e1 X.env) :: starEach [e2] X.env := by rfl) (he2 : starEach [e2] X.env = (false, eval e2 X.env) :: starEach [] X.env := by rfl) (hpl : (backTo pos (starEach [e2] X.env)).any (·.1) = false := by rfl) : XE X (.Call (.Name "_law_pick" p) [e1, e2] [] pos) σ H (OneOf xs) :=
  xe_call c hr (xa_cons (R := Is (.ref b)) h1 (xa_cons (R := LstP fun ys => ys = xs) h2 xa_nil he2) he) (fun vs H1 s1 hvs => by
    obtain ⟨v, u, rfl, q1, l, ys, rfl, hl, rfl⟩ := allR2 hvs
    cases q1
    exact ⟨b, l, ys, rfl, s1 _ _ hb, .inl (SqL.of hl), hn, hn2, rfl⟩) hk hg (by decide) he hpl
theorem gt0 {x y : V} {H1 : Hp} {n : Nat} (hx : LtR n x H1) (hy : Is (.int 0) y H1) : ∃ p, RV (rI0 fun i j => .bl (decide (i > j))) x y H1 (Is (.bl p)) := by
  obtain ⟨r, rfl, _⟩ := hx
  cases hy
  exact ⟨_, rv_I0⟩
theorem eq0 {x y : V} {H1 : Hp} {n : Nat} (hx : LtR n x H1) (hy : Is (.int 0) y H1) : ∃ p, RV rEq x y H1 (Is (.bl p)) := by
  obtain ⟨r, rfl, _⟩ := hx
  cases hy
  exact ⟨_, rv_eqI⟩
theorem xe_known {X : Cx} {e : Expr} {σ : St} {H : Hp} {l : Addr} {xs : List V} (h : XV X e σ H (.ref l)) (hl : H l = some (.lst xs)) : XE X e σ H (LstP fun ys => ys = xs) := h.is fun H2 e2 => ⟨l, xs, rfl, e2 _ _ hl, rfl⟩
theorem xe_catK {X : Cx} {a b : Expr} {σ : St} {H : Hp} {pos : Pos} {xs zs : List V} (ha : XE X a σ H (LstP fun ys => ys = xs)) (hb : XE X b σ H (LstP fun ys => ys = zs)) (hz : xs.length + zs.length ≤ 1000) : XE X (.BinOp a .Add b pos) σ H (LstP fun ys => ys = xs ++ zs) :=
  XE.imp (xe_cat ha hb fun x z h1 h2 => by subst h1 h2; omega) fun v H2 _ ⟨p, ys, e1, e2, x, z, h1, h2, h3⟩ => ⟨p, ys, e1, e2, by rw [h3, h1, h2]⟩
theorem xe_str1 {X : Cx} {σ : St} {H : Hp} {pos p1 : Pos} {j : _} {z : Str} : XE X (.List [.Constant (.str z) j p1] pos) σ H (LstP fun ys => ys = [V.str z]) :=
  XE.imp (xe_lst (Rs := [Is (.str z)]) (xa_cons xe_str xa_nil) (by simp)) fun v H2 _ r => lstP_of (lstR_is (xs := [V.str z]) r)
theorem oneOf_str {ss : List Str} {v : V} {H : Hp} (h : OneOf (ss.map V.str) v H) : ∃ z ∈ ss, v = .str z := by
  obtain ⟨z, hz, e⟩ := List.mem_map.mp h
  exact ⟨z, hz, e.symm⟩
/-- some text of these -/
def StrIn (ss : List Str) : VP := fun v _ => ∃ z ∈ ss, v = .str z
instance (ss : List Str) : Mon (StrIn ss) := ⟨fun _ _ _ _ h => h⟩
theorem word_len : ∀ w ∈ lWORDS, w.length ≤ 10 := by decide +kernel
/-- what is known while rows are made -/
structure LtK (G : Hp) (b m s : Addr) (ws : List Str) : Prop where
  box : G b = some (BOX b)
  marks : G m = some (.lst (ws.map V.str))
  some_ : G s = some (.lst ((ws ++ [("any" : Str)]).map V.str))
  len : 2 ≤ ws.length ∧ ws.length ≤ 4
theorem LtK.mono {G G' : Hp} {b m s : Addr} {ws : List Str} (h : LtK G b m s ws) (e : Same G G') : LtK G' b m s ws := ⟨e _ _ h.box, e _ _ h.marks, e _ _ h.some_, h.len⟩
theorem rowsD_snoc {ws : List Str} {k : Nat} {rs : List LR} {r : LR} (h : rowsD ws k rs) (h1 : rowD ws r) (h2 : ∀ ts o b, r = .lead ts o b → ts.length ≤ k) : rowsD ws k (rs ++ [r]) := ⟨fun x hx => by
  rcases List.mem_append.mp hx with q | q
  · exact h.1 x q
  · rw [List.mem_singleton.mp q]; exact h1, fun ts o b hx => by
  rcases List.mem_append.mp hx with q | q
  · exact h.2 ts o b q
  · exact h2 ts o b (List.mem_singleton.mp q).symm⟩
theorem xs_insert0 {X : Cx} {e0 e o : Expr} {σ : St} {H : Hp} {rest : List Stmt} {D : Ends} {pos apos cpos : Pos} {l : Addr} {ys : List V} {R : VP} (ho : XV X o σ H (.ref l)) (h0 : XV X e0 σ H (.int 0)) (he : XE X e σ H R) (hl : H l = some (.lst ys)) (hz : ys.length < 1000000)
    (k : ∀ v H1, Same H H1 → R v H1 → XSs X rest D σ (upd H1 l (.lst (v :: ys))))
    (hbase : attributeBase o "insert" X.env (eval o X.env) = eval o X.env := by rfl)
    (hfew : ((backTo cpos (starEach [e0, e] X.env)).all (fun x => !x.1) && (backToKw cpos (keywordEach [] X.env)).all (fun x => x.1.isSome)
      && decide ([e0, e].length + ([] : List Keyword).length + (if ([] : List Keyword).isEmpty then 0 else 1) < 30)) = true := by rfl)
    (hline : (apos.endLine == cpos.line) = true := by rfl) (hs1 : starEach [e0, e] X.env = (false, eval e0 X.env) :: starEach [e] X.env := by rfl) (hs2 : starEach [e] X.env = (false, eval e X.env) :: starEach [] X.env := by rfl) (hplain : (backTo cpos (starEach [e] X.env)).any (·.1) = false := by rfl)
    (hs : swapsWith (.Call (.Attribute o "insert" apos) [e0, e] [] cpos) none pos.line X.env = pure false := by rfl) :
    XSs X (.Expr (.Call (.Attribute o "insert" apos) [e0, e] [] cpos) pos :: rest) D σ H :=
  xs_stepX (ps_expr (pe_bm PySem.F.plainAttrs_list PySem.F.slot_list_insert PySem.F.type_list_insert mt_insert pe_s (pa_cons pe_s (pa_cons pe_s pa_nil hs2) hs1) hbase hfew hline hs1 hplain) hs) fun H1 e1 => ho.s e1 fun v H2 e2 q => by
    cases q
    refine ⟨Or.inl ⟨rfl, _, SqL.of ((e1.trans e2) _ _ hl)⟩, h0.s (e1.trans e2) fun v H3 e3 q => ?_⟩
    cases q
    refine he.s ((e1.trans e2).trans e3) fun v H4 e4 r => ?_
    exact ⟨l, ys, 0, v, rfl, rfl, (((e1.trans e2).trans e3).trans e4) _ _ hl, sz_lt hz, by decide, by decide, k v H4 (((e1.trans e2).trans e3).trans e4) r⟩
theorem allR5 {R1 R2 R3 R4 R5 : VP} : ∀ {ws : List V} {H : Hp}, AllR [R1, R2, R3, R4, R5] ws H → ∃ a b c d e, ws = [a, b, c, d, e] ∧ R1 a H ∧ R2 b H ∧ R3 c H ∧ R4 d H ∧ R5 e H
  | [a, b, c, d, e], _, h => ⟨a, b, c, d, e, rfl, h.1, h.2.1, h.2.2.1, h.2.2.2.1, h.2.2.2.2.1⟩
  | [], _, h => h.elim
  | [_], _, h => h.2.elim
  | [_, _], _, h => h.2.2.elim
  | [_, _, _], _, h => h.2.2.2.elim
  | [_, _, _, _], _, h => h.2.2.2.2.elim
  | _ :: _ :: _ :: _ :: _ :: _ :: _, _, h => h.2.2.2.2.2.elim
theorem xe_sortedS {X : Cx} {e : Expr} {σ : St} {H : Hp} {p pos : Pos} {l : Addr} {ss : List Str} (hm : X.mg "sorted" = none) (ha : XV X e σ H (.ref l)) (hl : H l = some (.lst (ss.map V.str))) (hz : ss.length < 64) (hg : Gl X "sorted" := by rfl)
    (he : starEach [e] X.env = (false, eval e X.env) :: starEach [] X.env := by rfl) (hpl : (backTo pos (starEach [] X.env)).any (·.1) = false := by rfl) : XE X (.Call (.Name "sorted" p) [e] [] pos) σ H (LstP fun ys => ∃ zs : List Str, zs.Perm ss ∧ ys = zs.map V.str) :=
  xe_callB cr_sortedS hm (xa_cons ha xa_nil he) (fun vs H1 s1 hr H2 s2 Q k => by
    obtain ⟨v, rfl, hv⟩ := allR1 hr
    cases hv
    exact ⟨l, ss, rfl, SqL.of ((s1.trans s2) _ _ hl), hz, fun ys q hp _ hq => k _ _ (newS hq) ⟨q, _, rfl, upd_same, ys, hp, rfl⟩⟩) (by decide +kernel) hg (by decide) (by decide) he hpl
theorem xe_eq0 {X : Cx} {a : Expr} {σ : St} {H : Hp} {pos p2 : Pos} {j : _} {n : Nat} (ha : XE X a σ H (LtR n)) : XE X (.Compare a [.Eq] [.Constant (.int 0) j p2] pos) σ H BoolR :=
  xe_cmpR (Ra := LtR n) (Rb := Is (.int 0)) op_eq ha xe_int (fun x y H1 _ hx hy => by
    obtain ⟨r, rfl, _⟩ := hx
    cases hy
    exact fun H2 e Q k => rv_eqI (H := H1) H2 e Q fun v H3 e3 q => k v H3 e3 ⟨_, q⟩) (nomark _)
theorem tRows_snoc {rs : List LR} {r : LR} {xs : List V} {v : V} {G : Hp} (h : AllR (rs.map TRow) xs G) (hv : TRow r v G) : AllR ((rs ++ [r]).map TRow) (xs ++ [v]) G := by
  rw [List.map_append]
  exact h.append ⟨hv, trivial⟩
end
end LM

set_option maxHeartbeats 400000
namespace LM
open PySem PySem.Spec PyProof.Rows L2
section
variable {W : Wd}
abbrev xLT (W : Wd) (f : Addr) (cdv : Value) (A : Around) (outer : List Env) (s : Shared) (H : Hp) (E : XK) : Cx := cx W n_law_tool "_law_tool" s_law_tool f cdv A outer s H E
theorem any_mem {ws : List Str} {z : Str} (h : z ∈ ws ++ [("any" : Str)]) : z ∈ ws ∨ z = "any" := by
  rcases List.mem_append.mp h with q | q
  · exact .inl q
  · exact .inr (List.mem_singleton.mp q)
theorem cal_law_tool (B : Blt W) (c1 : Cal W 1 "_law_take" (Pure preTake)) (c2 : Cal W 2 "_law_pick" (Pure (prePick W))) (c3 : Cal W 2 "_law_shuffled" (Pure (preShuf W))) (c4 : Cal W 3 "_law_words" (Pure preWords)) (A : DefAt W "_law_tool" s_law_tool ["_law_box_here"]) : Cal W 4 "_law_tool" (Pure preLTool) := by
  refine cal_pure A sc_law_tool (fun vs H R h => by obtain ⟨_, rfl, _⟩ := h; rfl) fun f0 cdv A outer s H vs R E hr h => ?_
  obtain ⟨b, rfl, hb, rfl⟩ := h
  -- marks
  refine xs_set (R := LstP (WordsP 2 4)) 1 (xe_call c4 hr (xa_cons (R := Is (.ref b)) (xe_var 0 rfl) (xa_cons (R := fun v _ => ∃ k : Nat, v = .int k ∧ 2 ≤ k ∧ k ≤ 4) (m := ⟨fun _ _ _ _ h => h⟩) (xe_opR (Ra := Is (.int 2)) (Rb := LtR 3) op_add xe_int (xe_take c1 hr (xe_var 0 rfl) xe_int hb (n := 3) (by decide) (by decide)) fun x y H1 s1 hx hy => ?_) xa_nil)) fun vs H1 s1 hvs => ?_) (fun v H1 s1 hv => ?_) sc_law_tool.nd
  · cases hx
    obtain ⟨r, rfl, hr3⟩ := hy
    intro H2 s2 Q k
    exact ⟨2, r, rfl, rfl, k _ H2 (Same.refl _) ⟨2 + r, by simp, by omega, by omega⟩⟩
  · obtain ⟨_, _, rfl, q1, k, rfl, q2, q3⟩ := allR2 hvs
    cases q1
    exact ⟨b, k, 2, 4, rfl, s1 _ _ hb, q2, q3, by decide, rfl⟩
  obtain ⟨m, ys, rfl, hm, ws, rfl, wnd, wmem, wlo, whi⟩ := hv
  -- told
  refine XL.set (i := 2) (R := fun v H => ∃ l : List Str, l.Sublist (ws.drop 1) ∧ LstR (l.map fun s => Is (.str s)) v H) (xl_lcA (own := [("_law_mark", 12)]) (j := 12) (src := ws.drop 1) (rel := fun z => Is (.str z)) (ff := fun z => Is (.str z)) (XI.len (xi_lstV (xs := (ws.drop 1).map V.str) (xe_sliceLc (ys := (ws.drop 1).map V.str) (i := some ((1 : Nat) : Int)) (xe_var 1 rfl) (SqL.of hm) (.some xe_int) .none (by rw [cutV_from, List.map_drop]))) (by simp)) (fun _ _ _ _ _ _ => ys_X V.str _ _ _ _ _) (fun _ => inferInstance) (fun _ => inferInstance) (by rw [List.length_drop]; omega) sc_law_tool.nd (blkOk_by (N := n_law_tool) (sc := defScope s_law_tool) (by decide +kernel))
    (fun _ _ _ _ _ => pg_name (i := 12) sc_law_tool.nd rfl (Or.inl rfl)) (fun z x G' hz e1 hx => ⟨fun s0 H0 C cl fp => ?_, fun s0 H0 C cl fp => ?_⟩)) rfl rfl (by rfl) fun v H2 s2 hv => ?_
  · exact xta_cmp (Ra := LtR 3) (Rb := Is (.int 0)) op_gt (xe_take c1 hr (xe_var 0 rfl) xe_int ((s1.trans e1) _ _ hb) (n := 3) (by decide) (by decide)) xe_int (fun x y H1 _ hx hy => gt0 hx hy) (nomark _)
  · cases hx
    exact xe_var 12 rfl
  obtain ⟨told, htold, hv⟩ := hv
  obtain ⟨o, ysT, rfl, ho, tl', -, eT⟩ := strs_kept htold hv
  have eT2 : ysT = told.map V.str := by
    obtain ⟨a, e, ha⟩ := lstR_is (xs := told.map V.str) (by rw [List.map_map]; exact hv)
    cases e
    rw [ho] at ha
    exact HO.lst.inj (Option.some.inj ha)
  subst eT2
  have s02 := s1.trans s2
  -- parts
  refine xs_set (R := LstP fun ys => ∃ l : List Str, l.Sublist ["above", "below"] ∧ ys = (l ++ [("own" : Str)]).map V.str) 3 (XE.imp (xe_cat (P1 := fun ys => ∃ l : List Str, l.Sublist ["above", "below"] ∧ ys = l.map V.str) (P2 := fun ys => ys = [V.str "own"]) (XE.imp (XL.val (xl_lcA (own := [("_law_part", 13)]) (j := 13) (src := (["above", "below"] : List Str)) (rel := fun z => Is (.str z)) (ff := fun z => Is (.str z)) (XI.len (xi_tupV (xs := (["above", "below"] : List Str).map V.str) (XE.tupV (xs := (["above", "below"] : List Str).map V.str) (xe_tup (Rs := [Is (.str "above"), Is (.str "below")]) (xa_cons xe_str (xa_cons xe_str xa_nil)) (by simp)))) (by simp)) (fun _ _ _ _ _ _ => ys_X V.str _ _ _ _ _) (fun _ => inferInstance) (fun _ => inferInstance) (by decide) sc_law_tool.nd (blkOk_by (N := n_law_tool) (sc := defScope s_law_tool) (by decide +kernel))
    (fun _ _ _ _ _ => pg_name (i := 13) sc_law_tool.nd rfl (Or.inl rfl)) (fun z x G' hz e1 hx => ⟨fun s0 H0 C cl fp => ?_, fun s0 H0 C cl fp => ?_⟩))) fun v H3 _ ⟨l, h1, h2⟩ => strs_kept h1 h2) xe_str1 (fun xs zs h1 h2 => ?_)) fun v H3 _ ⟨p, ys, e1, e2, x, z, ⟨l, h1, h2⟩, h3, h4⟩ => ⟨p, ys, e1, e2, l, h1, by rw [h4, h2, h3]; simp⟩) (fun v H3 s3 hv => ?_) sc_law_tool.nd
  · exact xta_cmp (Ra := LtR 3) (Rb := Is (.int 0)) op_eq (xe_take c1 hr (xe_var 0 rfl) xe_int ((s02.trans e1) _ _ hb) (n := 3) (by decide) (by decide)) xe_int (fun x y H1 _ hx hy => eq0 hx hy) (nomark _)
  · cases hx
    exact xe_var 13 rfl
  · obtain ⟨l, h1, rfl⟩ := h1
    subst h2
    have := h1.length_le
    simp only [List.length_map, List.length_cons, List.length_nil] at this ⊢
    omega
  obtain ⟨p, ysP, rfl, hp, lp, hlp, rfl⟩ := hv
  have s03 := s02.trans s3
  have hm3 := (s2.trans s3) _ _ hm
  have ho3 := s3 _ _ ho
  have hw1 : ws[1]? = some (ws.getD 1 "") := by
    have : 1 < ws.length := by omega
    rw [List.getD_eq_getElem?_getD, List.getElem?_eq_getElem this]
    rfl
  have hw1m : ws.getD 1 "" ∈ ws := List.mem_of_getElem? hw1
  -- some, rows
  refine xs_par 4 5 (R1 := LstP fun ys => ys = (ws ++ [("any" : Str)]).map V.str) (R2 := NewLR H3 [TRow (.run "any" (ws.getD 1 ""))]) (xa_cons (XE.imp (xe_catK (zs := [V.str "any"]) (xe_known (xe_var 1 rfl) hm3) xe_str1 (by simp; omega)) fun v H4 _ ⟨p, ys, e1, e2, e3⟩ => ⟨p, ys, e1, e2, by rw [e3]; simp⟩) (xa_cons (m := ⟨fun v H H' e ⟨p, xs, h1, h2, h3, h4⟩ => ⟨p, xs, h1, h2, e _ _ h3, AllR.mono (.cons inferInstance .nil) e h4⟩⟩) (xe_lstNR (xa_cons (R := TRow (.run "any" (ws.getD 1 ""))) (XE.tupV (xs := [.str "run", .str "any", .str (ws.getD 1 "")]) (xe_tup (Rs := [Is (.str "run"), Is (.str "any"), Is (.str (ws.getD 1 ""))]) (xa_cons xe_str (xa_cons xe_str (xa_cons (xe_ixL (i := ((1 : Nat) : Int)) (xe_var 1 rfl) xe_int (SqL.of hm3) (atI_nat (by rw [List.getElem?_map, hw1]; rfl))) xa_nil))) (by simp))) xa_nil) (by simp)) xa_nil)) (fun v u H4 s4 hv hu => ?_) sc_law_tool.nd
  obtain ⟨sl, _, rfl, hsl, rfl⟩ := hv
  obtain ⟨r, rx, rfl, hr0, hrl, hrx⟩ := hu
  have s04 := s03.trans s4
  have hsr : sl ≠ r := fun e => by
    subst e
    rw [hsl] at hrl
    have e2 := HO.lst.inj (Option.some.inj hrl)
    have h1 := congrArg List.length e2
    have h2 := hrx.length
    simp at h1 h2
    omega
  obtain ⟨G, rfl, sG, fG⟩ := split_new (H := H3) (M := [(r, .lst rx)]) (okM_lst r rx).1 (fun z hz => by rw [List.mem_singleton.mp hz]; exact hrl) (fun z hz => by rw [List.mem_singleton.mp hz]; exact hr0) s4
  have gr : G r = none := fG (r, .lst rx) (by simp)
  have hslG : G sl = some (.lst ((ws ++ [("any" : Str)]).map V.str)) := by
    rw [upds_out (by simp [hsr])] at hsl
    exact hsl
  have K0 : LtK G b m sl ws := ⟨(s03.trans sG) _ _ hb, sG _ _ hm3, hslG, wlo, whi⟩
  have hrx0 : AllR ([LR.run "any" (ws.getD 1 "")].map TRow) rx G := tRows_down (okM_lst r rx) hrx
  have hd0 : rowsD ws 2 [LR.run "any" (ws.getD 1 "")] := ⟨fun x hx => by rw [List.mem_singleton.mp hx]; exact ⟨.inr rfl, hw1m⟩, fun ts o b hx => by cases List.mem_singleton.mp hx⟩
  have hneM : ws.map V.str ≠ [] := fun e => by
    rw [List.map_eq_nil_iff] at e
    subst e
    simp at wlo
  let Pv : Nat → Nat → St → Hp → Prop := fun c i σ' H' => ∃ (G2 : Hp) (xs : List V) (rs : List LR) (u6 u7 u8 u9 u10 u11 u12 u13 : Option V), H' = Upds G2 [(r, .lst xs)] ∧ Same G G2 ∧ G2 r = none ∧ AllR (rs.map TRow) xs G2 ∧ rowsD ws 2 rs ∧ 0 < rs.length ∧ rs.length ≤ c + i ∧ σ' = [some (.ref b), some (.ref m), some (.ref o), some (.ref p), some (.ref sl), some (.ref r), u6, u7, u8, u9, u10, u11, u12, u13]
  have numR : ∀ {e2 : Expr} {pos : Pos} {j : _} {p1 : Pos} {σ : L2.St} {Hq : Hp}, XE (xLT W f0 cdv A outer s H E) e2 σ Hq (LtR 3) → XE (xLT W f0 cdv A outer s H E) (.BinOp (.Constant (.int 1) j p1) .Add e2 pos) σ Hq (fun v _ => ∃ n : Nat, v = .int n ∧ n ≤ 3) := fun {e2 pos j p1 σ Hq} h => xe_opR (Ra := Is (.int 1)) (Rb := LtR 3) op_add xe_int h fun x y H1 s1 hx hy => by
    cases hx
    obtain ⟨q, rfl, hq⟩ := hy
    intro H2 s2 Q k
    exact ⟨1, q, rfl, rfl, k _ H2 (Same.refl _) ⟨1 + q, by simp, by omega⟩⟩
  refine xs_forN (N := 3) (i0 := 6) B.range (numR (xe_take c1 hr (xe_var 0 rfl) xe_int (upds_ge fG _ _ K0.box) (n := 3) (by decide) (by decide))) (by decide) (fun v H1 h => h) (pg_name (i := 6) sc_law_tool.nd rfl (Or.inl rfl)) (Pv 1) (fun H5 s5 => ?_) (fun i σ' H' hi hP => ?_) (fun i σ' H' hi hP => ?_)
  · obtain ⟨G5, rfl, sG5, f5⟩ := renorm (okM_lst r rx).1 fG s5
    exact ⟨G5, rx, _, _, _, _, _, _, _, _, _, rfl, sG5, f5 (r, .lst rx) (by simp), AllR.mono (monTR _) sG5 hrx0, hd0, by simp, by simp, rfl⟩
  · -- a lead
    obtain ⟨G2, xs, rs, u6, u7, u8, u9, u10, u11, u12, u13, rfl, sG2, g2, hxs, hd, hpos, hlen, rfl⟩ := hP
    have K2 := K0.mono sG2
    have K2u : LtK (Upds G2 [(r, .lst xs)]) b m sl ws := K2.mono (upds_ge (fresh1 g2))
    refine xs_set (R := LstP fun ys => ys.Perm ((["own", "above", "below"] : List Str).map V.str)) 7 (xe_call c3 hr (xa_cons (R := Is (.ref b)) (xe_var 0 rfl) (xa_cons (R := LstP fun ys => ys = (["own", "above", "below"] : List Str).map V.str) (xe_strs (ss := ["own", "above", "below"]) (xa_cons xe_str (xa_cons xe_str (xa_cons xe_str xa_nil))) (by decide)) xa_nil)) fun vs H5 s5 hvs => ?_) (fun v H5 s5 hv => ?_) sc_law_tool.nd
    · obtain ⟨_, _, rfl, q1, l, _, rfl, hl, rfl⟩ := allR2 hvs
      cases q1
      exact ⟨b, l, _, rfl, s5 _ _ K2u.box, .inl (SqL.of hl), by simp, by simp, rfl⟩
    obtain ⟨pl, _, rfl, hpl, hperm⟩ := hv
    obtain ⟨ps, hps, rfl⟩ := perm_strs hperm
    have psP : ∀ x ∈ ps, x ∈ lPARTS := fun x hx => by
      have : ∀ x ∈ (["own", "above", "below"] : List Str), x ∈ lPARTS := by decide +kernel
      exact this x (hps.mem_iff.mp hx)
    have psN : ps.Nodup := hps.nodup_iff.mpr (by decide +kernel)
    have psL : ps.length = 3 := hps.length_eq
    have K5 := K2u.mono s5
    refine XL.set (i := 8) (R := LstR (ps.map TestR)) (xl_lcM (own := [("_law_part", 13)]) (j := 13) (src := ps) (rel := fun z => Is (.str z)) (ff := TestR) (XI.len (xi_listX (xe_var 7 rfl) (SqL.of hpl)) (by simp)) (fun _ _ _ _ _ _ => ys_X V.str _ _ _ _ _) (fun _ => inferInstance) (fun _ => inferInstance) (by omega) sc_law_tool.nd (blkOk_by (N := n_law_tool) (sc := defScope s_law_tool) (by decide +kernel))
      (fun _ _ _ _ _ => pg_name (i := 13) sc_law_tool.nd rfl (Or.inl rfl)) (fun z x G' hz e1 hx s0 H0 C cl fp => ?_)) rfl rfl (by rfl) fun v H6 s6 hv => ?_
    · cases hx
      obtain ⟨t1, t2, t3, t4⟩ := parts_tests z (psP z hz)
      have zl : z.length ≤ 10 := by
        have : ∀ p ∈ lPARTS, p.length ≤ 10 := by decide +kernel
        exact this z (psP z hz)
      refine xe_opR (Ra := OneOf ((["", "", "not "] : List Str).map V.str)) (Rb := Is (.str z)) op_add_str (xe_pick c2 hr (xe_var 0 rfl) (xe_strs (ss := ["", "", "not "]) (xa_cons xe_str (xa_cons xe_str (xa_cons xe_str xa_nil))) (by decide)) (e1 _ _ K5.box) (by simp) (by simp)) (xe_var 13 rfl) fun x y H7 s7 hx hy => ?_
      cases hy
      obtain ⟨w, hw, rfl⟩ := oneOf_str hx
      intro H8 s8 Q k
      have hw' : w = "" ∨ w = "not " := by simpa using hw
      rcases hw' with rfl | rfl
      · exact ⟨_, _, rfl, rfl, sz_of (by have : ("" : Str).length = 0 := by decide +kernel
                                         omega), k _ H8 (Same.refl _) ⟨z, by
          have : (("" : Str) ++ z) = z := by apply TL.ext_tl; rw [TL.tl_append]; rfl
          rw [this], t1, t2⟩⟩
      · exact ⟨_, _, rfl, rfl, sz_of (by have : ("not " : Str).length = 4 := by decide +kernel
                                         omega), k _ H8 (Same.refl _) ⟨_, rfl, t3, t4⟩⟩
    obtain ⟨tl, tys, rfl, htl, htys⟩ := hv
    obtain ⟨ts, rfl, tsT, tsP⟩ := tests_of htys
    have K6 := K5.mono s6
    have tsL : ts.length = 3 := by rw [← psL, ← tsP, List.length_map]
    refine xs_set (R := StrIn (ws.drop 1 ++ [("any" : Str)])) 9 (XE.imp (xe_pick (xs := (ws.drop 1 ++ [("any" : Str)]).map V.str) c2 hr (xe_var 0 rfl) (XE.imp (xe_catK (xs := (ws.drop 1).map V.str) (zs := [V.str "any"]) (XE.imp (xe_sliceLc (ys := (ws.drop 1).map V.str) (i := some ((1 : Nat) : Int)) (xe_var 1 rfl) (SqL.of K6.marks) (.some xe_int) .none (by rw [cutV_from, List.map_drop])) fun v H7 _ h => lstP_of h) xe_str1 (by simp; omega)) fun v H7 _ ⟨p, ys, e1, e2, e3⟩ => ⟨p, ys, e1, e2, by rw [e3, List.map_append]; rfl⟩) K6.box (by simp) (by simp; omega)) fun v H7 _ h => oneOf_str h) (fun v H7 s7 hv => ?_) sc_law_tool.nd
    obtain ⟨old, hold, rfl⟩ := hv
    have K7 := K6.mono s7
    have hrr : Upds G2 [(r, .lst xs)] r = some (.lst xs) := upds_at (i := 0) (okM_lst r xs).1 rfl
    have s57 := (s5.trans s6).trans s7
    refine xs_append (R := fun v H => ∃ k t, k < 3 ∧ t ∈ ws ∧ TRow (.lead (ts.take k) old t) v H) (xe_var 5 rfl) (XE.imp (xe_tup (Rs := [Is (.str "lead"), fun v H => ∃ k, k < 3 ∧ TupV ((ts.take k).map V.str) v H, Is (.str old), StrIn ws]) (xa_cons xe_str (xa_cons (m := ⟨fun v H H' e ⟨k, h1, h2⟩ => ⟨k, h1, Mon.mono _ _ _ e h2⟩⟩) (XE.imp (xe_tupleP B.tuple (xe_sliceN (P := fun ys => ys = ts.map V.str) (xe_known (xe_var 8 rfl) (s7 _ _ htl)) (xe_take c1 hr (xe_var 0 rfl) xe_int K7.box (n := 3) (by decide) (by decide)))) fun v H8 _ ⟨a, ys, e1, e2, zs, k, h1, h2, h3⟩ => ⟨k, h3, a, e1, by rw [e2, h2, h1, List.map_take]⟩) (xa_cons (xe_var 9 rfl) (xa_cons (XE.imp (xe_pick (xs := ws.map V.str) c2 hr (xe_var 0 rfl) (xe_known (xe_var 1 rfl) K7.marks) K7.box hneM (by simp; omega)) fun v H8 _ h => oneOf_str h) xa_nil)))) (by simp)) fun v H8 _ ⟨T, us, e, hT, hus⟩ => ?_) (s57 _ _ hrr) (by
      have := hxs.length
      rw [List.length_map] at this
      omega) fun v H8 s8 hv => ?_
    · obtain ⟨_, _, _, _, rfl, q1, ⟨k, hk, q, rfl, hq⟩, q3, z, hz, rfl⟩ := allR4 hus
      cases q1; cases q3
      exact ⟨k, z, hk, hz, T, q, e, hT, hq⟩
    obtain ⟨k, tt, hk, htt, hrow⟩ := hv
    obtain ⟨G8, rfl, sG8, f8⟩ := renorm (okM_lst r xs).1 (fresh1 g2) (s57.trans s8)
    have g8 : G8 r = none := f8 (r, .lst xs) (by simp)
    rw [upds_set (i := 0) (okM_lst r xs).1 rfl]
    refine xs_nil fun H9 s9 => ?_
    obtain ⟨G9, rfl, sG9, f9⟩ := renorm (okM_lst r (xs ++ [v])).1 (fresh1 g8) s9
    have hrow8 := tRow_down (okM_lst r xs) hrow
    have hrd : rowD ws (.lead (ts.take k) old tt) := ⟨fun x hx => tsT x (List.mem_of_mem_take hx), by rw [List.map_take, tsP]; exact psN.sublist (List.take_sublist _ _), by
      rcases List.mem_append.mp hold with q | q
      · exact .inl q
      · exact .inr (List.mem_singleton.mp q), htt⟩
    refine ⟨G9, xs ++ [v], rs ++ [.lead (ts.take k) old tt], _, _, _, _, _, _, _, _, rfl, (sG2.trans sG8).trans sG9, f9 (r, .lst (xs ++ [v])) (by simp), AllR.mono (monTR _) sG9 (tRows_snoc (AllR.mono (monTR _) sG8 hxs) hrow8), rowsD_snoc hd hrd (fun ts' o' b' e => ?_), by simp, by simp; omega, rfl⟩
    cases e
    rw [List.length_take]
    omega
  -- joins
  obtain ⟨G2, xs, rs, u6, u7, u8, u9, u10, u11, u12, u13, rfl, sG2, g2, hxs, hd, hpos, hlen, rfl⟩ := hP
  have K2 := K0.mono sG2
  refine xs_forN (N := 3) (i0 := 6) B.range (numR (xe_take c1 hr (xe_var 0 rfl) xe_int (upds_ge (fresh1 g2) _ _ K2.box) (n := 3) (by decide) (by decide))) (by decide) (fun v H1 h => h) (pg_name (i := 6) sc_law_tool.nd rfl (Or.inl rfl)) (Pv 4) (fun H5 s5 => ?_) (fun i2 σ' H' hi2 hP => ?_) (fun i2 σ' H' hi2 hP => ?_)
  · obtain ⟨G5, rfl, sG5, f5⟩ := renorm (okM_lst r xs).1 (fresh1 g2) s5
    exact ⟨G5, xs, rs, _, _, _, _, _, _, _, _, rfl, sG2.trans sG5, f5 (r, .lst xs) (by simp), AllR.mono (monTR _) sG5 hxs, hd, hpos, by omega, rfl⟩
  · clear K2 hlen hpos hd hxs g2 sG2 hi
    obtain ⟨G2, xs, rs, u6, u7, u8, u9, u10, u11, u12, u13, rfl, sG2, g2, hxs, hd, hpos, hlen, rfl⟩ := hP
    have K2 := K0.mono sG2
    have K2u : LtK (Upds G2 [(r, .lst xs)]) b m sl ws := K2.mono (upds_ge (fresh1 g2))
    have hne : (ws ++ [("any" : Str)]).map V.str ≠ [] := by simp
    refine xs_par 10 11 (R1 := StrIn (ws ++ [("any" : Str)])) (R2 := StrIn (ws ++ [("any" : Str)])) (xa_cons (XE.imp (xe_pick c2 hr (xe_var 0 rfl) (xe_known (xe_var 4 rfl) K2u.some_) K2u.box hne (by simp; omega)) fun v H8 _ h => oneOf_str h) (xa_cons (XE.imp (xe_pick c2 hr (xe_var 0 rfl) (xe_known (xe_var 4 rfl) K2u.some_) K2u.box hne (by simp; omega)) fun v H8 _ h => oneOf_str h) xa_nil)) (fun v u H5 s5 hv hu => ?_) sc_law_tool.nd
    obtain ⟨ha, hha, rfl⟩ := hv
    obtain ⟨ca, hca, rfl⟩ := hu
    have K5 := K2u.mono s5
    have hrr : Upds G2 [(r, .lst xs)] r = some (.lst xs) := upds_at (i := 0) (okM_lst r xs).1 rfl
    refine xs_append (R := fun v H => ∃ t, (t ∈ ws ∨ t = "here" ∨ t = "came") ∧ TRow (.join ha ca t) v H) (xe_var 5 rfl) (XE.imp (xe_tup (Rs := [Is (.str "join"), Is (.str ha), Is (.str ca), StrIn (ws ++ (["here", "came"] : List Str))]) (xa_cons xe_str (xa_cons (xe_var 10 rfl) (xa_cons (xe_var 11 rfl) (xa_cons (XE.imp (xe_pick (xs := (ws ++ (["here", "came"] : List Str)).map V.str) c2 hr (xe_var 0 rfl) (XE.imp (xe_catK (zs := (["here", "came"] : List Str).map V.str) (xe_known (xe_var 1 rfl) K5.marks) (xe_strs (ss := ["here", "came"]) (xa_cons xe_str (xa_cons xe_str xa_nil)) (by decide)) (by simp; omega)) fun v H7 _ ⟨p, ys, e1, e2, e3⟩ => ⟨p, ys, e1, e2, by rw [e3, ← List.map_append]⟩) K5.box (by simp) (by simp; omega)) fun v H8 _ h => oneOf_str h) xa_nil)))) (by simp)) fun v H8 _ ⟨T, us, e, hT, hus⟩ => ?_) (s5 _ _ hrr) (by
      have := hxs.length
      rw [List.length_map] at this
      omega) fun v H8 s8 hv => ?_
    · obtain ⟨_, _, _, _, rfl, q1, q2, q3, z, hz, rfl⟩ := allR4 hus
      cases q1; cases q2; cases q3
      refine ⟨z, ?_, T, e, hT⟩
      rcases List.mem_append.mp hz with q | q
      · exact .inl q
      · exact .inr (by simpa using q)
    obtain ⟨tt, htt, hrow⟩ := hv
    obtain ⟨G8, rfl, sG8, f8⟩ := renorm (okM_lst r xs).1 (fresh1 g2) (s5.trans s8)
    have g8 : G8 r = none := f8 (r, .lst xs) (by simp)
    rw [upds_set (i := 0) (okM_lst r xs).1 rfl]
    refine xs_nil fun H9 s9 => ?_
    obtain ⟨G9, rfl, sG9, f9⟩ := renorm (okM_lst r (xs ++ [v])).1 (fresh1 g8) s9
    have hrow8 := tRow_down (okM_lst r xs) hrow
    have hrd : rowD ws (.join ha ca tt) := ⟨any_mem hha, any_mem hca, htt⟩
    exact ⟨G9, xs ++ [v], rs ++ [.join ha ca tt], _, _, _, _, _, _, _, _, rfl, (sG2.trans sG8).trans sG9, f9 (r, .lst (xs ++ [v])) (by simp), AllR.mono (monTR _) sG9 (tRows_snoc (AllR.mono (monTR _) sG8 hxs) hrow8), rowsD_snoc hd hrd (fun ts o b e => nomatch e), by simp, by simp; omega, rfl⟩
  -- one more run, the end
  · clear K2 hlen hpos hd hxs g2 sG2 hi
    obtain ⟨G2, xs, rs, u6, u7, u8, u9, u10, u11, u12, u13, rfl, sG2, g2, hxs, hd, hpos, hlen, rfl⟩ := hP
    have fin : ∀ (G2 : Hp) (xs : List V) (rs : List LR) (u6 u7 u8 u9 u10 u11 u12 u13 : Option V), Same G G2 → G2 r = none → AllR (rs.map TRow) xs G2 → rowsD ws 2 rs → 0 < rs.length → rs.length ≤ 8 →
        XSs (xLT W f0 cdv A outer s H E) ((defBody s_law_tool).drop 7) (RetD H fun v H' => ∃ t, DrawnT 2 8 t ∧ DTool t v H') [some (.ref b), some (.ref m), some (.ref o), some (.ref p), some (.ref sl), some (.ref r), u6, u7, u8, u9, u10, u11, u12, u13] (Upds G2 [(r, .lst xs)]) := fun G2 xs rs u6 u7 u8 u9 u10 u11 u12 u13 sG2 g2 hxs hd hpos hlen => by
      have gu : Same G2 (Upds G2 [(r, HO.lst xs)]) := upds_ge (fresh1 g2)
      have K2 := (K0.mono sG2).mono gu
      have s3G := (sG.trans sG2).trans gu
      have hrr : Upds G2 [(r, .lst xs)] r = some (.lst xs) := upds_at (i := 0) (okM_lst r xs).1 rfl
      refine xs_ret (R := TupR [Is (.ref m), Is (.ref o), LstP fun ys => ∃ zs : List Str, zs.Perm (lp ++ [("own" : Str)]) ∧ ys = zs.map V.str, BoolR, Is (.ref r)]) (xe_tup (xa_cons (xe_var 1 rfl) (xa_cons (xe_var 2 rfl) (xa_cons (xe_sortedS B.sorted (xe_var 3 rfl) (s3G _ _ hp) (by have := hlp.length_le; simp at this ⊢; omega)) (xa_cons (xe_eq0 (xe_take c1 hr (xe_var 0 rfl) xe_int K2.box (n := 2) (by decide) (by decide))) (xa_cons (xe_var 5 rfl) xa_nil))))) (by simp)) fun v H9 s9 r9 => ?_
      obtain ⟨T, us, rfl, hT, hus⟩ := r9
      obtain ⟨_, _, _, _, _, rfl, q1, q2, ⟨pp, _, rfl, hpp, zs, hzs, rfl⟩, ⟨cl, rfl⟩, q5⟩ := allR5 hus
      cases q1; cases q2; cases q5
      have s39 := s3G.trans s9
      have lpP : ∀ x ∈ lp ++ [("own" : Str)], x ∈ lPARTS := fun x hx => by
        rcases List.mem_append.mp hx with q | q
        · have h1 := hlp.subset q
          have : ∀ x ∈ (["above", "below"] : List Str), x ∈ lPARTS := by decide +kernel
          exact this x h1
        · rw [List.mem_singleton.mp q]; decide +kernel
      have lpN : (lp ++ [("own" : Str)]).Nodup := by
        refine nodup_snoc ((show (["above", "below"] : List Str).Nodup by decide +kernel).sublist hlp) fun q => ?_
        have h1 := hlp.subset q
        revert h1
        decide +kernel
      refine ⟨s03.trans s39, ⟨ws, told, zs, cl, rs⟩, ⟨⟨wnd, wmem, wlo, whi⟩, htold, ⟨hzs.nodup_iff.mpr lpN, fun x hx => lpP x (hzs.mem_iff.mp hx), hzs.mem_iff.mpr (by simp)⟩, hd, hpos, hlen⟩, T, m, o, pp, r, xs, rfl, hT, s9 _ _ K2.marks, s39 _ _ ho3, hpp, s9 _ _ hrr, AllR.mono (monTR _) (gu.trans s9) hxs⟩
    have K2 := K0.mono sG2
    have K2u : LtK (Upds G2 [(r, .lst xs)]) b m sl ws := K2.mono (upds_ge (fresh1 g2))
    have hrr : Upds G2 [(r, .lst xs)] r = some (.lst xs) := upds_at (i := 0) (okM_lst r xs).1 rfl
    refine xs_ifA (xta_cmp (Ra := LtR 2) (Rb := Is (.int 0)) op_eq (xe_take c1 hr (xe_var 0 rfl) xe_int K2u.box (n := 2) (by decide) (by decide)) xe_int (fun x y H1 _ hx hy => eq0 hx hy) (nomark _)) ?_ ?_
    · refine xs_insert0 (R := fun v H => ∃ a t, (a ∈ ws ∨ a = "any") ∧ t ∈ ws ∧ TRow (.run a t) v H) (xe_var 5 rfl) xe_int (XE.imp (xe_tup (Rs := [Is (.str "run"), StrIn (ws ++ [("any" : Str)]), StrIn ws]) (xa_cons xe_str (xa_cons (XE.imp (xe_pick c2 hr (xe_var 0 rfl) (xe_known (xe_var 4 rfl) K2u.some_) K2u.box (by simp) (by simp; omega)) fun v H8 _ h => oneOf_str h) (xa_cons (XE.imp (xe_pick c2 hr (xe_var 0 rfl) (xe_known (xe_var 1 rfl) K2u.marks) K2u.box hneM (by simp; omega)) fun v H8 _ h => oneOf_str h) xa_nil))) (by simp)) fun v H8 _ ⟨T, us, e, hT, hus⟩ => ?_) hrr (by
        have := hxs.length
        rw [List.length_map] at this
        omega) fun v H8 s8 hv => ?_
      · obtain ⟨_, _, _, rfl, q1, ⟨a, ha, rfl⟩, t, ht, rfl⟩ := allR3 hus
        cases q1
        exact ⟨a, t, any_mem ha, ht, T, e, hT⟩
      obtain ⟨a, t, ha, ht, hrow⟩ := hv
      obtain ⟨G8, rfl, sG8, f8⟩ := renorm (okM_lst r xs).1 (fresh1 g2) s8
      have g8 : G8 r = none := f8 (r, .lst xs) (by simp)
      rw [upds_set (i := 0) (okM_lst r xs).1 rfl]
      have hrow8 := tRow_down (okM_lst r xs) hrow
      refine xs_nil fun H9 s9 => ?_
      obtain ⟨G9, rfl, sG9, f9⟩ := renorm (okM_lst r (v :: xs)).1 (fresh1 g8) s9
      have hrd : rowD ws (.run a t) := ⟨ha, ht⟩
      exact fin G9 (v :: xs) (.run a t :: rs) _ _ _ _ _ _ _ _ ((sG2.trans sG8).trans sG9) (f9 (r, .lst (v :: xs)) (by simp)) (AllR.mono (monTR _) sG9 (show AllR (TRow (.run a t) :: rs.map TRow) (v :: xs) G8 from ⟨hrow8, AllR.mono (monTR _) sG8 hxs⟩)) ⟨fun x hx => by
        rcases List.mem_cons.mp hx with q | q
        · rw [q]; exact hrd
        · exact hd.1 x q, fun ts o b hx => by
        rcases List.mem_cons.mp hx with q | q
        · cases q
        · exact hd.2 ts o b q⟩ (by simp) (by simp; omega)
    · refine xs_nil fun H9 s9 => ?_
      obtain ⟨G9, rfl, sG9, f9⟩ := renorm (okM_lst r xs).1 (fresh1 g2) s9
      exact fin G9 xs rs _ _ _ _ _ _ _ _ (sG2.trans sG9) (f9 (r, .lst xs) (by simp)) (AllR.mono (monTR _) sG9 hxs) hd hpos (by omega)
end
end LM

set_option maxHeartbeats 400000
namespace LM
open PySem PySem.Spec PyProof.Rows L2
/-- five names -/
abbrev gT5 (K : PySem.W.Frag) (i j k l m : Nat) : TG := gTup K 5 (gCons (gName i) (gCons (gName j) (gCons (gName k) (gCons (gName l) (gCons (gName m) gNil)))))
theorem gT5_ok {K : PySem.W.Frag} {i j k l m : Nat} {a : Addr} {u v w x y : V} {σ : St} {H : Hp} {Q : St → Hp → Prop} (hq : SqT K H a [u, v, w, x, y]) (h : Q (((((σ.set i (some u)).set j (some v)).set k (some w)).set l (some x)).set m (some y)) H) : gT5 K i j k l m (.ref a) σ H Q :=
  ⟨a, [u, v, w, x, y], rfl, hq, rfl, u, [v, w, x, y], rfl, v, [w, x, y], rfl, w, [x, y], rfl, x, [y], rfl, y, [], rfl, rfl, h⟩
theorem str_len_append (a b : Str) : (a ++ b).length = a.length + b.length := by
  show (a.cps ++ b.cps).size = _
  simp [Str.length]
theorem run_cat (o t : Str) : (Txt.join " " ["run", o] ++ (" to " : Str)) ++ t = (LR.run o t).text := by
  apply TL.ext_tl
  show _ = TL.tl (Txt.join " " ["run", o, "to", t])
  rw [sp_to, tl_join']
  simp only [TL.tl_append, tl_join', List.map, TL.joinL, List.append_assoc]
theorem join_cat (a c t : Str) : (Txt.join " " ["join", a, c] ++ (" to " : Str)) ++ t = (LR.join a c t).text := by
  apply TL.ext_tl
  show _ = TL.tl (Txt.join " " ["join", a, c, "to", t])
  rw [sp_to, tl_join']
  simp only [TL.tl_append, tl_join', List.map, TL.joinL, List.append_assoc]
theorem eqv_tups {ss zs : List Str} : PyData.eqv (.tuple (ss.map .str)) (.tuple (zs.map .str)) = decide (ss = zs) := eqvAll_strs ss zs
theorem tests_strOk : ∀ x ∈ lTESTS, PyData.strOk x = true := by decide +kernel
section
variable {W : Wd}
def preText (W : Wd) : List V → Hp → VP → Prop := fun vs H R => ∃ (t : LT) (v : V), vs = [v] ∧ DTool t v H ∧ t.small ∧ (∀ r ∈ t.rows, r.ok) ∧ R = Is (.str t.text)
/-- " ".join([word] + list) -/
theorem xe_line {X : Cx} {e : Expr} {σ : St} {H : Hp} {apos pos p1 p2 p3 p4 : Pos} {j1 j2 : _} {w : Str} {l : Addr} {ss : List Str} (h : XV X e σ H (.ref l)) (hl : H l = some (.lst (ss.map V.str))) (hz : ((w :: ss).map (·.length)).sum + (w :: ss).length * (" " : Str).length ≤ 3000) (hn : ss.length ≤ 100)
    (hs : starEach [.BinOp (.List [.Constant (.str w) j1 p1] p2) .Add e p3] X.env = [(false, eval (.BinOp (.List [.Constant (.str w) j1 p1] p2) .Add e p3) X.env)] := by rfl) (hline : (apos.endLine == pos.line) = true := by rfl) : XV X (.Call (.Attribute (.Constant (.str " ") j2 p4) "join" apos) [.BinOp (.List [.Constant (.str w) j1 p1] p2) .Add e p3] [] pos) σ H (.str (Txt.join " " (w :: ss))) :=
  xe_join (ys := w :: ss) (Ra := LstP fun ys => ys = [V.str w] ++ ss.map V.str) xe_str (xe_catK (xe_str1) (xe_known h hl) (by simp; omega)) (fun v H1 _ ⟨p, ys, e1, e2, e3⟩ => ⟨p, e1, .inl (SqL.of (by rw [e2, e3]; rfl))⟩) (by omega) hs (by rfl) hline
theorem cal_law_text (B : Blt W) (A : DefAt W "_law_tool_text" s_law_tool_text ["_law_tool_here"]) : Cal W 1 "_law_tool_text" (Pure (preText W)) := by
  refine cal_pure A sc_law_tool_text (fun vs H R h => by obtain ⟨_, _, rfl, _⟩ := h; rfl) fun f0 cdv A outer s H vs R E hr h => ?_
  obtain ⟨t, v, rfl, ⟨T, m, o, p, r, xs, rfl, hT, hm, ho, hp, hrr, hxs⟩, hsm, hok, rfl⟩ := h
  have hh := heads_len hsm
  have hlines := lines_len hsm
  have nd := sc_law_tool_text.nd
  refine xs_asg (g := gT5 W.K 1 2 3 4 5) (pg_tup rfl (pgs_cons (pg_name (i := 1) nd rfl (Or.inl rfl)) (pgs_cons (pg_name (i := 2) nd rfl (Or.inl rfl)) (pgs_cons (pg_name (i := 3) nd rfl (Or.inl rfl)) (pgs_cons (pg_name (i := 4) nd rfl (Or.inl rfl)) (pgs_cons (pg_name (i := 5) nd rfl (Or.inl rfl)) pgs_nil)))))) (R := Is (.ref T)) (xe_var 0 rfl) (fun v H1 s1 hv => ?_)
  cases hv
  refine gT5_ok (SqT.of (s1 _ _ hT)) ?_
  have hm1 := s1 _ _ hm
  have ho1 := s1 _ _ ho
  have hp1 := s1 _ _ hp
  have hrr1 := s1 _ _ hrr
  have hxs1 := AllR.mono (monTR _) s1 hxs
  refine xs_set (R := NewL H1 ((t.heads.map (Txt.join " ")).map V.str)) 6 (xe_lstN (xs := (t.heads.map (Txt.join " ")).map V.str) (xa_cons (xe_line (xe_var 1 rfl) hm1 (hh _ (by simp [LT.heads])).1 (by have := hsm.marks; omega)) (xa_cons (xe_line (xe_var 2 rfl) ho1 (hh _ (by simp [LT.heads])).1 (by have := hsm.told; omega)) (xa_cons (xe_line (xe_var 3 rfl) hp1 (hh _ (by simp [LT.heads])).1 (by have := hsm.parts; omega)) xa_nil))) (by simp [LT.heads])) (fun v H2 s2 hv => ?_) nd
  obtain ⟨l, rfl, hl0, hl⟩ := hv
  refine xs_append (R := Is (.str (sendOf t.clears))) (xe_var 6 rfl) (xe_if (p := t.clears) (xt_val (xe_var 4 rfl)) (fun hb => ?_) fun hb => ?_) hl (by simp [LT.heads]) (fun v H3 s3 hv => ?_)
  · rw [hb]; exact xe_str
  · rw [hb]; exact xe_str
  cases hv
  have hl3 : H3 l = some (.lst ((t.heads.map (Txt.join " ")).map V.str)) := s3 _ _ hl
  obtain ⟨G, hG, sG, fG⟩ := split_new (H := H1) (H1 := upd H3 l (.lst ((t.heads.map (Txt.join " ")).map V.str ++ [V.str (sendOf t.clears)]))) (M := [(l, .lst ((t.heads.map (Txt.join " ")).map V.str ++ [V.str (sendOf t.clears)]))]) (okM_lst l _).1 (fun z hz => by rw [List.mem_singleton.mp hz]; exact upd_same) (fun z hz => by rw [List.mem_singleton.mp hz]; exact hl0) (mutS (s2.trans s3) hl0)
  rw [hG]
  have gl : G l = none := fG _ (List.mem_singleton.mpr rfl)
  refine xs_for (M := [(l, .lst ((t.heads.map (Txt.join " ")).map V.str ++ [V.str (sendOf t.clears)]))]) (g := gName 7) (xi_seqR (rel := TRow) (xe_var 5 rfl) (.inl (sG _ _ hrr1)) (AllR.mono (monTR _) sG hxs1) fun _ => inferInstance) (okM_lst l _) fG (pg_name (i := 7) nd rfl (Or.inl rfl)) gmon_name
    (fun G2 i σ' H' => ∃ (G3 : Hp) (u7 u8 : Option V), H' = Upds G3 [(l, .lst (((t.heads.map (Txt.join " ")) ++ sendOf t.clears :: ((t.rows.take i).map LR.text)).map V.str))] ∧ Same G2 G3 ∧ G3 l = none ∧ σ' = [some (.ref T), some (.ref m), some (.ref o), some (.ref p), some (.bl t.clears), some (.ref r), some (.ref l), u7, u8])
    (fun G2 s2 f2 => ⟨G2, _, _, by simp, Same.refl _, f2 _ (List.mem_singleton.mpr rfl), rfl⟩) (fun G2 i σ' H' ⟨G3, _, _, hH, s3, g3, _⟩ => by rw [hH]; exact s3.trans (upds_ge (fresh1 g3))) (fun G2 i z σ' H' H'' s2 hi hP hy => ?_) (fun G2 σ' H' s2 hP => ?_)
  · obtain ⟨G3, u7, u8, rfl, s3, g3, rfl⟩ := hP
    obtain ⟨rfl, R, hR, hz⟩ := hy
    rw [List.getElem?_map] at hR
    cases hri : t.rows[i]? with
    | none => rw [hri] at hR; cases hR
    | some row =>
      rw [hri] at hR
      cases hR
      have hz3 : TRow row z (Upds G3 [(l, .lst (((t.heads.map (Txt.join " ")) ++ sendOf t.clears :: ((t.rows.take i).map LR.text)).map V.str))]) := Mon.mono _ _ _ (s3.trans (upds_ge (fresh1 g3))) hz
      have hsh := hsm.short row (List.mem_of_getElem? hri)
      have hrok := hok row (List.mem_of_getElem? hri)
      have et : t.rows.take (i + 1) = t.rows.take i ++ [row] := by rw [List.take_succ, hri]; rfl
      have hacc : (((t.heads.map (Txt.join " ")) ++ sendOf t.clears :: ((t.rows.take i).map LR.text)).map V.str).length < 1000000 := by
        have := hsm.rows
        simp [LT.heads]
        omega
      generalize eacc : ((t.heads.map (Txt.join " ")) ++ sendOf t.clears :: ((t.rows.take i).map LR.text)).map V.str = acc at hz3 hacc
      have hla : Upds G3 [(l, HO.lst acc)] l = some (.lst acc) := upds_at (i := 0) (okM_lst l acc).1 rfl
      have done : ∀ (H5 : Hp) (u7 u8 : Option V), Same (Upds G3 [(l, HO.lst acc)]) H5 → ∀ H6, Same (upd H5 l (.lst (acc ++ [V.str row.text]))) H6 → ∃ (G4 : Hp) (u7' u8' : Option V), H6 = Upds G4 [(l, .lst (((t.heads.map (Txt.join " ")) ++ sendOf t.clears :: ((t.rows.take (i + 1)).map LR.text)).map V.str))] ∧ Same G2 G4 ∧ G4 l = none ∧ ([some (.ref T), some (.ref m), some (.ref o), some (.ref p), some (.bl t.clears), some (.ref r), some (.ref l), u7, u8] : L2.St) = [some (.ref T), some (.ref m), some (.ref o), some (.ref p), some (.bl t.clears), some (.ref r), some (.ref l), u7', u8'] := fun H5 u7 u8 s5 H6 s6 => by
        obtain ⟨G5, rfl, sG5, f5⟩ := renorm (okM_lst l acc).1 (fresh1 g3) s5
        rw [upds_set (i := 0) (okM_lst l acc).1 rfl] at s6
        have g5 : G5 l = none := f5 (l, .lst acc) (by simp)
        obtain ⟨G6, rfl, sG6, f6⟩ := renorm (okM_lst l (acc ++ [V.str row.text])).1 (fresh1 g5) s6
        refine ⟨G6, _, _, ?_, (s3.trans sG5).trans sG6, f6 (l, .lst (acc ++ [V.str row.text])) (by simp), rfl⟩
        rw [et, ← eacc]
        simp
      cases row with
      | run a b =>
        obtain ⟨Tr, rfl, hTr⟩ := hz3
        obtain ⟨q1, q2⟩ := hsh
        refine xs_if (b := false) (XT.cast (xt_cmp (x := .str "run") (y := .str "lead") op_eq (xe_ixT (xe_var 7 rfl) xe_int (SqT.of hTr) (atI_nat (j := 0) rfl)) xe_str rv_eqS (nomark _)) (by decide +kernel)) (fun q => nomatch q) fun _ => ?_
        have e1 := join_len " " ["run", a]
        have k1 : ("run" : Str).length = 3 := by decide +kernel
        have k5 : (" " : Str).length = 1 := by decide +kernel
        have k6 : (" to " : Str).length = 4 := by decide +kernel
        simp only [List.map, List.sum_cons, List.sum_nil, List.length_cons, List.length_nil, k1, k5] at e1
        have e2 : (Txt.join " " ["run", a] ++ (" to " : Str)).length = (Txt.join " " ["run", a]).length + 4 := by
          rw [str_len_append, k6]
        refine xs_append (R := Is (.str (LR.run a b).text)) (xe_var 6 rfl) (XE.cast (xe_op (x := .str (Txt.join " " ["run", a] ++ (" to " : Str))) (y := .str b) op_add_str (xe_op (x := .str (Txt.join " " ["run", a])) (y := .str " to ") op_add_str (xe_join (ys := ["run", a]) (Ra := SeqV W.K ([V.str "run", .str a])) xe_str (xe_sliceT (i := none) (j := some (-1)) (xe_var 7 rfl) (SqT.of hTr) .none (.some (xe_neg xe_int))) (fun v H1 _ ⟨a, e1, e2⟩ => ⟨a, e1, e2⟩) (by simp only [List.map, List.sum_cons, List.sum_nil, List.length_cons, List.length_nil, k1, k5]; omega)) xe_str (fun H1 _ Q k => ⟨_, _, rfl, rfl, sz_of (by omega), k _ H1 (Same.refl _) rfl⟩)) (xe_ixT (xe_var 7 rfl) (xe_neg xe_int) (SqT.of hTr) rfl) (fun H1 _ Q k => ⟨_, _, rfl, rfl, sz_of (by omega), k _ H1 (Same.refl _) rfl⟩)) (by rw [run_cat])) hla hacc fun v H5 s5 hv => ?_
        cases hv
        exact xs_nil fun H6 s6 => xs_nil fun H7 s7 => done H5 _ _ s5 H7 (s6.trans s7)
      | join a c b =>
        obtain ⟨Tr, rfl, hTr⟩ := hz3
        obtain ⟨q1, q2, q3⟩ := hsh
        refine xs_if (b := false) (XT.cast (xt_cmp (x := .str "join") (y := .str "lead") op_eq (xe_ixT (xe_var 7 rfl) xe_int (SqT.of hTr) (atI_nat (j := 0) rfl)) xe_str rv_eqS (nomark _)) (by decide +kernel)) (fun q => nomatch q) fun _ => ?_
        have e1 := join_len " " ["join", a, c]
        have k1 : ("join" : Str).length = 4 := by decide +kernel
        have k5 : (" " : Str).length = 1 := by decide +kernel
        have k6 : (" to " : Str).length = 4 := by decide +kernel
        simp only [List.map, List.sum_cons, List.sum_nil, List.length_cons, List.length_nil, k1, k5] at e1
        have e2 : (Txt.join " " ["join", a, c] ++ (" to " : Str)).length = (Txt.join " " ["join", a, c]).length + 4 := by
          rw [str_len_append, k6]
        refine xs_append (R := Is (.str (LR.join a c b).text)) (xe_var 6 rfl) (XE.cast (xe_op (x := .str (Txt.join " " ["join", a, c] ++ (" to " : Str))) (y := .str b) op_add_str (xe_op (x := .str (Txt.join " " ["join", a, c])) (y := .str " to ") op_add_str (xe_join (ys := ["join", a, c]) (Ra := SeqV W.K ([V.str "join", .str a, .str c])) xe_str (xe_sliceT (i := none) (j := some (-1)) (xe_var 7 rfl) (SqT.of hTr) .none (.some (xe_neg xe_int))) (fun v H1 _ ⟨a, e1, e2⟩ => ⟨a, e1, e2⟩) (by simp only [List.map, List.sum_cons, List.sum_nil, List.length_cons, List.length_nil, k1, k5]; omega)) xe_str (fun H1 _ Q k => ⟨_, _, rfl, rfl, sz_of (by omega), k _ H1 (Same.refl _) rfl⟩)) (xe_ixT (xe_var 7 rfl) (xe_neg xe_int) (SqT.of hTr) rfl) (fun H1 _ Q k => ⟨_, _, rfl, rfl, sz_of (by omega), k _ H1 (Same.refl _) rfl⟩)) (by rw [join_cat])) hla hacc fun v H5 s5 hv => ?_
        cases hv
        exact xs_nil fun H6 s6 => xs_nil fun H7 s7 => done H5 _ _ s5 H7 (s6.trans s7)
      | lead ts a b =>
        obtain ⟨Tr, q, rfl, hTr, hq⟩ := hz3
        obtain ⟨hts, htn, -⟩ := hrok
        obtain ⟨q1, q2, q3, q4⟩ := hsh
        have hshort := text_short (r := .lead ts a b) ⟨q1, q2, q3, q4⟩
        refine xs_if (b := true) (XT.cast (xt_cmp (x := .str "lead") (y := .str "lead") op_eq (xe_ixT (xe_var 7 rfl) xe_int (SqT.of hTr) (atI_nat (j := 0) rfl)) xe_str rv_eqS (nomark _)) (by decide +kernel)) (fun _ => ?_) fun q => nomatch q
        have k5 : (" " : Str).length = 1 := by decide +kernel
        have k7 : (" and " : Str).length = 5 := by decide +kernel
        have k8 : ("always" : Str).length = 6 := by decide +kernel
        have hsum := sum_le' (k := 100) q2
        have hjl := join_len " and " ts
        rw [k7] at hjl
        have hal : (askedOf ts).length ≤ 2000 := by
          unfold askedOf
          split
          · rw [k8]; omega
          · omega
        have hix : ∀ {H9 : Hp}, Same (Upds G3 [(l, HO.lst acc)]) H9 → SqT W.K H9 Tr [.str "lead", .ref q, .str a, .str b] := fun {H9} e => SqT.of (e _ _ hTr)
        refine xs_setv 8 (v := .str (askedOf ts)) (xe_if (p := !decide (ts = [])) (xt_cmpR (Ra := Is (.ref q)) (Rb := TupV (([] : List Str).map V.str)) (op_neD (room64 hr)) (xe_ixT (xe_var 7 rfl) xe_int (SqT.of hTr) (atI_nat (j := 1) rfl)) (XE.tupV (xs := []) (xe_tup (Rs := []) xa_nil (by simp))) (fun x y H9 s9 hx hy => ?_) (nomark _)) (fun hb => ?_) fun hb => ?_) ?_ nd
        · cases hx
          obtain ⟨e, rfl, he⟩ := hy
          rw [← eqv_tups (ss := ts) (zs := [])]
          exact rv_neDt (dp_strsT (SqT.of (s9 _ _ hq))) (dp_strsT (SqT.of he)) (shaped_strsT fun x hx => tests_strOk x (hts x hx)) (shaped_strsT fun x hx => nomatch hx)
        · have hne : ts ≠ [] := by simpa using hb
          have e : askedOf ts = Txt.join " and " ts := by unfold askedOf; rw [if_neg hne]
          rw [e]
          exact xe_join (ys := ts) (Ra := Is (.ref q)) xe_str (xe_ixT (xe_var 7 rfl) xe_int (SqT.of hTr) (atI_nat (j := 1) rfl)) (fun v H1 s1 hv => ⟨q, hv, .inr (SqT.of (s1 _ _ hq))⟩) (by rw [k7]; omega)
        · have hne : ts = [] := by simpa using hb
          have e : askedOf ts = "always" := by unfold askedOf; rw [if_pos hne]
          rw [e]
          exact xe_str
        · refine xs_append (R := Is (.str (LR.lead ts a b).text)) (xe_var 6 rfl) (xe_join (ys := ["lead", askedOf ts, a, "to", b]) (Ra := LstV ((["lead", askedOf ts, a, "to", b] : List Str).map V.str)) xe_str (XE.lstV (xe_lst (Rs := [Is (.str "lead"), Is (.str (askedOf ts)), Is (.str a), Is (.str "to"), Is (.str b)]) (xa_cons xe_str (xa_cons (xe_var 8 rfl) (xa_cons (xe_ixT (xe_var 7 rfl) xe_int (SqT.of hTr) (atI_nat (j := 2) rfl)) (xa_cons xe_str (xa_cons (xe_ixT (xe_var 7 rfl) xe_int (SqT.of hTr) (atI_nat (j := 3) rfl)) xa_nil))))) (by simp))) (fun v H1 _ ⟨p, e1, e2⟩ => ⟨p, e1, .inl (SqL.of e2)⟩) (by
            have k2 : ("lead" : Str).length = 4 := by decide +kernel
            have k4 : ("to" : Str).length = 2 := by decide +kernel
            simp only [List.map, List.sum_cons, List.sum_nil, List.length_cons, List.length_nil, k2, k4, k5]
            omega)) hla hacc fun v H5 s5 hv => ?_
          cases hv
          exact xs_nil fun H6 s6 => xs_nil fun H7 s7 => done H5 _ _ s5 H7 (s6.trans s7)
  · obtain ⟨G3, u7, u8, rfl, s3', g3, rfl⟩ := hP
    rw [List.take_length]
    have hll : Upds G3 [(l, HO.lst (t.lines.map V.str))] l = some (.lst (t.lines.map V.str)) := upds_at (i := 0) (okM_lst l _).1 rfl
    have hsum := sum_le' (k := 5000) hlines.1
    have kn : ("\n" : Str).length = 1 := by decide +kernel
    show XSs _ _ _ _ (Upds G3 [(l, HO.lst (t.lines.map V.str))])
    refine xs_ret (R := Is (.str t.text)) (xe_join (ys := t.lines) (Ra := Is (.ref l)) xe_str (xe_var 6 rfl) (fun v H1 s1 hv => ⟨l, hv, .inl (SqL.of (s1 _ _ hll))⟩) (by rw [kn]; have := hlines.2; omega)) fun v H9 s9 hv => ⟨?_, hv⟩
    exact (((s1.trans sG).trans s2).trans s3').trans ((upds_ge (fresh1 g3)).trans s9)
end
end LM

set_option maxHeartbeats 400000
/-! plain: drawn tools are well made -/
namespace LM
open PySem L2
theorem words_names : ∀ w ∈ lWORDS, isName w = true ∧ w.length ≤ 100 ∧ w ≠ "any" := by
  have h : lWORDS.all (fun w => isName w && (decide (w.length ≤ 100) && decide (w ≠ "any"))) = true := by decide +kernel
  intro w hw
  have h1 := List.all_eq_true.mp h w hw
  simp only [Bool.and_eq_true, decide_eq_true_eq] at h1
  exact ⟨h1.1, h1.2.1, h1.2.2⟩
theorem any_no : isName "any" = false ∧ isName "here" = false ∧ isName "came" = false := by decide +kernel
theorem any_len : ("any" : Str).length ≤ 100 ∧ ("here" : Str).length ≤ 100 ∧ ("came" : Str).length ≤ 100 := by decide +kernel
section
variable {ws : List Str}
theorem old_ok (hw : ∀ w ∈ ws, w ∈ lWORDS) {o : Str} (h : o ∈ ws ∨ o = "any") : okOld o ∧ o.length ≤ 100 := by
  rcases h with h | h
  · obtain ⟨h1, h2, _⟩ := words_names o (hw o h)
    exact ⟨⟨h2, .inl h1⟩, h2⟩
  · subst h
    exact ⟨⟨any_len.1, .inr rfl⟩, any_len.1⟩
theorem tests_short : ∀ x ∈ lTESTS, x.length ≤ 100 := by decide +kernel
theorem rowD_ok (hw : ∀ w ∈ ws, w ∈ lWORDS) {r : LR} (h : rowD ws r) : r.ok ∧ (∀ n ∈ r.names, n ∈ ws) := by
  cases r with
  | run o t =>
    obtain ⟨h1, h2⟩ := h
    obtain ⟨k1, k2, _⟩ := words_names t (hw t h2)
    refine ⟨⟨(old_ok hw h1).1, k2, k1⟩, fun n hn => ?_⟩
    obtain ⟨m1, m2⟩ := List.mem_filter.mp hn
    simp only [LR.words, List.mem_cons, List.not_mem_nil, or_false] at m1
    rcases m1 with rfl | rfl
    · rcases h1 with q | q
      · exact q
      · subst q; rw [any_no.1] at m2; cases m2
    · exact h2
  | lead ts o t =>
    obtain ⟨h0, h0', h1, h2⟩ := h
    have h1' : o ∈ ws ∨ o = "any" := h1.imp (fun q => List.mem_of_mem_drop q) id
    obtain ⟨k1, k2, _⟩ := words_names t (hw t h2)
    refine ⟨⟨h0, h0', (old_ok hw h1').1, k2, k1⟩, fun n hn => ?_⟩
    obtain ⟨m1, m2⟩ := List.mem_filter.mp hn
    simp only [LR.words, List.mem_cons, List.not_mem_nil, or_false] at m1
    rcases m1 with rfl | rfl
    · rcases h1' with q | q
      · exact q
      · subst q; rw [any_no.1] at m2; cases m2
    · exact h2
  | join a c t =>
    obtain ⟨h1, h2, h3⟩ := h
    have ht : t.length ≤ 100 ∧ (isName t = true ∨ t = "here" ∨ t = "came") := by
      rcases h3 with q | q | q
      · obtain ⟨k1, k2, _⟩ := words_names t (hw t q)
        exact ⟨k2, .inl k1⟩
      · subst q; exact ⟨any_len.2.1, .inr (.inl rfl)⟩
      · subst q; exact ⟨any_len.2.2, .inr (.inr rfl)⟩
    refine ⟨⟨(old_ok hw h1).1, (old_ok hw h2).1, ht.1, ht.2⟩, fun n hn => ?_⟩
    obtain ⟨m1, m2⟩ := List.mem_filter.mp hn
    simp only [LR.words, List.mem_cons, List.not_mem_nil, or_false] at m1
    rcases m1 with rfl | rfl | rfl
    · rcases h1 with q | q
      · exact q
      · subst q; rw [any_no.1] at m2; cases m2
    · rcases h2 with q | q
      · exact q
      · subst q; rw [any_no.1] at m2; cases m2
    · rcases h3 with q | q | q
      · exact q
      · subst q; rw [any_no.2.1] at m2; cases m2
      · subst q; rw [any_no.2.2] at m2; cases m2
theorem rowD_short (hw : ∀ w ∈ ws, w ∈ lWORDS) {r : LR} (h : rowD ws r) (hk : ∀ ts o b, r = .lead ts o b → ts.length ≤ 3) : r.short := by
  cases r with
  | run o t => exact ⟨(old_ok hw h.1).2, (words_names t (hw t h.2)).2.1⟩
  | lead ts o t =>
    obtain ⟨h0, h0', h1, h2⟩ := h
    have h1' : o ∈ ws ∨ o = "any" := h1.imp (fun q => List.mem_of_mem_drop q) id
    exact ⟨Nat.le_trans (hk ts o t rfl) (by decide), fun x hx => tests_short x (h0 x hx), (old_ok hw h1').2, (words_names t (hw t h2)).2.1⟩
  | join a c t =>
    obtain ⟨h1, h2, h3⟩ := h
    refine ⟨(old_ok hw h1).2, (old_ok hw h2).2, ?_⟩
    rcases h3 with q | q | q
    · exact (words_names t (hw t q)).2.1
    · subst q; exact any_len.2.1
    · subst q; exact any_len.2.2
end
theorem DrawnT.ok {k n : Nat} {t : LT} (h : DrawnT k n t) (hn : n ≤ 1000) : t.ok where
  ne := fun e => by have := h.words.2.2.1; rw [e] at this; simp at this
  few := Nat.le_trans h.words.2.2.2 (by decide)
  names := fun m hm => let ⟨h1, h2, _⟩ := words_names m (h.words.2.1 m hm); ⟨h2, h1⟩
  nd := h.words.1
  told := fun m hm => h.told.subset hm
  toldNd := (h.words.1.sublist (List.drop_sublist _ _)).sublist h.told
  parts := h.parts.2.1
  partsNd := h.parts.1
  own := h.parts.2.2
  rows := fun r hr => (rowD_ok h.words.2.1 (h.rows.1 r hr)).1
  rowsFew := Nat.le_trans h.few.2 hn
  inM := fun r hr => (rowD_ok h.words.2.1 (h.rows.1 r hr)).2
  blank := fun r hr => by
    cases r with
    | run o b => rfl
    | join a c b => rfl
    | lead ts o b =>
      have hd := h.rows.1 _ hr
      obtain ⟨h0, h0', h1, h2⟩ := hd
      show decide (o = t.blank) = false
      refine decide_eq_false fun e => ?_
      have hb : t.blank = t.marks.headD "" := rfl
      obtain ⟨x, r', e2⟩ : ∃ x r', t.marks = x :: r' := by
        cases e3 : t.marks with
        | nil => have := h.words.2.2.1; rw [e3] at this; simp at this
        | cons x r' => exact ⟨x, r', rfl⟩
      rw [hb, e2] at e
      have e : o = x := e
      rw [e2] at h1
      rcases h1 with q | q
      · have nd := h.words.1
        rw [e2] at nd
        rw [e] at q
        exact (List.nodup_cons.mp nd).1 q
      · have hx := h.words.2.1 x (by rw [e2]; simp)
        rw [e] at q
        exact (words_names x hx).2.2 q
theorem DrawnT.small {k n : Nat} {t : LT} (h : DrawnT k n t) (hk : k ≤ 3) (hn : n ≤ 40) : t.small where
  marks := Nat.le_trans h.words.2.2.2 (by decide)
  mlen := fun m hm => (words_names m (h.words.2.1 m hm)).2.1
  told := by
    have h1 := h.told.length_le
    have h2 := h.words.2.2.2
    rw [List.length_drop] at h1
    omega
  tlen := fun m hm => (words_names m (h.words.2.1 m (List.mem_of_mem_drop (h.told.subset hm)))).2.1
  parts := by
    have := nodup_len h.parts.1 h.parts.2.1
    exact Nat.le_trans this (by decide)
  plen := fun p hp => by
    have : ∀ p ∈ lPARTS, p.length ≤ 100 := by decide +kernel
    exact this p (h.parts.2.1 p hp)
  rows := Nat.le_trans h.few.2 hn
  short := fun r hr => rowD_short h.words.2.1 (h.rows.1 r hr) fun ts o b e => Nat.le_trans (h.rows.2 ts o b (e ▸ hr)) hk
/-! rows that never fit behind another -/
inductive Shad : LR → LR → Prop
  | same (r : LR) : Shad r r
  | lead (ts more : List Str) (o b : Str) : Shad (.lead ts o b) (.lead (ts ++ more) o b)
  | run (t m t' : Str) : Shad (.run "any" t) (.run m t')
  | join (c t m t' : Str) : Shad (.join "any" c t) (.join m c t')
def LT.ins (t : LT) (i : Nat) (r : LR) : LT := { t with rows := t.rows.take i ++ r :: t.rows.drop i }
theorem DrawnT.ins {k n : Nat} {t : LT} (h : DrawnT k n t) {i : Nat} {r : LR} (hr : rowD t.marks r) (hk : ∀ ts o b, r = .lead ts o b → ts.length ≤ k + 1) : DrawnT (k + 1) (n + 1) (t.ins i r) where
  words := h.words
  told := h.told
  parts := h.parts
  rows := by
    have mem : ∀ x ∈ (t.ins i r).rows, x ∈ t.rows ∨ x = r := fun x hx => by
      rcases List.mem_append.mp hx with q | q
      · exact .inl (List.mem_of_mem_take q)
      · rcases List.mem_cons.mp q with q | q
        · exact .inr q
        · exact .inl (List.mem_of_mem_drop q)
    refine ⟨fun x hx => ?_, fun ts o b hx => ?_⟩
    · rcases mem x hx with q | q
      · exact h.rows.1 x q
      · rw [q]; exact hr
    · rcases mem _ hx with q | q
      · exact Nat.le_succ_of_le (h.rows.2 ts o b q)
      · exact hk ts o b q.symm
  few := by
    have := h.few
    show 0 < (t.rows.take i ++ r :: t.rows.drop i).length ∧ (t.rows.take i ++ r :: t.rows.drop i).length ≤ n + 1
    rw [List.length_append, List.length_cons, List.length_take, List.length_drop]
    omega
/-! parts that a lead does not look at -/
def occN (p text : Str) : Bool := !(!(Builtin.Str.occurrences text p 0 text.length 1).isEmpty)
def allTs : List (List Str) := [] :: (lTESTS.map fun x => [x]) ++ lTESTS.flatMap fun x => lTESTS.map fun y => [x, y]
theorem mem_allTs {ts : List Str} (h : ∀ x ∈ ts, x ∈ lTESTS) (hl : ts.length ≤ 2) : ts ∈ allTs := by
  match ts, hl with
  | [], _ => simp [allTs]
  | [x], _ =>
    have := h x (by simp)
    refine List.mem_append_left _ (List.mem_cons_of_mem _ (List.mem_map.mpr ⟨x, this, rfl⟩))
  | [x, y], _ =>
    have h1 := h x (by simp)
    have h2 := h y (by simp)
    exact List.mem_append_right _ (List.mem_flatMap.mpr ⟨x, h1, List.mem_map.mpr ⟨y, h2, rfl⟩⟩)
def moreOf (ts : List Str) : List Str := (["own", "above"] : List Str).filter fun p => occN p (Txt.join " " ts)
theorem more_ok {ts : List Str} (h : ∀ x ∈ ts, x ∈ lTESTS) (hnd : (ts.map partOf).Nodup) (hl : ts.length ≤ 2) : (∀ x ∈ ts ++ moreOf ts, x ∈ lTESTS) ∧ ((ts ++ moreOf ts).map partOf).Nodup ∧ (ts ++ moreOf ts).length ≤ 3 := by
  have key : allTs.all (fun ts => decide ((ts.map partOf).Nodup → (∀ x ∈ ts ++ moreOf ts, x ∈ lTESTS) ∧ ((ts ++ moreOf ts).map partOf).Nodup ∧ (ts ++ moreOf ts).length ≤ 3)) = true := by decide +kernel
  exact of_decide_eq_true (List.all_eq_true.mp key ts (mem_allTs h hl)) hnd
end LM

set_option maxHeartbeats 400000
namespace LM
open PySem PySem.Spec PyProof.Rows L2
section
variable {X : Cx} {a b e : Expr} {σ : St} {H : Hp} {pos p2 : Pos} {Rs Rs' : List VP} {xs : List V} {ad : Addr}
/-- tuple + tuple -/
theorem xe_catTR (m1 : MonL Rs) (m2 : MonL Rs') (ha : XE X a σ H (TupR Rs)) (hb : XE X b σ H (TupR Rs')) (hz : Rs.length + Rs'.length ≤ 1000) : XE X (.BinOp a .Add b pos) σ H (TupR (Rs ++ Rs')) :=
  XE.of (pe_op op_catA pe_s pe_s) fun H1 e Q k => ha.s e fun v H2 e2 ⟨p, xs, ev, hp, h1⟩ => hb.s (e.trans e2) fun u H3 e3 ⟨q, zs, eu, hq, h2⟩ => by
    subst ev eu
    have hx := AllR.mono m1 e3 h1
    refine ⟨p, q, xs, zs, rfl, rfl, SqT.of (e3 _ _ hp), SqT.of hq, by rw [h1.length, h2.length]; exact sz_of (by omega), fun e0 => ?_, fun _ e0 => ?_, fun _ _ l hl => ?_⟩
    · subst e0
      cases Rs with
      | nil => exact k _ H3 (e2.trans e3) ⟨q, zs, rfl, hq, h2⟩
      | cons R r => exact h1.elim
    · subst e0
      cases Rs' with
      | nil => exact k _ H3 (e2.trans e3) ⟨p, xs, rfl, e3 _ _ hp, by rw [List.append_nil]; exact hx⟩
      | cons R r => exact h2.elim
    · exact k _ _ ((e2.trans e3).trans (newS hl)) ⟨l, _, rfl, upd_same, (AllR.mono m1 (newS hl) hx).append (AllR.mono m2 (newS hl) h2)⟩
/-- a slice of a known tuple -/
theorem xe_sliceTV {lo hi : Option Expr} {i j : Option Int} {ys : List V} (he : XV X e σ H (.ref ad)) (hq : H ad = some (.tup xs)) (h1 : SlO X σ H lo i) (h2 : SlO X σ H hi j) (hc : cutV xs i j = ys) : XE X (.Subscript e (.Slice lo hi none p2) pos) σ H (TupR (ys.map Is)) := by
  subst hc
  obtain ⟨t1, p1, q1⟩ := h1.po
  obtain ⟨t2, p2', q2⟩ := h2.po
  exact XE.of (pe_slice sl_tupA pe_s p1 p2') fun H1 s1 Q k => he.s s1 fun v H2 e2 q => by
    cases q
    refine q1 H2 (s1.trans e2) _ fun H3 e3 => q2 H3 ((s1.trans e2).trans e3) _ fun H4 e4 => ⟨ad, xs, rfl, SqT.of ((((s1.trans e2).trans e3).trans e4) _ _ hq), fun hw => ?_, fun _ p hp => ?_⟩
    · have e : cutV xs i j = xs := cut_whole hw
      rw [e] at k
      exact k _ _ ((e2.trans e3).trans e4) ⟨ad, xs, rfl, (((s1.trans e2).trans e3).trans e4) _ _ hq, allR_isOf xs⟩
    · exact k _ _ (((e2.trans e3).trans e4).trans (newS hp)) ⟨p, _, rfl, upd_same, allR_isOf _⟩
/-- (e,) -/
theorem xe_tup1 {k : Nat} {R : VP} [Mon R] (h : XE X e σ H R) (hs : starEach [e] X.env = (false, eval e X.env) :: starEach [] X.env := by rfl) : XE X (.Tuple [e] k pos) σ H (TupR [R]) := xe_tup (xa_cons h xa_nil hs) (by simp)
end
section
variable {W : Wd}
/-! ### the small helpers -/
def preFw : List V → Hp → VP → Prop := fun vs H R => vs = [] ∧ R = LstV (lFAULTS.map V.str)
theorem cal_law_fw (A : DefAt W "_law_words_of_faults" s_law_words_of_faults []) : Cal W 1 "_law_words_of_faults" (Pure preFw) := by
  refine cal_pure A sc_law_words_of_faults (fun vs H R h => by obtain ⟨rfl, _⟩ := h; rfl) fun f0 cdv A outer s H vs R E hr h => ?_
  obtain ⟨rfl, rfl⟩ := h
  exact xs_ret (R := LstV (lFAULTS.map V.str)) (XE.lstV (xs := lFAULTS.map V.str) (xe_lst (Rs := (lFAULTS.map V.str).map Is) (xa_cons xe_str (xa_cons xe_str (xa_cons xe_str (xa_cons xe_str (xa_cons xe_str xa_nil))))) (by simp [lFAULTS]))) fun v H1 s1 r => ⟨s1, r⟩
def preMade (W : Wd) : List V → Hp → VP → Prop := fun vs H R => ∃ (t : LT) (v : V), vs = [v] ∧ DTool t v H ∧ t.ok ∧ t.small ∧ R = ToolR W t.norm
theorem cal_law_made (TC : ToolC W) (c1 : Cal W 1 "_law_tool_text" (Pure (preText W))) (c2 : CMeth W 10 (cTool W) "read" (Pure (preRead W))) (A : DefAt W "_law_made" s_law_made ["_law_tool_here"]) : Cal W 11 "_law_made" (Pure (preMade W)) := by
  refine cal_pure A sc_law_made (fun vs H R h => by obtain ⟨_, _, rfl, _⟩ := h; rfl) fun f0 cdv A outer s H vs R E hr h => ?_
  obtain ⟨t, v, rfl, hd, hok, hsm, rfl⟩ := h
  exact xs_ret (R := ToolR W t.norm) (xe_cmeth1 (x1 := .str t.text) c2 hr (xe_globR TC.mTool) (xe_call1 c1 hr (xe_var 0 rfl) fun H1 s1 => ⟨t, v, rfl, Mon.mono _ _ _ s1 hd, hsm, hok.rows, rfl⟩) fun H1 s1 => ⟨t, rfl, hok, hsm, rfl⟩) fun v H1 s1 r => ⟨s1, r⟩
/-! ### wider -/
def WideR (t : LT) : VP := fun v H' => ∃ (i : Nat) (r0 r' : LR) (T : Addr) (u : V), t.rows[i]? = some r0 ∧ Shad r0 r' ∧ DrawnT 3 9 (t.ins (i + 1) r') ∧ v = .ref T ∧ H' T = some (.tup [u, .int ((i + 1 : Nat) : Int)]) ∧ DTool (t.ins (i + 1) r') u H'
instance (t : LT) : Mon (WideR t) := ⟨fun v H H' e ⟨i, r0, r', T, u, h1, h2, h3, h4, h5, h6⟩ => ⟨i, r0, r', T, u, h1, h2, h3, h4, e _ _ h5, Mon.mono _ _ _ e h6⟩⟩
def preWider : List V → Hp → VP → Prop := fun vs H R => ∃ (b : Addr) (v : V) (t : LT), vs = [.ref b, v] ∧ H b = some (BOX b) ∧ DTool t v H ∧ DrawnT 2 8 t ∧ R = WideR t
theorem oneOf_ne {ss : List Str} (h : 2 ≤ ss.length) : ss.map V.str ≠ [] := fun e => by
  rw [List.map_eq_nil_iff] at e
  subst e
  simp at h
theorem cal_law_wider (B : Blt W) (c1 : Cal W 1 "_law_take" (Pure preTake)) (c2 : Cal W 2 "_law_pick" (Pure (prePick W))) (A : DefAt W "_law_wider" s_law_wider ["_law_box_here", "_law_tool_here"]) : Cal W 3 "_law_wider" (Pure preWider) := by
  refine cal_pure A sc_law_wider (fun vs H R h => by obtain ⟨_, _, _, rfl, _⟩ := h; rfl) fun f0 cdv A outer s H vs R E hr h => ?_
  obtain ⟨b, v, t, rfl, hb, ⟨T, m, o, p, r, xs, rfl, hT, hm, ho, hp, hrr, hxs⟩, hd, rfl⟩ := h
  have nd := sc_law_wider.nd
  have lx : xs.length = t.rows.length := by rw [hxs.length, List.length_map]
  have hfew := hd.few
  have hw2 := hd.words.2.2.1
  have hw4 := hd.words.2.2.2
  refine xs_setv 2 (v := .ref r) (xe_ixT (xe_var 1 rfl) xe_int (SqT.of hT) (atI_nat (j := 4) rfl)) ?_ nd
  refine xs_par 3 4 (R1 := LtR xs.length) (R2 := LtR 3) (xa_cons (xe_take c1 hr (xe_var 0 rfl) (xe_len B.len (xe_var 2 rfl) (.inl (SqL.of hrr))) hb (by omega) (by omega)) (xa_cons (xe_take c1 hr (xe_var 0 rfl) xe_int hb (n := 3) (by decide) (by decide)) xa_nil)) (fun v w H1 s1 hv hw => ?_) nd
  obtain ⟨i, rfl, hi⟩ := hv
  obtain ⟨f, rfl, hf⟩ := hw
  have hb1 := s1 _ _ hb
  have hT1 := s1 _ _ hT
  have hm1 := s1 _ _ hm
  have hr1 := s1 _ _ hrr
  have hxs1 := AllR.mono (monTR _) s1 hxs
  have hxi : xs[i]? = some xs[i] := by simp [hi]
  obtain ⟨R, hR, hz⟩ := hxs1.get hxi
  rw [List.getElem?_map] at hR
  cases hri : t.rows[i]? with
  | none => rw [hri] at hR; cases hR
  | some r0 =>
    rw [hri] at hR
    cases hR
    generalize xs[i] = z at hxi hz
    refine xs_setv 5 (v := z) (xe_ixL (xe_var 2 rfl) (xe_var 3 rfl) (SqL.of hr1) (atI_nat hxi)) ?_ nd
    have hrd := hd.rows.1 r0 (List.mem_of_getElem? hri)
    -- the end
    have fin : ∀ (H5 : Hp) (z' : V) (r' : LR) (u6 : Option V), Same H1 H5 → TRow r' z' H5 → Shad r0 r' → rowD t.marks r' → (∀ ts o b, r' = .lead ts o b → ts.length ≤ 3) →
        XSs (cx W n_law_wider "_law_wider" s_law_wider f0 cdv A outer s H E) ((defBody s_law_wider).drop 5) (RetD H (WideR t)) [some (.ref b), some (.ref T), some (.ref r), some (.int (i : Nat)), some (.int (f : Nat)), some z', u6] H5 := fun H5 z' r' u6 s5 hz' hsh hrd' hk => by
      have hT5 := s5 _ _ hT1
      have hr5 := s5 _ _ hr1
      refine xs_ret (R := TupR [TupR ([V.ref m, .ref o, .ref p, .bl t.clears].map Is ++ [LstP fun ys => ys = xs.take (i + 1) ++ ([z'] ++ xs.drop (i + 1))]), Is (.int ((i + 1 : Nat) : Int))]) (xe_tup (xa_cons (m := ?_) (xe_catTR (monL_is _) (.cons inferInstance .nil) (xe_sliceTV (i := none) (j := some ((4 : Nat) : Int)) (xe_var 1 rfl) hT5 .none (.some xe_int) rfl) (xe_tup1 (XE.imp (xe_catK (zs := xs.drop (i + 1)) (xe_catK (zs := [z']) (XE.imp (xe_sliceLc (ys := xs.take (i + 1)) (i := none) (j := some ((i + 1 : Nat) : Int)) (xe_var 2 rfl) (SqL.of hr5) .none (.some (XE.cast (xe_op (x := .int (i : Nat)) (y := .int 1) op_add (xe_var 3 rfl) xe_int rv_I0) (by simp))) (cutV_upto _ _)) fun v H7 _ h => lstP_of h) (XE.imp (xe_lst (Rs := [Is z']) (xa_cons (xe_var 5 rfl) xa_nil) (by simp)) fun v H7 _ h => lstP_of (lstR_is (xs := [z']) h)) (by rw [List.length_take]; simp; omega)) (XE.imp (xe_sliceLc (ys := xs.drop (i + 1)) (i := some ((i + 1 : Nat) : Int)) (j := none) (xe_var 2 rfl) (SqL.of hr5) (.some (XE.cast (xe_op (x := .int (i : Nat)) (y := .int 1) op_add (xe_var 3 rfl) xe_int rv_I0) (by simp))) .none (cutV_from _ _)) fun v H7 _ h => lstP_of h) (by rw [List.length_append, List.length_take, List.length_drop]; simp; omega)) fun v H7 _ ⟨q, ys, e1, e2, e3⟩ => ⟨q, ys, e1, e2, by rw [e3, List.append_assoc]⟩)) (by simp)) (xa_cons (XE.cast (xe_op (x := .int (i : Nat)) (y := .int 1) op_add (xe_var 3 rfl) xe_int rv_I0) (by simp)) xa_nil)) (by simp)) fun v H9 s9 hv => ?_
      · exact ⟨fun v H H' e ⟨a, ys, h1, h2, h3⟩ => ⟨a, ys, h1, e _ _ h2, AllR.mono (.cons inferInstance (.cons inferInstance (.cons inferInstance (.cons inferInstance (.cons inferInstance .nil))))) e h3⟩⟩
      obtain ⟨T2, us, rfl, hT2, hus⟩ := hv
      obtain ⟨u, _, rfl, ⟨T3, ws, rfl, hT3, hws⟩, hi2⟩ := allR2 hus
      cases hi2
      obtain ⟨_, _, _, _, _, rfl, q1, q2, q3, q4, lr, lys, rfl, hlr, rfl⟩ := allR5 hws
      cases q1; cases q2; cases q3; cases q4
      have s19 := s5.trans s9
      refine ⟨s1.trans s19, i, r0, r', T2, _, hri, hsh, DrawnT.ins hd hrd' hk, rfl, hT2, T3, m, o, p, lr, _, rfl, hT3, s19 _ _ hm1, (s1.trans s19) _ _ ho, (s1.trans s19) _ _ hp, hlr, ?_⟩
      show AllR ((t.rows.take (i + 1) ++ r' :: t.rows.drop (i + 1)).map TRow) (xs.take (i + 1) ++ ([z'] ++ xs.drop (i + 1))) H9
      have hx9 := AllR.mono (monTR _) s19 hxs1
      rw [List.map_append, List.map_cons, List.map_take, List.map_drop]
      exact (allR_take (i + 1) hx9).append (show AllR (TRow r' :: _) (z' :: _) H9 from ⟨Mon.mono _ _ _ s9 hz', allR_drop (i + 1) hx9⟩)
    have hk0 : ∀ ts o b, r0 = .lead ts o b → ts.length ≤ 3 := fun ts o b e => Nat.le_succ_of_le (hd.rows.2 ts o b (e ▸ List.mem_of_getElem? hri))
    have dF : decide ((f : Int) = 0) = decide (f = 0) := by
      by_cases h : f = 0
      · subst h; rfl
      · rw [decide_eq_false h, decide_eq_false (by omega)]
    have dF1 : decide ((f : Int) = 1) = decide (f = 1) := by
      by_cases h : f = 1
      · subst h; rfl
      · rw [decide_eq_false h, decide_eq_false (by omega)]
    -- nothing changes
    have plain : ∀ H5, Same H1 H5 → (f = 1 → ∀ o t', (r0 = .run o t' ∨ ∃ c, r0 = .join o c t') → ¬ o = "any") → XSs (cx W n_law_wider "_law_wider" s_law_wider f0 cdv A outer s H E) ((defBody s_law_wider).drop 4) (RetD H (WideR t)) [some (.ref b), some (.ref T), some (.ref r), some (.int (i : Nat)), some (.int (f : Nat)), some z, none] H5 := fun H5 s5 hno => by
      have hz5 := Mon.mono _ _ _ s5 hz
      refine xs_ifF (XT.cast (XW.t (xw_and (p := decide ((f : Int) = 1)) (q := false) (xt_cmp (x := .int (f : Nat)) (y := .int 1) op_eq (xe_var 4 rfl) xe_int rv_eqI (nomark _)) fun hf1 => ?_)) (Bool.and_false _)) (fin H5 z r0 _ s5 hz5 (.same r0) hrd hk0)
      have hf1 : f = 1 := by rw [dF1] at hf1; exact of_decide_eq_true hf1
      have hno := hno hf1
      cases r0 with
      | lead ts o b' =>
        obtain ⟨Tr, q, rfl, hTr, hq⟩ := hz5
        exact xw_and (p := false) (q := false) (XT.cast (xt_cmp (x := .str "lead") (y := .str "lead") op_ne (xe_ixT (xe_var 5 rfl) xe_int (SqT.of hTr) (atI_nat (j := 0) rfl)) xe_str rv_neS (nomark _)) (by decide +kernel)) fun q => nomatch q
      | run o b' =>
        obtain ⟨Tr, rfl, hTr⟩ := hz5
        have hne := hno o b' (.inl rfl)
        exact xw_and (p := true) (q := false) (XT.cast (xt_cmp (x := .str "run") (y := .str "lead") op_ne (xe_ixT (xe_var 5 rfl) xe_int (SqT.of hTr) (atI_nat (j := 0) rfl)) xe_str rv_neS (nomark _)) (by decide +kernel)) fun _ => xw_and1 (XT.cast (xt_cmp (x := .str o) (y := .str "any") op_eq (xe_ixT (xe_var 5 rfl) xe_int (SqT.of hTr) (atI_nat (j := 1) rfl)) xe_str rv_eqS (nomark _)) (decide_eq_false hne))
      | join o c b' =>
        obtain ⟨Tr, rfl, hTr⟩ := hz5
        have hne := hno o b' (.inr ⟨c, rfl⟩)
        exact xw_and (p := true) (q := false) (XT.cast (xt_cmp (x := .str "join") (y := .str "lead") op_ne (xe_ixT (xe_var 5 rfl) xe_int (SqT.of hTr) (atI_nat (j := 0) rfl)) xe_str rv_neS (nomark _)) (by decide +kernel)) fun _ => xw_and1 (XT.cast (xt_cmp (x := .str o) (y := .str "any") op_eq (xe_ixT (xe_var 5 rfl) xe_int (SqT.of hTr) (atI_nat (j := 1) rfl)) xe_str rv_eqS (nomark _)) (decide_eq_false hne))
    by_cases hf0 : f = 0
    · have hp0 : decide ((f : Int) = 0) = true := by rw [dF]; exact decide_eq_true hf0
      have no1 : f = 1 → ∀ o t', (r0 = .run o t' ∨ ∃ c, r0 = .join o c t') → ¬ o = "any" := fun e => by omega
      cases r0 with
      | run o b' =>
        obtain ⟨Tr, rfl, hTr⟩ := id hz
        exact xs_ifF (XW.t (xw_and (p := true) (q := false) (XT.cast (xt_cmp (x := .int (f : Nat)) (y := .int 0) op_eq (xe_var 4 rfl) xe_int rv_eqI (nomark _)) hp0) fun _ => xw_and1 (XT.cast (xt_cmp (x := .str "run") (y := .str "lead") op_eq (xe_ixT (xe_var 5 rfl) xe_int (SqT.of hTr) (atI_nat (j := 0) rfl)) xe_str rv_eqS (nomark _)) (by decide +kernel)))) (plain H1 (Same.refl _) no1)
      | join o c b' =>
        obtain ⟨Tr, rfl, hTr⟩ := id hz
        exact xs_ifF (XW.t (xw_and (p := true) (q := false) (XT.cast (xt_cmp (x := .int (f : Nat)) (y := .int 0) op_eq (xe_var 4 rfl) xe_int rv_eqI (nomark _)) hp0) fun _ => xw_and1 (XT.cast (xt_cmp (x := .str "join") (y := .str "lead") op_eq (xe_ixT (xe_var 5 rfl) xe_int (SqT.of hTr) (atI_nat (j := 0) rfl)) xe_str rv_eqS (nomark _)) (by decide +kernel)))) (plain H1 (Same.refl _) no1)
      | lead ts o b' =>
        obtain ⟨Tr, q, rfl, hTr, hq⟩ := id hz
        have htl := hd.rows.2 ts o b' (List.mem_of_getElem? hri)
        obtain ⟨hts, htn, hold, hbm⟩ := hrd
        obtain ⟨m1, m2, m3⟩ := more_ok hts htn htl
        have hlen : ∀ x ∈ ts, x.length ≤ 100 := fun x hx => tests_short x (hts x hx)
        have hsum := sum_le' (k := 100) hlen
        have k5 : (" " : Str).length = 1 := by decide +kernel
        refine xs_if (b := true) (XW.t (xw_and (p := true) (q := true) (XT.cast (xt_cmp (x := .int (f : Nat)) (y := .int 0) op_eq (xe_var 4 rfl) xe_int rv_eqI (nomark _)) hp0) fun _ => xw_and1 (XT.cast (xt_cmp (x := .str "lead") (y := .str "lead") op_eq (xe_ixT (xe_var 5 rfl) xe_int (SqT.of hTr) (atI_nat (j := 0) rfl)) xe_str rv_eqS (nomark _)) (by decide +kernel)))) (fun _ => ?_) fun q => nomatch q
        refine xs_set (R := TRow (.lead (ts ++ moreOf ts) o b')) 5 (XE.imp (xe_catTR (Rs := [Is (.str "lead"), TupV ((ts ++ moreOf ts).map V.str)]) (Rs' := [V.str o, .str b'].map Is) (.cons inferInstance (.cons inferInstance .nil)) (monL_is _) (xe_tup (xa_cons (xe_ixT (xe_var 5 rfl) xe_int (SqT.of hTr) (atI_nat (j := 0) rfl)) (xa_cons (XE.imp (xe_catTR (Rs := (ts.map V.str).map Is) (Rs' := ((moreOf ts).map V.str).map Is) (monL_is _) (monL_is _) ((xe_ixT (xe_var 5 rfl) xe_int (SqT.of hTr) (atI_nat (j := 1) rfl)).is fun H5 e5 => ⟨q, _, rfl, e5 _ _ hq, allR_isOf _⟩) (XE.imp (xe_tupleL (xs := (moreOf ts).map V.str) B.tuple (XE.vals (g := V.str) (xe_lcS (own := [("_law_part", 6)]) (j := 6) (src := (["own", "above"] : List Str)) (rel := fun z => Is (.str z)) (pp := fun p => occN p (Txt.join " " ts)) (ff := fun z => Is (.str z)) (XI.len (xi_tupV (xs := (["own", "above"] : List Str).map V.str) (XE.tupV (xs := (["own", "above"] : List Str).map V.str) (xe_tup (Rs := [Is (.str "own"), Is (.str "above")]) (xa_cons xe_str (xa_cons xe_str xa_nil)) (by simp)))) (by simp)) (fun _ _ _ _ _ _ => ys_X V.str _ _ _ _ _) (fun _ => inferInstance) (fun _ => inferInstance) (by decide) nd (blkOk_by (N := n_law_wider) (sc := defScope s_law_wider) (by decide +kernel))
          (fun _ _ _ _ _ => pg_name (i := 6) nd rfl (Or.inl rfl)) (fun z x G' hz e1 hx => ⟨?_, fun _ s0 H0 C cl fp => ?_⟩)))) fun v H5 _ ⟨a, e1, e2⟩ => ⟨a, _, e1, e2, allR_isOf _⟩) (by simp [List.length_map]; have := m3; simp at this; omega)) fun v H5 _ h => ?_) xa_nil)) (by simp)) (xe_sliceTV (i := some ((2 : Nat) : Int)) (j := none) (xe_var 5 rfl) hTr (.some xe_int) .none rfl) (by simp)) fun v H5 _ h => ?_) (fun v H5 s5 hv => ?_) nd
        · intro s0 H0 C cl fp
          cases hx
          exact xt_cmp (x := .str z) (y := .str (Txt.join " " ts)) op_notIn_str (xe_var 6 rfl) (xe_join (ys := ts) (Ra := Is (.ref q)) xe_str (xe_ixT (xe_var 5 rfl) xe_int (SqT.of (e1 _ _ hTr)) (atI_nat (j := 1) rfl)) (fun v H1 s1 hv => ⟨q, hv, .inr (SqT.of (s1 _ _ (e1 _ _ hq)))⟩) (by rw [k5]; omega)) (fun H6 _ Q k => ⟨_, _, rfl, rfl, k _ H6 (Same.refl _) rfl⟩) rfl
        · cases hx
          exact xe_var 6 rfl
        · rw [← List.map_append, ← List.map_append] at h
          exact tupR_is h
        · obtain ⟨T2, us, e, hT2, hus⟩ := h
          obtain ⟨_, _, _, _, rfl, q1, ⟨qa, rfl, hqa⟩, q3, q4⟩ := allR4 hus
          cases q1; cases q3; cases q4
          exact ⟨T2, qa, e, hT2, hqa⟩
        · refine xs_nil fun H6 s6 => xs_ifF (XT.cast (XW.t (xw_and (p := decide ((f : Int) = 1)) (q := false) (xt_cmp (x := .int (f : Nat)) (y := .int 1) op_eq (xe_var 4 rfl) xe_int rv_eqI (nomark _)) fun hf1 => ?_)) (Bool.and_false _)) (fin H6 v (.lead (ts ++ moreOf ts) o b') _ (s5.trans s6) (Mon.mono _ _ _ s6 hv) (.lead ts _ o b') ⟨m1, m2, hold, hbm⟩ fun ts' o' b2 e => by cases e; exact m3)
          rw [dF1] at hf1
          have := of_decide_eq_true hf1
          omega
    · have hp0 : decide ((f : Int) = 0) = false := by rw [dF]; exact decide_eq_false hf0
      refine xs_ifF (XW.t (xw_and (p := false) (q := false) (XT.cast (xt_cmp (x := .int (f : Nat)) (y := .int 0) op_eq (xe_var 4 rfl) xe_int rv_eqI (nomark _)) hp0) fun q => nomatch q)) ?_
      by_cases hno : f = 1 → ∀ o t', (r0 = .run o t' ∨ ∃ c, r0 = .join o c t') → ¬ o = "any"
      · exact plain H1 (Same.refl _) hno
      · obtain ⟨hf1, t', hcase⟩ : f = 1 ∧ ∃ t', r0 = .run "any" t' ∨ ∃ c, r0 = .join "any" c t' := by
          by_cases hf1 : f = 1
          · refine ⟨hf1, ?_⟩
            false_or_by_contra
            rename_i hcon
            refine hno fun _ o t' h e => hcon ⟨t', ?_⟩
            subst e
            exact h
          · exact absurd (fun e => absurd e hf1) hno
        have hp1 : decide ((f : Int) = 1) = true := by rw [dF1]; exact decide_eq_true hf1
        have m0 : ∀ {H5 : Hp}, Same H1 H5 → H5 m = some (.lst (t.marks.map V.str)) := fun e => e _ _ hm1
        rcases hcase with rfl | ⟨c, rfl⟩
        · obtain ⟨Tr, rfl, hTr⟩ := id hz
          refine xs_if (b := true) (XW.t (xw_and (p := true) (q := true) (XT.cast (xt_cmp (x := .int (f : Nat)) (y := .int 1) op_eq (xe_var 4 rfl) xe_int rv_eqI (nomark _)) hp1) fun _ => xw_and (p := true) (q := true) (XT.cast (xt_cmp (x := .str "run") (y := .str "lead") op_ne (xe_ixT (xe_var 5 rfl) xe_int (SqT.of hTr) (atI_nat (j := 0) rfl)) xe_str rv_neS (nomark _)) (by decide +kernel)) fun _ => xw_and1 (XT.cast (xt_cmp (x := .str "any") (y := .str "any") op_eq (xe_ixT (xe_var 5 rfl) xe_int (SqT.of hTr) (atI_nat (j := 1) rfl)) xe_str rv_eqS (nomark _)) (by decide +kernel)))) (fun _ => ?_) fun q => nomatch q
          refine xs_set (R := fun v H => ∃ a d, a ∈ t.marks ∧ d ∈ t.marks ∧ TRow (.run a d) v H) 5 (XE.imp (xe_catTR (Rs := [Is (.str "run"), StrIn t.marks] ++ ([] : List V).map Is) (Rs' := [StrIn t.marks]) (.cons inferInstance (.cons inferInstance .nil)) (.cons inferInstance .nil) (xe_catTR (Rs := [Is (.str "run"), StrIn t.marks]) (Rs' := ([] : List V).map Is) (.cons inferInstance (.cons inferInstance .nil)) .nil (xe_tup (xa_cons (xe_ixT (xe_var 5 rfl) xe_int (SqT.of hTr) (atI_nat (j := 0) rfl)) (xa_cons (XE.imp (xe_pick c2 hr (xe_var 0 rfl) (xe_known (xe_ixT (xe_var 1 rfl) xe_int (SqT.of hT1) (atI_nat (j := 0) rfl)) hm1) hb1 (oneOf_ne hw2) (by simp; omega)) fun v H8 _ h => oneOf_str h) xa_nil)) (by simp)) (xe_sliceTV (i := some ((2 : Nat) : Int)) (j := some (-1)) (xe_var 5 rfl) hTr (.some xe_int) (.some (xe_neg xe_int)) rfl) (by simp)) (xe_tup1 (XE.imp (xe_pick c2 hr (xe_var 0 rfl) (xe_known (xe_ixT (xe_var 1 rfl) xe_int (SqT.of hT1) (atI_nat (j := 0) rfl)) hm1) hb1 (oneOf_ne hw2) (by simp; omega)) fun v H8 _ h => oneOf_str h)) (by simp)) fun v H5 _ h => ?_) (fun v H5 s5 hv => ?_) nd
          · obtain ⟨T2, us, e, hT2, hus⟩ := h
            obtain ⟨_, _, _, rfl, q1, ⟨a, ha, rfl⟩, d, hd', rfl⟩ := allR3 hus
            cases q1
            exact ⟨a, d, ha, hd', T2, e, hT2⟩
          · obtain ⟨a, d, ha, hd', hv⟩ := hv
            exact xs_nil fun H6 s6 => fin H6 v (.run a d) _ (s5.trans s6) (Mon.mono _ _ _ s6 hv) (.run t' a d) ⟨.inl ha, hd'⟩ fun ts' o' b2 e => nomatch e
        · obtain ⟨Tr, rfl, hTr⟩ := id hz
          refine xs_if (b := true) (XW.t (xw_and (p := true) (q := true) (XT.cast (xt_cmp (x := .int (f : Nat)) (y := .int 1) op_eq (xe_var 4 rfl) xe_int rv_eqI (nomark _)) hp1) fun _ => xw_and (p := true) (q := true) (XT.cast (xt_cmp (x := .str "join") (y := .str "lead") op_ne (xe_ixT (xe_var 5 rfl) xe_int (SqT.of hTr) (atI_nat (j := 0) rfl)) xe_str rv_neS (nomark _)) (by decide +kernel)) fun _ => xw_and1 (XT.cast (xt_cmp (x := .str "any") (y := .str "any") op_eq (xe_ixT (xe_var 5 rfl) xe_int (SqT.of hTr) (atI_nat (j := 1) rfl)) xe_str rv_eqS (nomark _)) (by decide +kernel)))) (fun _ => ?_) fun q => nomatch q
          refine xs_set (R := fun v H => ∃ a d, a ∈ t.marks ∧ d ∈ t.marks ∧ TRow (.join a c d) v H) 5 (XE.imp (xe_catTR (Rs := [Is (.str "join"), StrIn t.marks] ++ [V.str c].map Is) (Rs' := [StrIn t.marks]) (.cons inferInstance (.cons inferInstance (.cons inferInstance .nil))) (.cons inferInstance .nil) (xe_catTR (Rs := [Is (.str "join"), StrIn t.marks]) (Rs' := [V.str c].map Is) (.cons inferInstance (.cons inferInstance .nil)) (monL_is _) (xe_tup (xa_cons (xe_ixT (xe_var 5 rfl) xe_int (SqT.of hTr) (atI_nat (j := 0) rfl)) (xa_cons (XE.imp (xe_pick c2 hr (xe_var 0 rfl) (xe_known (xe_ixT (xe_var 1 rfl) xe_int (SqT.of hT1) (atI_nat (j := 0) rfl)) hm1) hb1 (oneOf_ne hw2) (by simp; omega)) fun v H8 _ h => oneOf_str h) xa_nil)) (by simp)) (xe_sliceTV (i := some ((2 : Nat) : Int)) (j := some (-1)) (xe_var 5 rfl) hTr (.some xe_int) (.some (xe_neg xe_int)) rfl) (by simp)) (xe_tup1 (XE.imp (xe_pick c2 hr (xe_var 0 rfl) (xe_known (xe_ixT (xe_var 1 rfl) xe_int (SqT.of hT1) (atI_nat (j := 0) rfl)) hm1) hb1 (oneOf_ne hw2) (by simp; omega)) fun v H8 _ h => oneOf_str h)) (by simp)) fun v H5 _ h => ?_) (fun v H5 s5 hv => ?_) nd
          · obtain ⟨T2, us, e, hT2, hus⟩ := h
            obtain ⟨_, _, _, _, rfl, q1, ⟨a, ha, rfl⟩, q2, d, hd', rfl⟩ := allR4 hus
            cases q1; cases q2
            exact ⟨a, d, ha, hd', T2, e, hT2⟩
          · obtain ⟨a, d, ha, hd', hv⟩ := hv
            exact xs_nil fun H6 s6 => fin H6 v (.join a c d) _ (s5.trans s6) (Mon.mono _ _ _ s6 hv) (.join c t' a d) ⟨.inl ha, hrd.2.1, .inl hd'⟩ fun ts' o' b2 e => nomatch e
end
end LM

set_option maxHeartbeats 400000
namespace LM
open PySem PySem.Spec PyProof.Rows L2
/-! ### sorted(d): a locked dict whose keys are (text, bool) -/
abbrev SB := Str × Bool
def lexS (p q : SB) : Bool := if p.1 = q.1 then decide (b2i p.2 < b2i q.2) else decide (p.1.cps.toList < q.1.cps.toList)
theorem str_ext {a b : Str} (h : a.cps.toList = b.cps.toList) : a = b := by
  cases a; cases b
  congr 1
  exact Array.toList_inj.mp h
theorem nlt_irrefl (l : List Nat) : ¬ l < l := List.lt_irrefl l
theorem lexS_iff {p q : SB} : lexS p q = true ↔ p.1.cps.toList < q.1.cps.toList ∨ (p.1 = q.1 ∧ b2i p.2 < b2i q.2) := by
  unfold lexS
  by_cases e : p.1 = q.1
  · rw [if_pos e, decide_eq_true_eq]
    constructor
    · intro h; exact .inr ⟨e, h⟩
    · rintro (h | ⟨_, h⟩)
      · rw [e] at h; exact absurd h (nlt_irrefl _)
      · exact h
  · rw [if_neg e, decide_eq_true_eq]
    constructor
    · intro h; exact .inl h
    · rintro (h | ⟨h, _⟩)
      · exact h
      · exact absurd h e
theorem lexS_no {p q : SB} : lexS p q = false ↔ ¬ (p.1.cps.toList < q.1.cps.toList ∨ (p.1 = q.1 ∧ b2i p.2 < b2i q.2)) := by
  rw [← lexS_iff]
  cases lexS p q <;> simp
theorem nle {a b : Str} (h1 : ¬ a.cps.toList < b.cps.toList) (h2 : ¬ b.cps.toList < a.cps.toList) : a = b := str_ext (List.le_antisymm (List.not_lt.mp h2) (List.not_lt.mp h1))
theorem swo_lexS (k : Value → SB) : SrtO.Swo fun v u => lexS (k v) (k u) := by
  refine ⟨fun x y h => ?_, fun x y z h1 h2 => ?_⟩
  · rcases lexS_iff.mp h with h | ⟨h, h'⟩
    · refine lexS_no.mpr fun q => ?_
      rcases q with q | ⟨q, _⟩
      · exact List.lt_asymm h q
      · rw [q] at h; exact nlt_irrefl _ h
    · refine lexS_no.mpr fun q => ?_
      rcases q with q | ⟨_, q⟩
      · rw [h] at q; exact nlt_irrefl _ q
      · omega
  · have a := lexS_no.mp h1
    have b := lexS_no.mp h2
    have a1 : ¬ (k y).1.cps.toList < (k x).1.cps.toList := fun q => a (.inl q)
    have b1 : ¬ (k z).1.cps.toList < (k y).1.cps.toList := fun q => b (.inl q)
    have a2 : (k x).1.cps.toList ≤ (k y).1.cps.toList := List.not_lt.mp a1
    have b2 : (k y).1.cps.toList ≤ (k z).1.cps.toList := List.not_lt.mp b1
    refine lexS_no.mpr fun q => ?_
    rcases q with q | ⟨q, q'⟩
    · exact List.not_lt.mpr (List.le_trans a2 b2) q
    · have e1 : (k x).1 = (k y).1 := by
        refine str_ext (List.le_antisymm a2 ?_)
        rw [← q]; exact b2
      have e2 : (k y).1 = (k z).1 := by rw [← e1, q]
      have a3 : ¬ b2i (k y).2 < b2i (k x).2 := fun r => a (.inr ⟨e1.symm, r⟩)
      have b3 : ¬ b2i (k z).2 < b2i (k y).2 := fun r => b (.inr ⟨e2.symm, r⟩)
      omega
def IsSB (h : Heap) (v : Value) (x : SB) : Prop := ∃ a o t n, v = .ref a ∧ h.get? a = some o ∧ o.cls = .type "tuple" ∧ o.data = .seq #[.str x.1 t, .bool x.2] n
theorem IsSB.keeps {h h' : Heap} {v : Value} {x : SB} (p : IsSB h v x) (k : ∀ b o, h.get? b = some o → o.cls = .type "tuple" → h'.get? b = some o) : IsSB h' v x := by
  obtain ⟨a, o, t, n, e, ho, hc, hd⟩ := p
  exact ⟨a, o, t, n, e, k _ _ ho hc, hc, hd⟩
theorem IsSB.uniq {h : Heap} {v : Value} {x y : SB} (p : IsSB h v x) (q : IsSB h v y) : x = y := by
  obtain ⟨a, o, t, n, rfl, ho, hc, hd⟩ := p
  obtain ⟨a', o', t', n', e', ho', hc', hd'⟩ := q
  cases e'
  rw [ho] at ho'; cases ho'
  rw [hd] at hd'
  simp at hd'
  exact Prod.ext hd'.1.1.1 hd'.1.2
open Classical in
noncomputable def kSB (h : Heap) (v : Value) : SB := if q : ∃ x, IsSB h v x then q.choose else (⟨#[]⟩, false)
theorem kSB_of {h : Heap} {v : Value} {x : SB} (p : IsSB h v x) : kSB h v = x := by
  have q : ∃ x, IsSB h v x := ⟨x, p⟩
  unfold kSB
  rw [dif_pos q]
  exact q.choose_spec.uniq p
section
variable {prog : Program} {w : World} {A : Around} {E : Value → Shared → Prop} {s : Shared}
theorem sb_cmp {vs : List Value} {k : Value → SB} (hp : ∀ v ∈ vs, IsSB s.heap v (k v)) : SrtO.Cmp prog w A s (tuples' true) (fun p => p.1 ∈ vs) (SrtO.lt2 fun v u => lexS (k v) (k u)) := by
  intro p q hm hm'
  have h1 : IsSB s.heap p.1 ((k p.1).1, (k p.1).2) := hp _ hm
  have h2 : IsSB s.heap q.1 ((k q.1).1, (k q.1).2) := hp _ hm'
  show wpAny (model prog w) A (keyLt' (tuples' true) p.1 q.1) (fun r s' => s' = s ∧ r = lexS (k p.1) (k q.1)) (fun _ _ => False) s
  unfold lexS
  generalize (k p.1).1 = x at h1 ⊢
  generalize (k p.1).2 = y at h1 ⊢
  generalize (k q.1).1 = x' at h2 ⊢
  generalize (k q.1).2 = y' at h2 ⊢
  obtain ⟨a, o, t, n, e, ho, hc, hd⟩ := h1
  obtain ⟨a', o', t', n', e', ho', hc', hd'⟩ := h2
  rw [e, e']
  refine PySem.W.kat_lt ho hd ho' hd' ?_
  show PySem.W.KatLex prog w A true (decide (2 < 2)) _ [(.str x t, .str x' t'), (.bool y, .bool y')] 0 s
  refine PySem.W.kat_cons (SeqAt.EqAt.str_str x t x' t' prog w _ _ ?_)
  refine PySem.W.kat_go (fun e1 => ?_) (fun e1 => ?_)
  · have ex : x = x' := by simpa using e1
    refine PySem.W.kat_yes (PySem.W.kat_cons (SeqAt.EqAt.bool_bool y y' prog w _ _ ?_))
    refine PySem.W.kat_go (fun e2 => ?_) (fun e2 => ?_)
    · have ey : y = y' := by simpa using e2
      have e3 : (if x = x' then decide (b2i y < b2i y') else decide (x.cps.toList < x'.cps.toList)) = false := by
        rw [if_pos ex, ey]
        exact decide_eq_false (Int.lt_irrefl _)
      exact PySem.W.kat_yes (PySem.W.kat_nil ⟨rfl, e3.symm⟩)
    · have e3 : (if x = x' then decide (b2i y < b2i y') else decide (x.cps.toList < x'.cps.toList)) = decide (b2i y < b2i y') := if_pos ex
      refine PySem.W.kat_no (PySem.W.kat_one _ _ (PyProof.Rows.lt_bool ?_))
      exact (show s = s ∧ decide (b2i y < b2i y') = (if x = x' then decide (b2i y < b2i y') else decide (x.cps.toList < x'.cps.toList)) from ⟨rfl, e3.symm⟩)
  · have ex : ¬ x = x' := by simpa using e1
    have e3 : (if x = x' then decide (b2i y < b2i y') else decide (x.cps.toList < x'.cps.toList)) = decide (x.cps.toList < x'.cps.toList) := if_neg ex
    refine PySem.W.kat_no (PyProof.Rows.oneLt_any_str ⟨rfl, e3.symm⟩)
theorem firstsSB {h : Heap} : ∀ {vs : List Value}, (∀ v ∈ vs, ∃ x, IsSB h v x) → ∃ fs : List Value, PySem.W.KatTups h vs fs ∧ fs.length = vs.length ∧ ∀ f ∈ fs, ∃ x t, f = Value.str x t
  | [], _ => ⟨[], PySem.W.KatTups.nil, rfl, fun _ hm => by simp at hm⟩
  | v :: vs, hp => by
    obtain ⟨fs, h1, h2, h3⟩ := firstsSB (vs := vs) fun v' hm => hp v' (List.mem_cons_of_mem _ hm)
    obtain ⟨x, a, o, t, n, e, ho, hc, hd⟩ := hp v (List.mem_cons_self ..)
    subst e
    refine ⟨.str x.1 t :: fs, PySem.W.KatTups.cons ho hc hd rfl h1, by rw [List.length_cons, List.length_cons, h2], fun f hm => ?_⟩
    rcases List.mem_cons.mp hm with rfl | hm
    · exact ⟨x.1, t, rfl⟩
    · exact h3 f hm
theorem sb_sortable {a : Addr} {vs : List Value} {k : Value → SB} (h0 : 0 < vs.length) (hp : ∀ v ∈ vs, IsSB s.heap v (k v)) (ha : ∀ o, s.heap.get? a = some o → o.cls ≠ .type "tuple") : SrtO.SortableO prog w A s a vs fun v u => lexS (k v) (k u) := by
  intro h' keep
  have hp' : ∀ v ∈ vs, IsSB h' v (k v) := fun v hm => (hp v hm).keeps fun b o e c => keep b o (fun z => by subst z; exact ha o e c) e
  obtain ⟨fs, h1, h2, h3⟩ := firstsSB fun v hm => ⟨_, hp' v hm⟩
  refine ⟨tuples' true, fun Q E hq => ?_, sb_cmp hp'⟩
  refine PySem.W.kat_kind (T := .type "str") h1 (by omega) (fun f hm => ?_) (by rfl) ?_
  · obtain ⟨x, t, rfl⟩ := h3 f hm
    exact PySem.W.Looks.now
  · have e : (Value.type "str" != Value.type "tuple") = true := by first | decide +kernel | rfl | decide
    rw [e]
    exact hq
end
/-! the rule -/
def sbOf (x : It2) : SB := (x.1, match x.2 with
  | .inl b => b
  | .inr _ => false)
def IsB (x : It2) : Prop := ∃ b, x.2 = .inl b
theorem sbOf_inj {x y : It2} (hx : IsB x) (hy : IsB y) (h : sbOf x = sbOf y) : x = y := by
  obtain ⟨a, b⟩ := x
  obtain ⟨c, d⟩ := y
  obtain ⟨b', q⟩ := hx
  obtain ⟨d', q'⟩ := hy
  cases q; cases q'
  have h1 : a = c := congrArg Prod.fst h
  have h2 : b' = d' := congrArg Prod.snd h
  rw [h1, h2]
def SrtI (l : List It2) : Prop := l.Pairwise fun x y => lexS (sbOf y) (sbOf x) = false
theorem lexS_tot {p q : SB} (h1 : lexS p q = false) (h2 : lexS q p = false) : p = q := by
  have a := lexS_no.mp h1
  have b := lexS_no.mp h2
  have e : p.1 = q.1 := nle (fun q => a (.inl q)) fun q => b (.inl q)
  have a2 : ¬ b2i p.2 < b2i q.2 := fun r => a (.inr ⟨e, r⟩)
  have b2 : ¬ b2i q.2 < b2i p.2 := fun r => b (.inr ⟨e.symm, r⟩)
  refine Prod.ext e ?_
  revert a2 b2
  cases p.2 <;> cases q.2 <;> simp [b2i]
/-- two sorted rearrangements are the same list -/
theorem srtI_uniq {l m : List It2} (hl : ∀ x ∈ l, IsB x) (hm : ∀ x ∈ m, IsB x) (h1 : SrtI l) (h2 : SrtI m) (hp : l.Perm m) : l = m :=
  List.Perm.eq_of_pairwise (fun a b ha hb q1 q2 => sbOf_inj (hl a ha) (hm b hb) (lexS_tot q2 q1)) h1 h2 hp
def bkV : Value → V
  | .ref a => .ref a
  | _ => .non
noncomputable def kIt (h : Heap) (v : Value) : It2 := ((kSB h v).1, .inl (kSB h v).2)
theorem sb_kIt {h : Heap} {v : Value} : sbOf (kIt h v) = kSB h v := rfl
theorem paired_refs : ∀ {es : List Ent} {xs : XsL}, Paired EntR es xs → xs.map (fun x => Value.ref x.2.1) = es.map fun e => Value.ref e.2.1
  | _, _, .nil => rfl
  | _, _, .cons r t => by rw [List.map_cons, List.map_cons, paired_refs t, r.2.1]
section
variable {X : Cx}
theorem isSB_of {pins : List (Addr × Obj)} {σ : St} {H : Hp} {s : Shared} {a : Addr} {x : It2} (I : Inv X pins σ H s) (h : SqT X.K H a (itV x)) (hb : IsB x) : IsSB s.heap (.ref a) (sbOf x) := by
  obtain ⟨its, rv, ⟨o, h1, h2, n, h3⟩, _⟩ := I.tuple h
  obtain ⟨m, b⟩ := x
  obtain ⟨b', q⟩ := hb
  cases q
  cases rv with
  | cons r1 r =>
    cases r with
    | cons r2 r =>
      cases r
      obtain ⟨t1, e1⟩ := (show ∃ t, _ = Value.str m t from r1)
      subst e1
      cases (show _ = Value.bool b' from r2)
      exact ⟨a, o, t1, n, rfl, h1, h2, h3⟩
theorem call_sortedT (hcalm : X.calm = true) : CallR X (.builtin "sorted") (fun xs H Q => ∃ (d : Addr) (es : List Ent), xs = [.ref d] ∧ RdT X H d es ∧ TKs X.K H es ∧ (∀ x ∈ keysT es, IsB x) ∧
    ∀ (ks : List It2) (zs : List V) (p : Addr), ks.Perm (keysT es) → SrtI ks → AllR (ks.map (ItR X.K)) zs H → H p = none → Q (.ref p) (upd H p (.lst zs))) := by
  intro pins s σ H xs us Q I r q
  obtain ⟨d, es, ex, hd, hk, hB, q⟩ := q
  subst ex
  obtain ⟨u, eu, rx⟩ := vals1 r
  subst eu
  cases rx
  have t := td_at I hd
  obtain ⟨hl, lo, hn, xs, pr, o, ents, ep, e1, e2, e3, e4⟩ := id t
  have raw : s.heap.DictRaw d ents ep := ⟨o, e1, e2, e3⟩
  have hsz : ents.size = es.length := by
    rw [← Array.length_toList, e4, List.length_map, paired_len pr]
  refine Calls.call_function_entry PyProof.Rows.kind_sorted PyProof.Rows.plain_sorted PyProof.Rows.entry_sorted (PyProof.Rows.args_sorted1 _) ?_
  unfold Builtin.«sorted»
  refine wpAny_bind (m := checkCount "sorted" 1 1 _) (wpAny_pure ?_)
  refine wpAny_bind (PySem.W.kdu_collect (A := X.A.in1) (PySem.KdlSrc.rawDict (es := ents) (ep := ep) lo) (I.ok.hd hcalm) raw (by rw [hsz]; exact hl) fun h' tk acc hkp hacc => ?_)
  have eacc : acc.toList = es.map fun e => Value.ref e.2.1 := by
    rw [← paired_refs pr]
    have e5 : xs.map (fun x => Value.ref x.2.1) = ents.toList.map fun e => e.key := by rw [e4, List.map_map]; rfl
    rw [e5]
    refine List.ext_getElem? fun j => ?_
    by_cases hj : j < acc.size
    · have h5 : acc[j]? = some acc[j] := by simp [hj]
      obtain ⟨hi, hv⟩ := hacc.2 j acc[j] h5
      rw [Array.getElem?_toList, h5, List.getElem?_map, Array.getElem?_toList, hv]
      simp [hi]
    · rw [List.getElem?_eq_none (by rw [Array.length_toList]; omega), List.getElem?_eq_none (by rw [List.length_map, Array.length_toList, ← hacc.1]; omega)]
  have hal : acc.toList.length = es.length := by rw [eacc, List.length_map]
  have I1 : Inv X pins σ H { s with heap := h', toks := tk } := I.kept hkp
  have hSB : ∀ e ∈ es, IsSB h' (.ref e.2.1) (sbOf e.1) := fun e he => isSB_of I1 (hk e he) (hB e.1 (List.mem_map.mpr ⟨e, he, rfl⟩))
  have hkI : ∀ e ∈ es, kIt h' (.ref e.2.1) = e.1 := fun e he => by
    obtain ⟨b, hb⟩ := hB e.1 (List.mem_map.mpr ⟨e, he, rfl⟩)
    unfold kIt
    rw [kSB_of (hSB e he)]
    obtain ⟨⟨m, y⟩, z⟩ := e
    cases hb
    rfl
  have hvs : ∀ v ∈ acc.toList, IsSB h' v (kSB h' v) := fun v hv => by
    rw [eacc] at hv
    obtain ⟨e, he, rfl⟩ := List.mem_map.mp hv
    rw [kSB_of (hSB e he)]
    exact hSB e he
  refine wpAny_bind (wpAny_newList ?_ (by rw [hal]; exact hl))
  have hoL : (h'.push (seqObj "list" acc.toList.toArray 0)).get? h'.objs.size = some (seqObj "list" acc.toList.toArray 0) := Heap.get?_push_size _ rfl
  show wpAny _ _ _ _ _ { s with heap := h'.push (seqObj "list" acc.toList.toArray 0), toks := tk }
  refine wpAny_bind (wpAny_holding (wpAny_call_entry PyProof.Rows.slot_list_sort ⟨_, hoL, rfl⟩ PyProof.Rows.entry_list_sort
    (SrtO.list_sort_ord (s := { s with heap := h'.push (seqObj "list" acc.toList.toArray 0), toks := tk }) (swo_lexS (kSB h')) hoL (by rw [hal]; exact hl)
      (fun h2 => sb_sortable (by omega) (fun v hv => (hvs v hv).keeps fun b o e _ => Heap.get?_push_of_some _ e) fun o e => by
        rw [hoL] at e
        cases e
        intro c
        exact absurd (Value.type.inj c) (by decide)) fun out hs hb => ⟨_, rfl, ?_⟩)
    (PyProof.Rows.args_list_sort _)))
  obtain ⟨e', he'⟩ := PyProof.Rows.sortedHeap_at (vs := acc.toList) (out := out.toArray) hoL
  have hmem : ∀ v ∈ out, ∃ e ∈ es, v = Value.ref e.2.1 := fun v hv => by
    have := hb.perm.mem_iff.mp hv
    rw [eacc] at this
    obtain ⟨e, he, q⟩ := List.mem_map.mp this
    exact ⟨e, he, q.symm⟩
  have hVals : ∀ l : List Value, (∀ v ∈ l, ∃ e ∈ es, v = Value.ref e.2.1) → Vals (l.map bkV) l := by
    intro l
    induction l with
    | nil => intro _; exact .nil
    | cons v r ih =>
      intro h
      obtain ⟨e, he, rfl⟩ := h v (by simp)
      exact .cons rfl (ih fun x hx => h x (by simp [hx]))
  have hAll : ∀ l : List Value, (∀ v ∈ l, ∃ e ∈ es, v = Value.ref e.2.1) → AllR ((l.map (kIt h')).map (ItR X.K)) (l.map bkV) H := by
    intro l
    induction l with
    | nil => intro _; trivial
    | cons v r ih =>
      intro h
      obtain ⟨e, he, rfl⟩ := h v (by simp)
      refine ⟨?_, ih fun x hx => h x (by simp [hx])⟩
      rw [hkI e he]
      exact ⟨e.2.1, rfl, hk e he⟩
  have hlen : (out.map bkV).length ≤ sizeLine := by
    rw [List.length_map, hb.perm.length_eq, hal]
    exact hl
  have hperm : (out.map (kIt h')).Perm (keysT es) := by
    have := hb.perm.map (kIt h')
    rw [eacc, List.map_map] at this
    have e6 : es.map (kIt h' ∘ fun e => Value.ref e.2.1) = keysT es := List.map_congr_left fun e he => hkI e he
    rwa [e6] at this
  refine wpAny_pure ⟨_, rfl, .ref h'.objs.size, upd H h'.objs.size (.lst (out.map bkV)), I1.laid (t' := tk) (fun b u e => ?_) (Nat.le_refl _)
    (show ObjOk X.prog X.w _ _ _ (.lst (out.map bkV)) from ⟨hlen, out, e', hVals out hmem, he'⟩), rfl, q _ _ _ hperm (List.pairwise_map.mpr hs) (hAll out hmem) (I1.hok.fresh (Nat.le_refl _))⟩
  have hbb : b < h'.objs.size := Heap.lt_size e
  rw [PyProof.Rows.sortedHeap_old (Nat.ne_of_lt hbb) (by rw [size_push']; exact Nat.lt_succ_of_lt hbb)]
  exact Heap.get?_push_of_some _ e
/-- tuple(sorted(d)) -/
def TIt (K : PySem.W.Frag) (l : List It2) : VP := fun v H => ∃ a zs ks, v = .ref a ∧ H a = some (.tup zs) ∧ ks.Perm l ∧ SrtI ks ∧ AllR (ks.map (ItR K)) zs H
instance (K : PySem.W.Frag) (l : List It2) : Mon (TIt K l) := ⟨fun v H H' e ⟨a, zs, ks, h1, h2, h3, h4, h5⟩ => ⟨a, zs, ks, h1, e _ _ h2, h3, h4, AllR.mono (monL_map (fun _ => inferInstance) ks) e h5⟩⟩
theorem xe_tupSorted {e : Expr} {σ : St} {H : Hp} {p1 p2 p3 p4 : Pos} {d : Addr} {es : List Ent} (hs : X.mg "sorted" = none) (ht : X.mg "tuple" = none) (he : XV X e σ H (.ref d)) (hd : FTd X H d es) (hB : ∀ x ∈ keysT es, IsB x) (hc : X.calm = true := by rfl) (hg : Gl X "sorted" := by rfl) (hg2 : Gl X "tuple" := by rfl)
    (s1 : starEach [e] X.env = (false, eval e X.env) :: starEach [] X.env := by rfl) (hp1 : (backTo p2 (starEach [] X.env)).any (·.1) = false := by rfl)
    (s2 : starEach [.Call (.Name "sorted" p1) [e] [] p2] X.env = (false, eval (.Call (.Name "sorted" p1) [e] [] p2) X.env) :: starEach [] X.env := by rfl) (hp2 : (backTo p4 (starEach [] X.env)).any (·.1) = false := by rfl) :
    XE X (.Call (.Name "tuple" p3) [.Call (.Name "sorted" p1) [e] [] p2] [] p4) σ H (TIt X.K (keysT es)) :=
  xe_callTy (Rs := [fun v H' => ∃ a zs ks, v = .ref a ∧ H' a = some (.lst zs) ∧ ks.Perm (keysT es) ∧ SrtI ks ∧ AllR (ks.map (ItR X.K)) zs H']) call_tuple_of ht (xa_cons (m := ⟨fun v H H' e ⟨a, zs, ks, h1, h2, h3, h4, h5⟩ => ⟨a, zs, ks, h1, e _ _ h2, h3, h4, AllR.mono (monL_map (fun _ => inferInstance) ks) e h5⟩⟩) (xe_callB (call_sortedT hc) hs (xa_cons he xa_nil s1) (fun vs H1 q1 hr H2 q2 Q k => by
    obtain ⟨v, rfl, hv⟩ := allR1 hr
    cases hv
    have hd2 := hd.mono (q1.trans q2)
    exact ⟨d, es, rfl, hd2.rd, hd2.2, hB, fun ks zs p h1 h2 h3 hp => k _ _ (newS hp) ⟨p, zs, ks, rfl, upd_same, h1, h2, AllR.mono (monL_map (fun _ => inferInstance) ks) (newS hp) h3⟩⟩) (by decide +kernel) hg (by decide) (by decide) s1 hp1) xa_nil s2) (fun vs H1 q1 hr H2 q2 Q k => by
    obtain ⟨v, rfl, a, zs, ks, rfl, h2, h3, h4, h5⟩ := allR1 hr
    exact ⟨a, zs, rfl, .inl ⟨SqL.of (q2 _ _ h2), fun l hl => k _ _ (newS hl) ⟨l, zs, ks, rfl, upd_same, h3, h4, AllR.mono (monL_map (fun _ => inferInstance) ks) (q2.trans (newS hl)) h5⟩⟩⟩) (by decide +kernel) hg2 (by decide) (by decide) s2 hp2
end
end LM

set_option maxHeartbeats 400000
namespace LM
open PySem PySem.Spec PyProof.Rows L2
section
variable {W : Wd}
/-! ### lists -/
def ListsR (W : Wd) (t : LT) : VP := fun v H => TupR [TIt W.K (theWays (singleS t)).machine, TIt W.K ((theWays (singleS t)).hearings.map (·.1))] v H ∧ (∀ x ∈ (theWays (singleS t)).machine, okS t x) ∧ ∀ x ∈ (theWays (singleS t)).hearings.map (·.1), okS t x
theorem mon_two {R1 R2 : VP} [Mon R1] [Mon R2] : Mon (TupR [R1, R2]) := ⟨fun v H H' e ⟨a, ys, h1, h2, h3⟩ => ⟨a, ys, h1, e _ _ h2, AllR.mono (.cons inferInstance (.cons inferInstance .nil)) e h3⟩⟩
instance (W : Wd) (t : LT) : Mon (ListsR W t) := ⟨fun v H H' e ⟨h1, h2, h3⟩ => ⟨mon_two.mono v H H' e h1, h2, h3⟩⟩
def preLists (W : Wd) : List V → Hp → VP → Prop := fun vs H R => ∃ (t : LT) (a : Addr), vs = [.ref a] ∧ ToolA W t a H ∧ t.ok ∧ t.marks.length ≤ 20 ∧ R = ListsR W t
theorem cal_lists (B : Blt W) (WC : WaysC W) (T : Steps1 W) (A : DefAt W "lists" s_lists ["tool"]) : Cal W 9 "lists" (Pure (preLists W)) := by
  refine cal_pure A sc_lists (fun vs H R h => by obtain ⟨_, _, rfl, _⟩ := h; rfl) fun f0 cdv A outer s H vs R E hr h => ?_
  obtain ⟨t, a, rfl, ht, hok, hm, rfl⟩ := h
  refine xs_set (R := WaysR W (theWays (singleS t)) (okS t)) 1 (xe_waysS T hr (xe_var 0 rfl) ht hok hm) (fun v H1 s1 hv => ?_) sc_lists.nd
  obtain ⟨wy, dw, fs, rfl, hw, hwf⟩ := hv
  obtain ⟨st, m, c, hh, el, mes, ces, hes, rfl, hm, hc, hcv, hhe, hkm, hkc, hkh, om, oc, oh, nh, nm⟩ := id hwf
  have hk2 : keysT hes = (theWays (singleS t)).hearings.map (·.1) := by
    rw [keys_vals, hkh]
    unfold encH
    rw [List.map_map]
    rfl
  have b1 : ∀ x ∈ keysT mes, IsB x := fun x hx => by
    obtain ⟨mk, b, e, _⟩ := om x (hkm ▸ hx)
    exact ⟨b, by rw [e]⟩
  have b2 : ∀ x ∈ keysT hes, IsB x := fun x hx => by
    obtain ⟨mk, b, e, _⟩ := oh x hx
    exact ⟨b, by rw [e]⟩
  have hmX : FTd (cx W n_lists "lists" s_lists f0 cdv A outer s H E) H1 m mes := hm
  have hhX : FTd (cx W n_lists "lists" s_lists f0 cdv A outer s H E) H1 hh hes := hhe
  refine xs_ret (R := TupR [TIt W.K (theWays (singleS t)).machine, TIt W.K ((theWays (singleS t)).hearings.map (·.1))]) (xe_tup (xa_cons (R := TIt W.K (theWays (singleS t)).machine) (by rw [← hkm]; exact xe_tupSorted B.sorted B.tuple (xe_fld (v := .ref m) (xe_var 1 rfl) hw WC.cl (WC.na "machine" (by simp)) rfl) hmX b1) (xa_cons (R := TIt W.K ((theWays (singleS t)).hearings.map (·.1))) (by rw [← hk2]; exact xe_tupSorted B.sorted B.tuple (xe_fld (v := .ref hh) (xe_var 1 rfl) hw WC.cl (WC.na "hearings" (by simp)) rfl) hhX b2) xa_nil)) (by simp)) fun v H2 s2 r => ⟨s1.trans s2, r, om, fun x hx => oh x (by rw [hk2]; exact hx)⟩
/-- two such results compare as their lists, sorted, do -/
theorem tIt_eq {K : PySem.W.Frag} {l : List It2} {v u : V} {H : Hp} (hB : ∀ x ∈ l, IsB x) (hI : ∀ x ∈ l, okIt x) (h1 : TIt K l v H) (h2 : TIt K l u H) : ∃ ks : List It2, (∀ x ∈ ks, okIt x) ∧ Dp K H v (.tuple (ks.map itD)) ∧ Dp K H u (.tuple (ks.map itD)) := by
  obtain ⟨a, zs, ks, rfl, q1, q2, q3, q4⟩ := h1
  obtain ⟨a', zs', ks', rfl, q1', q2', q3', q4'⟩ := h2
  obtain rfl : ks = ks' := srtI_uniq (fun x hx => hB x (q2.mem_iff.mp hx)) (fun x hx => hB x (q2'.mem_iff.mp hx)) q3 q3' (q2.trans q2'.symm)
  exact ⟨ks, fun x hx => hI x (q2.mem_iff.mp hx), .tup (SqT.of q1) (itR_all q4), .tup (SqT.of q1') (itR_all q4')⟩
end
end LM

set_option maxHeartbeats 400000
namespace LM
open PySem PySem.Spec PyProof.Rows L2
theorem none_of_same {H H' : Hp} {p : Addr} (e : Same H H') (h : H' p = none) : H p = none := by
  cases q : H p with
  | none => rfl
  | some o => rw [e _ _ q] at h; cases h
section
variable {X : Cx} {e a b : Expr} {es : List Expr} {σ : St} {H : Hp} {pos p : Pos} {Rs : List VP} {R : VP} {v : V} {xs : List V}
theorem xe_lstNew (h : XA X es σ H Rs) (hl : Rs.length ≤ 1000000) : XE X (.List es pos) σ H (fun v H' => ∃ q ys, v = .ref q ∧ H q = none ∧ H' q = some (.lst ys) ∧ AllR Rs ys H') :=
  XE.of (pe_lst pa_s) fun H1 s1 Q k => h.s s1 fun vs H2 e2 q => ⟨by rw [q.length]; exact sz_of hl, fun p hp => k (.ref p) _ (e2.trans (newS hp)) ⟨p, vs, rfl, none_of_same (s1.trans e2) hp, upd_same, AllR.mono h.mon (newS hp) q⟩⟩
theorem xe_ixLR {i : Int} [Mon R] (ha : XE X a σ H R) (hb : XV X b σ H (.int i)) (hq : ∀ u H1, R u H1 → ∃ p, u = .ref p ∧ SqL X.K H1 p xs) (hv : atI xs i = some v) (hs : PlainIx b := by exact fun _ _ => rfl) : XV X (.Subscript a b pos) σ H v :=
  XE.of (pe_ix ix_list pe_s pe_s hs) fun H1 s1 Q k => ha.s s1 fun u H2 e2 q => hb.s (s1.trans e2) fun w H3 e3 r => by
    cases r
    obtain ⟨p, rfl, hq⟩ := hq u H2 q
    exact ⟨p, xs, i, v, rfl, rfl, sq_mono e3 hq, hv, k _ H3 (e2.trans e3) rfl⟩
theorem xe_abs {i : Int} (hm : X.mg "abs" = none) (ha : XV X e σ H (.int i)) (hg : Gl X "abs" := by rfl)
    (he : starEach [e] X.env = (false, eval e X.env) :: starEach [] X.env := by rfl) (hpl : (backTo pos (starEach [] X.env)).any (·.1) = false := by rfl) : XV X (.Call (.Name "abs" p) [e] [] pos) σ H (.int (if i < 0 then -i else i)) :=
  xe_callB call_abs hm (xa_cons ha xa_nil he) (fun vs H1 s1 hr H2 s2 Q k => by
    obtain ⟨v, rfl, hv⟩ := allR1 hr
    cases hv
    exact ⟨i, rfl, k _ _ (Same.refl _) rfl⟩) (by decide +kernel) hg (by decide) (by decide) he hpl
end
section
variable {W : Wd}
/-! ### the box -/
def NewBox (H0 : Hp) : VP := fun v H' => ∃ p i j l, v = .ref p ∧ H0 p = none ∧ H' p = some (ints3 i j l)
instance (H0 : Hp) : Mon (NewBox H0) := ⟨fun v H H' e ⟨p, i, j, l, h1, h2, h3⟩ => ⟨p, i, j, l, h1, h2, e _ _ h3⟩⟩
def preBox (W : Wd) : List V → Hp → VP → Prop := fun vs H R => ∃ (H0 : Hp) (a : Addr) (ns : List Int) (k : Nat), vs = [.ref a, .int k] ∧ SqL W.K H a (ns.map V.int) ∧ k ≤ 1 ∧ Same H0 H ∧ R = NewBox H0
theorem cal_law_box (B : Blt W) (A : DefAt W "_law_box" s_law_box ["_law_script", "_law_k"]) : Cal W 1 "_law_box" (Pure (preBox W)) := by
  refine cal_pure A sc_law_box (fun vs H R h => by obtain ⟨_, _, _, _, rfl, _⟩ := h; rfl) fun f0 cdv A outer s H vs R E hr h => ?_
  obtain ⟨H0, a, ns, k, rfl, ha, hk, s0, rfl⟩ := h
  have nd := sc_law_box.nd
  have fin : ∀ (H1 : Hp) (g : Int), Same H H1 → XSs (cx W n_law_box "_law_box" s_law_box f0 cdv A outer s H E) ((defBody s_law_box).drop 2) (RetD H (NewBox H0)) [some (.ref a), some (.int (k : Nat)), some (.int g), none] H1 := fun H1 g s1 => by
    refine xs_setv 3 (v := .int ((g % 2147483629 * 45319 + 38453 * (k : Nat) + 17) % 2147483629 + 1)) (xe_op (x := .int ((g % 2147483629 * 45319 + 38453 * (k : Nat) + 17) % 2147483629)) (y := .int 1) op_add (xe_op (x := .int (g % 2147483629 * 45319 + 38453 * (k : Nat) + 17)) (y := .int 2147483629) op_mod (xe_intI B.int (xe_op (x := .int (g % 2147483629 * 45319 + 38453 * (k : Nat))) (y := .int 17) op_add (xe_op (x := .int (g % 2147483629 * 45319)) (y := .int (38453 * (k : Nat))) op_add (xe_op (x := .int (g % 2147483629)) (y := .int 45319) op_mul (xe_op (x := .int g) (y := .int 2147483629) op_mod (xe_intI B.int (xe_var 2 rfl)) xe_int (rv_I (by decide))) xe_int (rv_I (.inr (by decide)))) (xe_op (x := .int 38453) (y := .int (k : Nat)) op_mul xe_int (xe_var 1 rfl) (rv_I (.inl (by decide)))) rv_I0) xe_int rv_I0)) xe_int (rv_I (by decide))) xe_int rv_I0) ?_ nd
    generalize (g % 2147483629 * 45319 + 38453 * (k : Nat) + 17) % 2147483629 + 1 = sd
    refine xs_ret (R := fun v H' => ∃ q ys, v = .ref q ∧ H1 q = none ∧ H' q = some (.lst ys) ∧ AllR [Is (.int (if decide ((1000000000000000000 : Int) ≤ g) = true then g else 0)), Is (.int sd), Is (.int 0)] ys H') (xe_lstNew (xa_cons (R := Is (.int (if decide ((1000000000000000000 : Int) ≤ g) = true then g else 0))) (xe_ixLR (R := LstR ([V.int 0, V.int g].map Is)) (xs := [V.int 0, V.int g]) (xe_lst (xa_cons xe_int (xa_cons (xe_var 2 rfl) xa_nil)) (by simp)) (xe_intB (k := decide ((1000000000000000000 : Int) ≤ g)) B.int (xe_cmp (x := .int g) (y := .int 1000000000000000000) op_ge (xe_var 2 rfl) (XE.cast (xe_op (x := .int 10) (y := .int 18) op_pow xe_int xe_int (rv_I ⟨by decide, by decide, by decide⟩)) (by decide +kernel)) rv_I0 (nomark _))) (fun u H2 h3 => let ⟨p, e1, e2⟩ := lstR_is h3; ⟨p, e1, SqL.of e2⟩) (by
        by_cases q : (1000000000000000000 : Int) ≤ g
        · rw [decide_eq_true q]; rfl
        · rw [decide_eq_false q]; rfl)) (xa_cons (xe_var 3 rfl) (xa_cons xe_int xa_nil))) (by simp)) fun v H2 s2 hv => ?_
    obtain ⟨q, ys, rfl, hq, hq2, hys⟩ := hv
    obtain ⟨_, _, _, rfl, e1, e2, e3⟩ := allR3 hys
    cases e1; cases e2; cases e3
    exact ⟨s1.trans s2, q, _, _, _, rfl, none_of_same (s0.trans s1) hq, hq2⟩
  refine xs_setv 2 (v := .int (6329 * (k : Nat) + 71)) (xe_op (x := .int (6329 * (k : Nat))) (y := .int 71) op_add (xe_op (x := .int 6329) (y := .int (k : Nat)) op_mul xe_int (xe_var 1 rfl) (rv_I (.inl (by decide)))) xe_int rv_I0) ?_ nd
  have lenX : ∀ {pos p1 p2 : Pos} {u2 u3 : Option V}, XV (cx W n_law_box "_law_box" s_law_box f0 cdv A outer s H E) (.Call (.Name "len" p1) [.Name "_law_script" p2] [] pos) [some (.ref a), some (.int (k : Nat)), u2, u3] H (.int ns.length) := fun {pos p1 p2 u2 u3} => XE.cast (xe_len B.len (xe_var 0 rfl) (.inl ha)) (by rw [List.length_map])
  refine xs_if (b := decide (((k : Nat) : Int) < ns.length)) (xt_cmp (x := .int (k : Nat)) (y := .int ns.length) op_lt (xe_var 1 rfl) lenX rv_I0 (nomark _)) (fun hc => ?_) fun hc => ?_
  · have hlt : k < ns.length := by have := of_decide_eq_true hc; omega
    have hx : (ns.map V.int)[k]? = some (.int ns[k]) := by simp [hlt]
    refine xs_setv 2 (v := .int (if ns[k] < 0 then -ns[k] else ns[k])) (xe_abs B.abs (xe_intI B.int (xe_ixL (xe_var 0 rfl) (xe_var 1 rfl) ha (atI_nat hx)))) ?_ nd
    exact xs_nil fun H1 s1 => fin H1 _ s1
  · refine xs_if (b := decide ((0 : Int) < ns.length)) (xt_cmp (x := .int ns.length) (y := .int 0) op_gt lenX xe_int rv_I0 (nomark _)) (fun hc2 => ?_) fun hc2 => ?_
    · have hlt : 0 < ns.length := by have := of_decide_eq_true hc2; omega
      have hm : ((k : Nat) : Int) % (ns.length : Int) = ((k % ns.length : Nat) : Int) := by rw [Int.natCast_emod]
      have hmk : k % ns.length < ns.length := Nat.mod_lt _ hlt
      have hx : (ns.map V.int)[k % ns.length]? = some (.int ns[k % ns.length]) := by simp [hmk]
      refine xs_setv 2 (v := .int (6329 * (k : Nat) + 71 + ns[k % ns.length] % 2147483629 * 83639)) (xe_op (x := .int (6329 * (k : Nat) + 71)) (y := .int (ns[k % ns.length] % 2147483629 * 83639)) op_add (xe_var 2 rfl) (xe_op (x := .int (ns[k % ns.length] % 2147483629)) (y := .int 83639) op_mul (xe_op (x := .int ns[k % ns.length]) (y := .int 2147483629) op_mod (xe_intI B.int (xe_ixL (xe_var 0 rfl) (XE.cast (xe_op (x := .int (k : Nat)) (y := .int ns.length) op_mod (xe_intI B.int (xe_var 1 rfl)) lenX (rv_I (by omega))) (by rw [hm])) ha (atI_nat hx))) xe_int (rv_I (by decide))) xe_int (rv_I (.inr (by decide)))) rv_I0) ?_ nd
      exact xs_nil fun H1 s1 => xs_nil fun H2 s2 => fin H2 _ (s1.trans s2)
    · exact xs_nil fun H1 s1 => xs_nil fun H2 s2 => fin H2 _ (s1.trans s2)
end
end LM

set_option maxHeartbeats 400000
/-! plain: a row that never fits changes nothing -/
namespace LM
open PySem L2
def ranS (m : Str) : LR → Option Str
  | .run o t => if fits o m = true then some t else none
  | _ => none
def ledS (m : Str) (p : Pat) : LR → Option Str
  | .lead ts o t => if (fits o m && ts.all (holdsT p)) = true then some t else none
  | _ => none
def joinS (h c : Str) : LR → Option Str
  | .join a b t => if (fits a h && fits b c) = true then some (thenOf t h c) else none
  | _ => none
theorem ran_find (m : Str) : ∀ rs : List LR, ranR rs m = (rs.findSome? (ranS m)).getD m
  | [] => rfl
  | r :: rs => by
    have ih := ran_find m rs
    cases r with
    | run o t =>
      unfold ranR
      rw [List.findSome?_cons]
      cases h : fits o m with
      | true => simp [ranS, h]
      | false => simp [ranS, h, ih]
    | lead ts o t => rw [List.findSome?_cons]; exact ih
    | join a b t => rw [List.findSome?_cons]; exact ih
theorem led_find (b m : Str) (p : Pat) : ∀ rs : List LR, ledR b rs m p = (rs.findSome? (ledS m p)).getD b
  | [] => rfl
  | r :: rs => by
    have ih := led_find b m p rs
    cases r with
    | run o t => rw [List.findSome?_cons]; exact ih
    | lead ts o t =>
      unfold ledR
      rw [List.findSome?_cons]
      cases h : (fits o m && ts.all (holdsT p)) with
      | true => simp only [ledS, h]; rfl
      | false => simp only [ledS, h]; exact ih
    | join a b t => rw [List.findSome?_cons]; exact ih
theorem join_find (h c : Str) : ∀ rs : List LR, joinR rs h c = (rs.findSome? (joinS h c)).getD h
  | [] => rfl
  | r :: rs => by
    have ih := join_find h c rs
    cases r with
    | run o t => rw [List.findSome?_cons]; exact ih
    | lead ts o t => rw [List.findSome?_cons]; exact ih
    | join a b t =>
      unfold joinR
      rw [List.findSome?_cons]
      cases q : (fits a h && fits b c) with
      | true => simp only [joinS, q]; rfl
      | false => simp only [joinS, q]; exact ih
theorem find_skip {f : LR → Option Str} {A B : List LR} {r0 r' : LR} (h0 : r0 ∈ A) (h : f r0 = none → f r' = none) : (A ++ r' :: B).findSome? f = (A ++ B).findSome? f := by
  rw [List.findSome?_append, List.findSome?_append]
  cases q : A.findSome? f with
  | some x => rfl
  | none =>
    have := List.findSome?_eq_none_iff.mp q r0 h0
    rw [List.findSome?_cons, h this]
theorem fits_any (m : Str) : fits "any" m = true := by
  unfold fits
  rw [decide_eq_true rfl]
  rfl
theorem Shad.ran {r0 r' : LR} (h : Shad r0 r') (m : Str) : ranS m r0 = none → ranS m r' = none := by
  cases h with
  | same r => exact id
  | lead ts more o b => exact fun _ => rfl
  | run t m' t' =>
    intro q
    simp [ranS, fits_any] at q
  | join c t m' t' => exact fun _ => rfl
theorem Shad.led {r0 r' : LR} (h : Shad r0 r') (m : Str) (p : Pat) : ledS m p r0 = none → ledS m p r' = none := by
  cases h with
  | same r => exact id
  | lead ts more o b =>
    intro q
    cases e : (fits o m && ts.all (holdsT p)) with
    | true => simp only [ledS, e] at q; cases q
    | false =>
      have : (fits o m && (ts ++ more).all (holdsT p)) = false := by
        rw [List.all_append, ← Bool.and_assoc, e]
        rfl
      simp only [ledS, this]
      rfl
  | run t m' t' => exact fun _ => rfl
  | join c t m' t' => exact fun _ => rfl
theorem Shad.join' {r0 r' : LR} (h : Shad r0 r') (a c : Str) : joinS a c r0 = none → joinS a c r' = none := by
  cases h with
  | same r => exact id
  | lead ts more o b => exact fun _ => rfl
  | run t m' t' => exact fun _ => rfl
  | join d t m' t' =>
    intro q
    cases e : fits d c with
    | true =>
      have : (fits "any" a && fits d c) = true := by rw [fits_any, e]; rfl
      simp only [joinS, this] at q
      cases q
    | false =>
      have : (fits m' a && fits d c) = false := by rw [e, Bool.and_false]
      simp only [joinS, this]
      rfl
theorem like_ins {t : LT} {A B : List LR} {r0 r' : LR} (h0 : r0 ∈ A) (hs : Shad r0 r') : ({ t with rows := A ++ B } : LT).like { t with rows := A ++ r' :: B } where
  marks := rfl
  told := rfl
  parts := rfl
  clears := rfl
  ran := fun m => by
    show ranR (A ++ B) m = ranR (A ++ r' :: B) m
    rw [ran_find, ran_find, find_skip h0 (hs.ran m)]
  led := fun m s => by
    show (if m = t.blank then t.blank else ledR t.blank (A ++ B) m s) = if m = t.blank then t.blank else ledR t.blank (A ++ r' :: B) m s
    rw [led_find, led_find, find_skip h0 (hs.led m s)]
  joined := fun a c => by
    show joinR (A ++ B) a c = joinR (A ++ r' :: B) a c
    rw [join_find, join_find, find_skip h0 (hs.join' a c)]
/-! heeding -/
theorem heedRow_run {ps : List Str} {o t : Str} : heedRow ps (.run o t) = some (.run o t) := rfl
theorem heedRow_join {ps : List Str} {a c t : Str} : heedRow ps (.join a c t) = some (.join a c t) := rfl
theorem heed_shad {ps : List Str} {r0 r' r'' : LR} (hs : Shad r0 r') (h : heedRow ps r' = some r'') : ∃ r1, heedRow ps r0 = some r1 ∧ Shad r1 r'' := by
  cases hs with
  | same r => exact ⟨r'', h, .same r''⟩
  | lead ts more o b =>
    have e := heedRow_leadS h
    rw [heedRow_lead] at h
    by_cases c : ((ts ++ more).any fun x => decide (x = partOf x) && !decide (x ∈ ps)) = true
    · rw [if_pos c] at h; cases h
    · rw [List.any_append, Bool.or_eq_true] at c
      have c1 : ¬ (ts.any fun x => decide (x = partOf x) && !decide (x ∈ ps)) = true := fun q => c (.inl q)
      refine ⟨.lead (ts.filter fun x => decide (partOf x ∈ ps)) o b, by rw [heedRow_lead, if_neg c1], ?_⟩
      rw [e, List.filter_append]
      exact .lead _ _ _ _
  | run t m t' => cases h; exact ⟨_, rfl, .run t m t'⟩
  | join c t m t' => cases h; exact ⟨_, rfl, .join c t m t'⟩
def LT.put (t : LT) (rs : List LR) : LT := { t with rows := rs }
theorem like_heed {t : LT} {ps : List Str} {A B : List LR} {r0 r' : LR} (h0 : r0 ∈ A) (hs : Shad r0 r') : ((t.put (A ++ B)).heeding ps).norm.like ((t.put (A ++ r' :: B)).heeding ps).norm := by
  have e1 : ((t.put (A ++ B)).heeding ps).norm = { t.norm with rows := A.filterMap (heedRow ps) ++ B.filterMap (heedRow ps) } := by
    unfold LT.heeding LT.put LT.norm
    simp only [List.filterMap_append]
  cases q : heedRow ps r' with
  | none =>
    have e2 : ((t.put (A ++ r' :: B)).heeding ps).norm = { t.norm with rows := A.filterMap (heedRow ps) ++ B.filterMap (heedRow ps) } := by
      unfold LT.heeding LT.put LT.norm
      simp only [List.filterMap_append, List.filterMap_cons, q]
    rw [e1, e2]
    exact LT.like.refl _
  | some r'' =>
    obtain ⟨r1, h1, h2⟩ := heed_shad hs q
    have e2 : ((t.put (A ++ r' :: B)).heeding ps).norm = { t.norm with rows := A.filterMap (heedRow ps) ++ r'' :: B.filterMap (heedRow ps) } := by
      unfold LT.heeding LT.put LT.norm
      simp only [List.filterMap_append, List.filterMap_cons, q]
    rw [e1, e2]
    exact like_ins (List.mem_filterMap.mpr ⟨r0, h0, h1⟩) h2
theorem norm_norm (t : LT) : t.norm.norm = t.norm := by
  have e1 : t.marks.filter (fun m => decide (m ∈ t.marks.filter fun m => decide (m ∈ t.told))) = t.marks.filter fun m => decide (m ∈ t.told) := by
    refine List.filter_congr fun m hm => ?_
    rw [decide_eq_decide, List.mem_filter, decide_eq_true_iff]
    exact ⟨fun h => h.2, fun h => ⟨hm, h⟩⟩
  have e2 : lPARTS.filter (fun m => decide (m ∈ lPARTS.filter fun m => decide (m ∈ t.parts))) = lPARTS.filter fun m => decide (m ∈ t.parts) := by
    refine List.filter_congr fun m hm => ?_
    rw [decide_eq_decide, List.mem_filter, decide_eq_true_iff]
    exact ⟨fun h => h.2, fun h => ⟨hm, h⟩⟩
  unfold LT.norm
  simp only [e1, e2]
/-! what follows from like -/
theorem like_met {p q : LT} (h : p.like q) (w : WaysD) (x : It2) (n : Nat) (f : Str) : metK p w x n f = metK q w x n f := by
  unfold metK fallK disK dblK
  simp only [h.told, h.keeps, h.led, h.joined]
theorem like_least {p q : LT} (h : p.like q) (f : Str) : leastK p (theWays (singleS p)) f = leastK q (theWays (singleS q)) f := by
  rw [h.single]
  unfold leastK
  simp only [like_met h]
theorem like_faults {p q : LT} (h : p.like q) : faultsK p = faultsK q := by
  unfold faultsK
  simp only [like_least h]
theorem like_happ {p q : LT} (h : p.like q) (ws : List Str) : happK p ws = happK q ws := by
  unfold happK
  rw [like_faults h]
/-! the law's tools -/
section
variable {t : LT} {i : Nat} {r0 r' : LR}
theorem mem_take1 (h : t.rows[i]? = some r0) : r0 ∈ t.rows.take (i + 1) := by
  have hlt : i < t.rows.length := (List.getElem?_eq_some_iff.mp h).1
  refine List.mem_of_getElem? (i := i) ?_
  rw [List.getElem?_take, if_pos (by omega), h]
theorem ins_rows : (t.ins (i + 1) r').rows = t.rows.take (i + 1) ++ r' :: t.rows.drop (i + 1) := rfl
theorem norm_put : t.norm = t.norm.put (t.rows.take (i + 1) ++ t.rows.drop (i + 1)) := by
  rw [List.take_append_drop]
  rfl
theorem ins_put : (t.ins (i + 1) r').norm = t.norm.put (t.rows.take (i + 1) ++ r' :: t.rows.drop (i + 1)) := rfl
theorem law_like (h : t.rows[i]? = some r0) (hs : Shad r0 r') : t.norm.like (t.ins (i + 1) r').norm := by
  rw [norm_put (i := i), ins_put]
  exact like_ins (mem_take1 h) hs
theorem law_heed (h : t.rows[i]? = some r0) (hs : Shad r0 r') (ps : List Str) : (t.norm.heeding ps).norm.like ((t.ins (i + 1) r').norm.heeding ps).norm := by
  have e : t.norm.heeding ps = (t.norm.put (t.rows.take (i + 1) ++ t.rows.drop (i + 1))).heeding ps := congrArg (fun z => LT.heeding z ps) norm_put
  rw [e, ins_put]
  exact like_heed (mem_take1 h) hs
theorem law_without (h : t.rows[i]? = some r0) : ((t.ins (i + 1) r').norm.without (i + 1)).norm = t.norm := by
  have hlt : i < t.rows.length := (List.getElem?_eq_some_iff.mp h).1
  have hl : (t.rows.take (i + 1)).length = i + 1 := by rw [List.length_take]; omega
  have e : (t.ins (i + 1) r').norm.without (i + 1) = t.norm := by
    show t.norm.put ((t.rows.take (i + 1) ++ r' :: t.rows.drop (i + 1)).take (i + 1) ++ (t.rows.take (i + 1) ++ r' :: t.rows.drop (i + 1)).drop (i + 1 + 1)) = t.norm
    rw [List.take_left' hl, List.drop_append, hl]
    rw [List.drop_eq_nil_of_le (by omega)]
    have : i + 1 + 1 - (i + 1) = 1 := by omega
    rw [this]
    show t.norm.put (t.rows.take (i + 1) ++ ([] ++ t.rows.drop (i + 1))) = t.norm
    rw [List.nil_append]
    exact norm_put.symm
  rw [e, norm_norm]
theorem law_needless (h : t.rows[i]? = some r0) (hs : Shad r0 r') (ws : List Str) : i + 1 ∈ needlessK (t.ins (i + 1) r').norm ws := by
  have hlt : i < t.rows.length := (List.getElem?_eq_some_iff.mp h).1
  unfold needlessK
  refine List.mem_filter.mpr ⟨List.mem_range.mpr ?_, decide_eq_true ?_⟩
  · show i + 1 < (t.rows.take (i + 1) ++ r' :: t.rows.drop (i + 1)).length
    rw [List.length_append, List.length_cons, List.length_take, List.length_drop]
    omega
  · rw [law_without h]
    exact like_happ (law_like h hs) ws
theorem law_leastP (h : t.rows[i]? = some r0) (hs : Shad r0 r') (ws : List Str) : leastP t.norm ws = leastP (t.ins (i + 1) r').norm ws := by
  unfold leastP
  congr 1
  funext s
  unfold hitP
  rw [like_happ (law_heed h hs s) ws]
theorem heedAll {ps : List Str} (hps : ∀ p ∈ lPARTS, p ∈ ps) {r : LR} (hr : r.ok) : heedRow ps r = some r := by
  cases r with
  | run o b => rfl
  | join a c b => rfl
  | lead ts o b =>
    have hp : ∀ x ∈ lTESTS, partOf x ∈ lPARTS := by decide +kernel
    have h1 : ∀ x ∈ ts, partOf x ∈ ps := fun x hx => hps _ (hp x (hr.1 x hx))
    rw [heedRow_lead, if_neg, List.filter_eq_self.mpr fun x hx => decide_eq_true (h1 x hx)]
    intro q
    obtain ⟨x, hx, e⟩ := List.any_eq_true.mp q
    rw [Bool.and_eq_true, decide_eq_true_iff] at e
    have := h1 x hx
    rw [← e.1] at this
    rw [decide_eq_true this] at e
    cases e.2
theorem law_all {ps : List Str} (hps : ∀ p ∈ lPARTS, p ∈ ps) (hok : t.ok) : (t.norm.heeding ps).norm = t.norm := by
  have e : t.norm.heeding ps = t.norm := by
    unfold LT.heeding
    have : t.norm.rows.filterMap (heedRow ps) = t.norm.rows := by
      have h2 : ∀ rs : List LR, (∀ r ∈ rs, r.ok) → rs.filterMap (heedRow ps) = rs := by
        intro rs
        induction rs with
        | nil => intro _; rfl
        | cons r rs ih =>
          intro h
          rw [List.filterMap_cons, heedAll hps (h r (by simp)), ih fun x hx => h x (by simp [hx])]
      exact h2 _ hok.rows
    rw [this]
  rw [e, norm_norm]
theorem heed_both (a b : List Str) (r : LR) : (heedRow a r).bind (heedRow b) = heedRow (a.filter fun x => decide (x ∈ b)) r := by
  cases r with
  | run o t => rfl
  | join c d t => rfl
  | lead ts o t =>
    have hm : ∀ x, (x ∈ a.filter fun x => decide (x ∈ b)) ↔ x ∈ a ∧ x ∈ b := fun x => by rw [List.mem_filter, decide_eq_true_iff]
    rw [heedRow_lead, heedRow_lead]
    by_cases c1 : (ts.any fun x => decide (x = partOf x) && !decide (x ∈ a)) = true
    · rw [if_pos c1, if_pos]
      · rfl
      · obtain ⟨x, hx, e⟩ := List.any_eq_true.mp c1
        rw [Bool.and_eq_true, decide_eq_true_iff, Bool.not_eq_true', decide_eq_false_iff_not] at e
        refine List.any_eq_true.mpr ⟨x, hx, ?_⟩
        rw [Bool.and_eq_true, decide_eq_true_iff, Bool.not_eq_true', decide_eq_false_iff_not]
        exact ⟨e.1, fun q => e.2 ((hm x).mp q).1⟩
    · rw [if_neg c1]
      show heedRow b (.lead _ o t) = _
      rw [heedRow_lead]
      have n1 : ∀ x ∈ ts, x = partOf x → x ∈ a := fun x hx e => by
        by_cases q : x ∈ a
        · exact q
        · refine absurd (List.any_eq_true.mpr ⟨x, hx, ?_⟩) c1
          rw [Bool.and_eq_true, decide_eq_true_iff, Bool.not_eq_true', decide_eq_false_iff_not]
          exact ⟨e, q⟩
      have e1 : ((ts.filter fun x => decide (partOf x ∈ a)).any fun x => decide (x = partOf x) && !decide (x ∈ b)) = (ts.any fun x => decide (x = partOf x) && !decide (x ∈ a.filter fun x => decide (x ∈ b))) := by
        rw [Bool.eq_iff_iff, List.any_eq_true, List.any_eq_true]
        constructor
        · rintro ⟨x, hx, e⟩
          obtain ⟨hx, _⟩ := List.mem_filter.mp hx
          rw [Bool.and_eq_true, decide_eq_true_iff, Bool.not_eq_true', decide_eq_false_iff_not] at e
          refine ⟨x, hx, ?_⟩
          rw [Bool.and_eq_true, decide_eq_true_iff, Bool.not_eq_true', decide_eq_false_iff_not]
          exact ⟨e.1, fun q => e.2 ((hm x).mp q).2⟩
        · rintro ⟨x, hx, e⟩
          rw [Bool.and_eq_true, decide_eq_true_iff, Bool.not_eq_true', decide_eq_false_iff_not] at e
          have ha := n1 x hx e.1
          refine ⟨x, List.mem_filter.mpr ⟨hx, decide_eq_true (by rw [← e.1]; exact ha)⟩, ?_⟩
          rw [Bool.and_eq_true, decide_eq_true_iff, Bool.not_eq_true', decide_eq_false_iff_not]
          exact ⟨e.1, fun q => e.2 ((hm x).mpr ⟨ha, q⟩)⟩
      have e2 : ((ts.filter fun x => decide (partOf x ∈ a)).filter fun x => decide (partOf x ∈ b)) = ts.filter fun x => decide (partOf x ∈ a.filter fun x => decide (x ∈ b)) := by
        rw [List.filter_filter]
        refine List.filter_congr fun x _ => ?_
        rw [Bool.eq_iff_iff, Bool.and_eq_true, decide_eq_true_iff, decide_eq_true_iff, decide_eq_true_iff, hm]
        exact ⟨fun h => ⟨h.2, h.1⟩, fun h => ⟨h.2, h.1⟩⟩
      rw [e1, e2]
theorem put_norm (rs : List LR) : (t.norm.put rs).norm = t.norm.put rs := by
  show t.norm.norm.put rs = t.norm.put rs
  rw [norm_norm]
theorem law_twice (a b : List Str) : ((t.norm.heeding a).norm.heeding b).norm = (t.norm.heeding (a.filter fun x => decide (x ∈ b))).norm := by
  have e : (t.norm.heeding a).norm.heeding b = ((t.norm.heeding (a.filter fun x => decide (x ∈ b))).norm) := by
    have h1 : (t.norm.heeding a).norm = t.norm.put (t.rows.filterMap (heedRow a)) := by
      exact put_norm _
    have h2 : (t.norm.heeding (a.filter fun x => decide (x ∈ b))).norm = t.norm.put (t.rows.filterMap (heedRow (a.filter fun x => decide (x ∈ b)))) := by
      exact put_norm _
    rw [h1, h2]
    show t.norm.put ((t.rows.filterMap (heedRow a)).filterMap (heedRow b)) = _
    rw [List.filterMap_filterMap]
    congr 2
    funext r
    exact heed_both a b r
  rw [e, norm_norm]
end
end LM

set_option maxHeartbeats 400000
namespace LM
open PySem PySem.Spec PyProof.Rows L2
theorem eqv_shaped {d : PyData} (h : SeqAt.shaped d = true) : PyData.eqv d d = true := by
  unfold SeqAt.shaped at h
  rw [Bool.and_eq_true] at h
  exact SeqAt.eqv_refl_plain d (PyData.plain_of_canLay0 d h.1)
theorem rv_neSame {K : PySem.W.Frag} {H : Hp} {x y : V} {d : PyData} (h1 : Dp K H x d) (h2 : Dp K H y d) (s : SeqAt.shaped d = true) : RV (rNeD K) x y H (Is (.bl false)) := by
  have := rv_neDt h1 h2 s s
  rwa [eqv_shaped s] at this
section
variable {X : Cx} {o e1 : Expr} {σ : St} {H : Hp} {pos apos : Pos} {t : LT}
/-- a method of some tool, some argument -/
theorem xe_toolRR {k j : Nat} {m : Str} {pre : List V → Hp → VP → Prop} {R R1 : VP} [Mon R1] {pl : Sem Bool} (c : Met (wd X) k (cTool (wd X)) m (Pure pre)) (hr : Room j X.A) (ho : XE X o σ H (ToolR (wd X) t)) (h1 : XE X e1 σ H R1)
    (hp : ∀ a v H1, Same H H1 → ToolA (wd X) t a H1 → R1 v H1 → pre [.ref a, v] H1 R) (hk : k ≤ j := by decide) (hn : ∀ am at_ ap c ar b, (toolFs am at_ ap c ar b).lookup m = none := by intros; rfl)
    (hst : starEach [e1] X.env = (false, eval e1 X.env) :: starEach [] X.env := by rfl) (hpl : (backTo pos (starEach [] X.env)).any (·.1) = false := by rfl)
    (hq : eval (.Call (.Attribute o m apos) [e1] [] pos) X.env = (do
      let ov ← eval o X.env
      standAt apos.atName
      let (f, first) ← holding [ov] (getMethod ov m pl)
      callWith pos f first (backTo pos (starEach [e1] X.env)) (backToKw pos (keywordEach [] X.env))) := by rfl) : XE X (.Call (.Attribute o m apos) [e1] [] pos) σ H R := by
  obtain ⟨f, fd, ps, hc, hm, F, b⟩ := c.ex
  exact XE.of (pe_meth (pl := pl) pe_s hc hm F (hr.mono hk) b .nil pass0 pa_s hst hpl hq) fun H1 s1 Q kq => ho.s s1 fun v H2 e2 q => by
    obtain ⟨a, dx, fs, rfl, h2, hf⟩ := q
    obtain ⟨am, at_, ap, ar, xs, efs, hh⟩ := id hf
    have hlook : fs.lookup m = none := by rw [efs]; exact hn _ _ _ _ _ _
    exact ⟨a, dx, fs, rfl, h2, hlook, (xa_cons h1 xa_nil hst).s (s1.trans e2) fun vs H3 e3 q => ⟨R, by
      rw [List.append_nil]
      obtain ⟨w, rfl, hw⟩ := allR1 q
      exact hp a w H3 ((s1.trans e2).trans e3) (ToolA.mono e3 ⟨dx, fs, h2, hf⟩) hw, fun v H4 e4 r => kq v H4 ((e2.trans e3).trans e4) r⟩⟩
theorem toolR_of {W : Wd} {t : LT} {a : Addr} {H : Hp} (h : ToolA W t a H) : ToolR W t (.ref a) H := let ⟨dx, fs, h1, h2⟩ := h; ⟨a, dx, fs, rfl, h1, h2⟩
/-- some list of texts -/
def LstS (P : List Str → Prop) : VP := fun v H => ∃ a ss, v = .ref a ∧ H a = some (.lst (ss.map V.str)) ∧ P ss
instance (P : List Str → Prop) : Mon (LstS P) := ⟨fun v H H' e ⟨a, ss, h1, h2, h3⟩ => ⟨a, ss, h1, e _ _ h2, h3⟩⟩
end
def optD : Option Nat → PyData
  | none => .none
  | some n => .int n
theorem optD_of {K : PySem.W.Frag} {k : Option Nat} {v : V} {H : Hp} (h : OptR k v H) : Dp K H v (optD k) := by
  cases k with
  | none => cases h; exact .non
  | some n => cases h; exact .int _
theorem optD_shaped (k : Option Nat) : SeqAt.shaped (optD k) = true := by
  cases k with
  | none => rfl
  | some n => rfl
instance (k : Option Nat) : Mon (OptR k) := by
  cases k with
  | none => exact inferInstanceAs (Mon (Is .non))
  | some n => exact inferInstanceAs (Mon (Is _))
def optT : Option (List Str) → PyData
  | none => .none
  | some s => .tuple (s.map .str)
theorem optT_of {K : PySem.W.Frag} {k : Option (List Str)} {v : V} {H : Hp} (h : OptT k v H) : Dp K H v (optT k) := by
  cases k with
  | none => cases h; exact .non
  | some n =>
    obtain ⟨a, rfl, ha⟩ := h
    exact dp_strsT (SqT.of ha)
theorem leastP_ok {t : LT} {ws : List Str} : SeqAt.shaped (optT (leastP t ws)) = true := by
  cases q : leastP t ws with
  | none => rfl
  | some s =>
    have hs : s ∈ allCho := List.mem_of_find?_eq_some q
    have h : ∀ s ∈ allCho, ∀ p ∈ s, PyData.strOk p = true := by decide +kernel
    exact shaped_strsT (h s hs)
theorem faults_shaped {t : LT} : SeqAt.shaped (.tuple ((faultsK t).map .str)) = true := shaped_strsT fun f hf => faults_strOk f (List.mem_filter.mp hf).1
theorem shaped_two {ks ls : List It2} (h1 : ∀ x ∈ ks, okIt x) (h2 : ∀ x ∈ ls, okIt x) : SeqAt.shaped (.tuple [.tuple (ks.map itD), .tuple (ls.map itD)]) = true := by
  have a1 := shaped_items h1
  have a2 := shaped_items h2
  unfold SeqAt.shaped at a1 a2 ⊢
  rw [Bool.and_eq_true, decide_eq_true_iff] at a1 a2 ⊢
  have d1 : (PyData.list (ks.map itD)).depth ≤ 2 := depth_list (k := 1) fun d hd => by
    obtain ⟨x, hx, rfl⟩ := List.mem_map.mp hd
    exact (itD_shape (h1 x hx)).2
  have d2 : (PyData.list (ls.map itD)).depth ≤ 2 := depth_list (k := 1) fun d hd => by
    obtain ⟨x, hx, rfl⟩ := List.mem_map.mp hd
    exact (itD_shape (h2 x hx)).2
  refine ⟨?_, ?_⟩
  · have b1 := a1.1
    have b2 := a2.1
    simp only [PyData.canLay0] at b1 b2
    simp only [PyData.canLay0, PyData.canLayAll0, b1, b2, Bool.and_self]
  · simp only [PyData.depth] at d1 d2
    simp only [PyData.depth, PyData.depthAll]
    omega
end LM

set_option maxHeartbeats 1000000
namespace LM
open PySem PySem.Spec PyProof.Rows L2
section
variable {X : Cx} {a b : Expr} {σ : St} {H : Hp} {p pos : Pos}
theorem xe_min2 {i j : Int} (hm : X.mg "min" = none) (ha : XV X a σ H (.int i)) (hb : XV X b σ H (.int j)) (hc : X.calm = true := by rfl) (hg : Gl X "min" := by rfl)
    (he : starEach [a, b] X.env = (false, eval a X.env) :: starEach [b] X.env := by rfl) (he2 : starEach [b] X.env = (false, eval b X.env) :: starEach [] X.env := by rfl) (hpl : (backTo pos (starEach [b] X.env)).any (·.1) = false := by rfl) : XV X (.Call (.Name "min" p) [a, b] [] pos) σ H (.int (if j < i then j else i)) :=
  xe_callB (call_min2 hc) hm (xa_cons ha (xa_cons hb xa_nil he2) he) (fun vs H1 s1 hr H2 s2 Q k => by
    obtain ⟨v, w, rfl, hv, hw⟩ := allR2 hr
    cases hv; cases hw
    exact ⟨i, j, rfl, k _ _ (Same.refl _) rfl⟩) (by decide +kernel) hg (by decide) (by decide) he hpl
theorem xe_max2 {i j : Int} (hm : X.mg "max" = none) (ha : XV X a σ H (.int i)) (hb : XV X b σ H (.int j)) (hc : X.calm = true := by rfl) (hg : Gl X "max" := by rfl)
    (he : starEach [a, b] X.env = (false, eval a X.env) :: starEach [b] X.env := by rfl) (he2 : starEach [b] X.env = (false, eval b X.env) :: starEach [] X.env := by rfl) (hpl : (backTo pos (starEach [b] X.env)).any (·.1) = false := by rfl) : XV X (.Call (.Name "max" p) [a, b] [] pos) σ H (.int (if j > i then j else i)) :=
  xe_callB (call_max2 hc) hm (xa_cons ha (xa_cons hb xa_nil he2) he) (fun vs H1 s1 hr H2 s2 Q k => by
    obtain ⟨v, w, rfl, hv, hw⟩ := allR2 hr
    cases hv; cases hw
    exact ⟨i, j, rfl, k _ _ (Same.refl _) rfl⟩) (by decide +kernel) hg (by decide) (by decide) he hpl
end
theorem inV_nats {i : Nat} {l : List Nat} (h : i ∈ l) : inV (.int (i : Int)) (l.map fun j : Nat => V.int (j : Int)) = true := by
  unfold inV
  refine List.any_eq_true.mpr ⟨.int (i : Int), List.mem_map.mpr ⟨i, h, rfl⟩, ?_⟩
  simp [eqV]
theorem flat_nats (l : List Nat) : (l.map fun j : Nat => V.int (j : Int)).all flatV = true := by
  rw [List.all_map]
  exact List.all_eq_true.mpr fun _ _ => rfl
theorem lists_ne {W : Wd} {p q : LT} {x y : V} {H : Hp} (hok : p.ok) (L : p.like q) (h1 : ListsR W p x H) (h2 : ListsR W q y H) : RV (rNeD W.K) x y H (Is (.bl false)) := by
  obtain ⟨⟨a, xs, rfl, ha, hx⟩, om, oh⟩ := h1
  obtain ⟨⟨a', ys, rfl, ha', hy⟩, _, _⟩ := h2
  rw [← L.single] at hy
  obtain ⟨v1, v2, rfl, q1, q2⟩ := allR2 hx
  obtain ⟨w1, w2, rfl, r1, r2⟩ := allR2 hy
  have isB : ∀ x, okS p x → IsB x := fun x ⟨m, b, e, _⟩ => ⟨b, by rw [e]⟩
  obtain ⟨ks, k1, k2, k3⟩ := tIt_eq (fun x hx => isB x (om x hx)) (fun x hx => okS_it hok (om x hx)) q1 r1
  obtain ⟨ls, l1, l2, l3⟩ := tIt_eq (fun x hx => isB x (oh x hx)) (fun x hx => okS_it hok (oh x hx)) q2 r2
  exact rv_neSame (.tup (SqT.of ha) (.cons k2 (.cons l2 .nil))) (.tup (SqT.of ha') (.cons k3 (.cons l3 .nil))) (shaped_two k1 l1)
def preLaw (W : Wd) : List V → Hp → VP → Prop := fun vs H R => ∃ (a : Addr) (ns : List Int), vs = [.ref a] ∧ SqL W.K H a (ns.map V.int) ∧ R = Is (.bl true)
/-- what the law calls -/
structure LawC (W : Wd) : Prop where
  b : Blt W
  tc : ToolC W
  ne : NeC W.K (cTool W)
  box : Cal W 1 "_law_box" (Pure (preBox W))
  tool : Cal W 4 "_law_tool" (Pure preLTool)
  wider : Cal W 3 "_law_wider" (Pure preWider)
  made : Cal W 11 "_law_made" (Pure (preMade W))
  take : Cal W 1 "_law_take" (Pure preTake)
  shuf : Cal W 2 "_law_shuffled" (Pure (preShuf W))
  fw : Cal W 1 "_law_words_of_faults" (Pure preFw)
  alike : Cal W 9 "alike" (Pure (preAlike W))
  faults : Cal W 9 "faults" (Pure (preFaults W))
  lists : Cal W 9 "lists" (Pure (preLists W))
  fewest : Cal W 9 "fewest" (Pure (preFewest W))
  needless : Cal W 11 "needless" (Pure (preNeedless W))
  least : Cal W 11 "least_parts" (Pure (preLeastP W))
  without : Met W 7 (cTool W) "without" (Pure (preWithout W))
  heeding : Met W 7 (cTool W) "heeding" (Pure (preHeeding W))
  eq : Met W 7 (cTool W) "__eq__" (Pure (preToolEq W))
section
variable {W : Wd} {f : Addr} {fd : FuncData}
theorem xe_words {X : Cx} {j : Nat} {σ : St} {H : Hp} {p pos : Pos} (c : Cal (wd X) 1 "_law_words_of_faults" (Pure preFw)) (hr : Room j X.A) (hk : 1 ≤ j := by decide) (hg : Gl X "_law_words_of_faults" := by rfl) : XE X (.Call (.Name "_law_words_of_faults" p) [] [] pos) σ H (LstV (lFAULTS.map V.str)) :=
  xe_call0 c hr (fun H5 s5 => ⟨rfl, rfl⟩) hk hg (by decide)
theorem law_cells (k : Nat) : ∃ n : Nat, V.int (if (if (k : Int) < 2 then (k : Int) else 2) > 1 then (if (k : Int) < 2 then (k : Int) else 2) else 1) = V.int (n : Int) ∧ n ≤ 2 := by
  by_cases h : (k : Int) < 2
  · refine ⟨1, ?_, by omega⟩
    rw [if_pos h, if_neg (by omega)]
    rfl
  · refine ⟨2, ?_, by omega⟩
    rw [if_neg h]
    rfl
theorem fn_law (F : L2.Fun W.K "law" "law" s_law f fd) (C : LawC W) : FnW W 12 f fd ["_law_script"] (Pure (preLaw W)) := by
  refine fn_pure F sc_law (fun vs H R h => by obtain ⟨_, _, rfl, _⟩ := h; rfl) fun cdv A outer s H vs R E hr h => ?_
  obtain ⟨a, ns, rfl, ha, rfl⟩ := h
  have nd := sc_law.nd
  have B := C.b
  refine xs_forN (i0 := 1) (N := 2) (R := fun v _ => ∃ n : Nat, v = .int n ∧ n ≤ 2) B.range (XE.imp (xe_max2 (i := 1) (j := if ((ns.length : Nat) : Int) < 2 then ((ns.length : Nat) : Int) else 2) B.max xe_int (xe_min2 (i := 2) (j := ((ns.length : Nat) : Int)) B.min xe_int (XE.cast (xe_len B.len (xe_var 0 rfl) (.inl ha)) (by rw [List.length_map])))) fun v H1 _ hv => ?_) (by decide) (fun v H1 h => h) (pg_name (i := 1) nd rfl (Or.inl rfl)) (fun i σ' H' => Same H H' ∧ ∃ u1 u2 u3 u4 u5 u6 u7 u8 u9 u10 u11 u12 u13 : Option V, σ' = [some (.ref a), u1, u2, u3, u4, u5, u6, u7, u8, u9, u10, u11, u12, u13]) (fun H1 s1 => ⟨s1, _, _, _, _, _, _, _, _, _, _, _, _, _, rfl⟩) (fun i σ' H' hi hP => ?_) (fun i σ' H' hi hP => ?_)
  · cases hv
    exact law_cells ns.length
  · obtain ⟨sH, u1, u2, u3, u4, u5, u6, u7, u8, u9, u10, u11, u12, u13, rfl⟩ := hP
    refine xs_set (R := NewBox H') 2 (xe_call2 C.box hr (xe_var 0 rfl) (xe_var 1 rfl) fun H1 s1 => ⟨H', a, ns, i, rfl, sq_mono (sH.trans s1) ha, by omega, s1, rfl⟩) (fun v H1 s1 hv => ?_) nd
    obtain ⟨b, g, sd, c, rfl, hb0, hb1⟩ := hv
    refine xs_toBox hb1 ?_
    have sG : Same H' (upd H1 b (BOX b)) := mutS s1 hb0
    have hb : upd H1 b (BOX b) b = some (BOX b) := upd_same
    generalize upd H1 b (BOX b) = G at sG hb
    refine xs_set (R := fun v H' => ∃ t, DrawnT 2 8 t ∧ DTool t v H') 3 (xe_call1 C.tool hr (xe_var 2 rfl) fun H2 s2 => ⟨b, rfl, s2 _ _ hb, rfl⟩) (fun tv H2 s2 hv => ?_) nd
    obtain ⟨t, hd, htv⟩ := hv
    refine xs_asg (g := g2 W.K 4 5) (pg_2 rfl nd rfl rfl (Or.inl rfl) (Or.inl rfl) (.inr rfl) (.inr rfl)) (R := WideR t) (xe_call2 C.wider hr (xe_var 2 rfl) (xe_var 3 rfl) fun H3 s3 => ⟨b, tv, t, rfl, (s2.trans s3) _ _ hb, Mon.mono _ _ _ s3 htv, hd, rfl⟩) (fun v H3 s3 hv => ?_)
    obtain ⟨n, r0, r', T, u, hri, hsh, hdu, rfl, hT, hu⟩ := hv
    refine g2_ok (SqT.of hT) ?_
    have hok := hd.ok (by decide)
    have hsm := hd.small (by decide) (by decide)
    have hoku := hdu.ok (by decide)
    have hsmu := hdu.small (by decide) (by decide)
    refine xs_par 6 7 (R1 := ToolR W t.norm) (R2 := ToolR W (t.ins (n + 1) r').norm) (xa_cons (xe_call1 C.made hr (xe_var 3 rfl) fun H4 s4 => ⟨t, tv, rfl, Mon.mono _ _ _ (s3.trans s4) htv, hok, hsm, rfl⟩) (xa_cons (xe_call1 C.made hr (xe_var 4 rfl) fun H4 s4 => ⟨_, u, rfl, Mon.mono _ _ _ s4 hu, hoku, hsmu, rfl⟩) xa_nil)) (fun vp vq H4 s4 hpR hqR => ?_) nd
    obtain ⟨ap, rfl, hp⟩ := toolR_iff.mp hpR
    obtain ⟨aq, rfl, hq⟩ := toolR_iff.mp hqR
    clear hpR hqR
    have L := law_like hri hsh
    have okP := LT.norm_ok hok
    have smP := LT.norm_small hsm
    have okU := LT.norm_ok hoku
    have smU := LT.norm_small hsmu
    have mP := smP.marks
    have mU := smU.marks
    have hlt : n + 1 < (t.ins (n + 1) r').norm.rows.length := by
      have h1 : n < t.rows.length := (List.getElem?_eq_some_iff.mp hri).1
      show n + 1 < (t.rows.take (n + 1) ++ r' :: t.rows.drop (n + 1)).length
      rw [List.length_append, List.length_cons, List.length_take, List.length_drop]
      omega
    have hwo := law_without (r' := r') hri
    have hnl := law_needless hri hsh lFAULTS
    have hlp := law_leastP hri hsh lFAULTS
    have hall : (t.norm.heeding ["own", "below", "above"]).norm = t.norm := law_all (by decide +kernel) hok
    have htw := law_twice (t := t)
    generalize t.norm = P at *
    generalize (t.ins (n + 1) r').norm = U at *
    have hb4 := (s2.trans (s3.trans s4)) _ _ hb
    have s04 : Same H' H4 := sG.trans (s2.trans (s3.trans s4))
    clear hT hu htv hb
    -- alike, faults, lists, without
    refine xs_ifF (XT.cast (XW.t (xw_or (p := false) (q := false) (XT.cast (xt_not (p := true) (xt_val (xe_call2 C.alike hr (xe_var 6 rfl) (xe_var 7 rfl) fun H5 s5 => ⟨P, U, ap, aq, rfl, L, okP, okU, mP, hp.mono s5, hq.mono s5, rfl⟩))) rfl) fun _ => xw_or (p := false) (q := false)
      (xt_cmpR (Ra := TupV ((faultsK P).map V.str)) (Rb := TupV ((faultsK U).map V.str)) (op_neD (room64 hr)) (xe_call1 C.faults hr (xe_var 6 rfl) fun H5 s5 => ⟨P, ap, rfl, hp.mono s5, okP, mP, rfl⟩) (xe_call1 C.faults hr (xe_var 7 rfl) fun H5 s5 => ⟨U, aq, rfl, hq.mono s5, okU, mU, rfl⟩) (fun x y H5 s5 hx hy => by
        obtain ⟨x', rfl, hx⟩ := hx
        obtain ⟨y', rfl, hy⟩ := hy
        rw [← like_faults L] at hy
        exact rv_neSame (dp_strsT (SqT.of hx)) (dp_strsT (SqT.of hy)) faults_shaped) (nomark _)) fun _ => xw_or (p := false) (q := false)
      (xt_cmpR (Ra := ListsR W P) (Rb := ListsR W U) (op_neD (room64 hr)) (xe_call1 C.lists hr (xe_var 6 rfl) fun H5 s5 => ⟨P, ap, rfl, hp.mono s5, okP, mP, rfl⟩) (xe_call1 C.lists hr (xe_var 7 rfl) fun H5 s5 => ⟨U, aq, rfl, hq.mono s5, okU, mU, rfl⟩) (fun x y H5 s5 hx hy => lists_ne okP L hx hy) (nomark _)) fun _ => xw_or1
      (XT.cast (xt_neT (t := (U.without (n + 1)).norm) (u := P) C.ne C.eq hr (xe_tool1 C.without hr (xe_var 7 rfl) hq (xe_var 5 rfl) fun H5 s5 ht5 => ⟨U, aq, n + 1, rfl, ht5, hlt, LT.without_ok okU _, okU.rowsFew, rfl⟩) ((xe_var 6 rfl).is fun H5 s5 => toolR_of (hp.mono s5)) (LT.norm_small (LT.without_small smU _)) smP) (by rw [hwo]; simp)))) rfl) ?_
    -- fewest
    refine xs_each (src := lFAULTS) (rel := fun f => Is (.str f)) (j := 8) (XI.len (xi_lstV (xs := lFAULTS.map V.str) (xe_words C.fw hr)) (by simp)) (fun _ _ _ _ _ _ => ys_X V.str _ _ _ _ _) (fun _ => inferInstance) (pg_name (i := 8) nd rfl (Or.inl rfl)) (fun _ => True) trivial (fun k z x w G' hk _ e hx => ?_) (fun _ w5 H5 s5 => ?_) ⟨_, rfl⟩
    · cases hx
      refine xs_ifF (xt_cmpR (Ra := OptR (leastK P (theWays (singleS P)) z)) (Rb := OptR (leastK U (theWays (singleS U)) z)) (op_neD (room64 hr)) (xe_call2 C.fewest hr (xe_var 6 rfl) (xe_var 8 rfl) fun H6 s6 => ⟨P, ap, z, rfl, hp.mono (e.trans s6), okP, mP, List.mem_of_getElem? hk, rfl⟩) (xe_call2 C.fewest hr (xe_var 7 rfl) (xe_var 8 rfl) fun H6 s6 => ⟨U, aq, z, rfl, hq.mono (e.trans s6), okU, mU, List.mem_of_getElem? hk, rfl⟩) (fun x y H6 s6 hx hy => by
        rw [← like_least L z] at hy
        exact rv_neSame (optD_of hx) (optD_of hy) (optD_shaped _)) (nomark _)) ?_
      exact xs_nil fun H6 s6 => ⟨trivial, s6, _, rfl⟩
    have hp5 := hp.mono s5
    have hq5 := hq.mono s5
    have hb5 := s5 _ _ hb4
    have psX : ∀ {σ : St} {G : Hp} {p1 p2 p3 p4 : Pos} {j1 j2 j3 : Option Str}, True := trivial
    -- needless, heeding all
    refine xs_ifF (XT.cast (XW.t (xw_or (p := false) (q := false) (XT.cast (xt_cmpR (Ra := Is (.int ((n + 1 : Nat) : Int))) (Rb := TupV ((needlessK U lFAULTS).map fun j : Nat => V.int (j : Int))) op_notIn_seq (xe_var 5 rfl) (xe_callR2 (R1 := Is (.ref aq)) (R2 := LstV (lFAULTS.map V.str)) C.needless hr (xe_var 7 rfl) (xe_words C.fw hr) fun v w H6 s6 h1 h2 => by
        cases h1
        obtain ⟨aw, rfl, haw⟩ := h2
        exact ⟨U, aq, aw, lFAULTS, rfl, hq5.mono s6, okU, mU, haw, fun f h => h, rfl⟩) (fun x y H6 s6 hx hy => by
        cases hx
        obtain ⟨y', rfl, hy⟩ := hy
        exact rv_nin (.inr (SqT.of hy)) rfl (flat_nats _)) rfl) (by rw [inV_nats hnl]; rfl)) fun _ => xw_or1
      (XT.cast (xt_neT (t := (P.heeding ["own", "below", "above"]).norm) (u := P) C.ne C.eq hr (xe_toolRR (R1 := LstV ((["own", "below", "above"] : List Str).map V.str)) C.heeding hr ((xe_var 6 rfl).is fun H6 s6 => toolR_of (hp5.mono s6)) (XE.lstV (xs := (["own", "below", "above"] : List Str).map V.str) (xe_lst (Rs := [Is (.str "own"), Is (.str "below"), Is (.str "above")]) (xa_cons xe_str (xa_cons xe_str (xa_cons xe_str xa_nil))) (by simp))) fun a' v H6 s6 ht6 hv => by
        obtain ⟨l, rfl, hl⟩ := hv
        exact ⟨P, a', l, _, rfl, ht6, .inl hl, okP.rows, LT.heeding_ok okP _, okP.rowsFew, rfl⟩) ((xe_var 6 rfl).is fun H6 s6 => toolR_of (hp5.mono s6)) (LT.norm_small (LT.heeding_small smP _)) smP) (by rw [hall]; simp)))) rfl) ?_
    -- one, two
    refine xs_asg (g := gLst W.K 2 (gCons (gName 9) (gCons (gName 10) gNil))) (pg_lst rfl (pgs_cons (pg_name (i := 9) nd rfl (Or.inl rfl)) (pgs_cons (pg_name (i := 10) nd rfl (Or.inr rfl)) pgs_nil))) (R := LstR ((List.range 2).map fun _ => LstS fun ss => ss.length ≤ 3)) (XL.val (xl_lcM (own := [("_law_turn", 12)]) (j := 12) (src := List.range 2) (rel := fun i => Is (.int (0 + (i : Nat)))) (ff := fun _ => LstS fun ss => ss.length ≤ 3) (XI.len (xi_range B.range (n := 2) xe_int (by decide)) rfl) (fun G2 i H' x H'' hi y => ys_I 2 0 G2 i H' x H'' hi y) (fun _ => inferInstance) (fun _ => inferInstance) (by decide) nd (blkOk_by (N := n_law) (sc := defScope s_law) (by decide +kernel))
      (fun _ _ _ _ _ => pg_name (i := 12) nd rfl (Or.inl rfl)) (fun z x G' hz e1 hx s0 H0 C0 cl fp => ?_))) (fun v H6 s6 hv => ?_)
    · refine XE.imp (xe_sliceN (P := fun ys => ys.Perm ((["above", "below", "own"] : List Str).map V.str)) (xe_callR2 (R1 := Is (.ref b)) (R2 := LstV ((["above", "below", "own"] : List Str).map V.str)) C.shuf hr (xe_var 2 rfl) (XE.lstV (xs := (["above", "below", "own"] : List Str).map V.str) (xe_lst (Rs := [Is (.str "above"), Is (.str "below"), Is (.str "own")]) (xa_cons xe_str (xa_cons xe_str (xa_cons xe_str xa_nil))) (by simp))) fun v w H7 s7 h1 h2 => by
        cases h1
        obtain ⟨l, rfl, hl⟩ := h2
        exact ⟨b, l, _, rfl, (e1.trans s7) _ _ hb5, .inl (SqL.of hl), by simp, by simp, rfl⟩) (xe_take C.take hr (xe_var 2 rfl) xe_int (e1 _ _ hb5) (n := 4) (by decide) (by decide))) fun v H7 _ ⟨q, zs, e2, e3, ys, k, h1, h2, h3⟩ => ?_
      obtain ⟨ws, hw, rfl⟩ := perm_strs h1
      refine ⟨q, ws.take k, e2, by rw [e3, h2, List.map_take], ?_⟩
      have hwl := hw.length_eq
      show (ws.take k).length ≤ 3
      rw [List.length_take]
      simp at hwl
      omega
    obtain ⟨l0, ys, rfl, hl0, hys⟩ := hv
    obtain ⟨v1, v2, rfl, ⟨a1, ss1, rfl, h1, n1⟩, ⟨a2, ss2, rfl, h2, n2⟩⟩ := allR2 hys
    refine ⟨l0, [.ref a1, .ref a2], rfl, SqL.of hl0, rfl, .ref a1, [.ref a2], rfl, .ref a2, [], rfl, rfl, ?_⟩
    have hp6 := hp5.mono s6
    have hq6 := hq5.mono s6
    -- both
    refine XL.set (i := 11) (R := LstR ((ss1.filter fun z => decide (z ∈ ss2)).map fun z => Is (.str z))) (xl_lcS (own := [("_law_part", 13)]) (j := 13) (src := ss1) (rel := fun z => Is (.str z)) (pp := fun z => decide (z ∈ ss2)) (ff := fun z => Is (.str z)) (XI.len (xi_listX (xe_var 9 rfl) (SqL.of h1)) (by simp)) (fun _ _ _ _ _ _ => ys_X V.str _ _ _ _ _) (fun _ => inferInstance) (fun _ => inferInstance) (by omega) nd (blkOk_by (N := n_law) (sc := defScope s_law) (by decide +kernel))
      (fun _ _ _ _ _ => pg_name (i := 13) nd rfl (Or.inl rfl)) (fun z x G' hz e1 hx => ⟨?_, fun _ s0 H0 C0 cl fp => ?_⟩)) rfl rfl (by rfl) fun v H7 s7 hv => ?_
    · intro s0 H0 C0 cl fp
      cases hx
      exact xt_cmp (x := .str z) (y := .ref a2) op_in_seq (xe_var 13 rfl) (xe_var 10 rfl) (rv_inS (.inl (SqL.of (e1 _ _ h2)))) rfl
    · cases hx
      exact xe_var 13 rfl
    have hv' : LstR (((ss1.filter fun z => decide (z ∈ ss2)).map V.str).map Is) v H7 := by rw [List.map_map]; exact hv
    obtain ⟨a3, rfl, h3⟩ := lstR_is hv'
    have hp7 := hp6.mono s7
    have hq7 := hq6.mono s7
    have h17 := s7 _ _ h1
    have h27 := s7 _ _ h2
    refine xs_ifF (XT.cast (xt_neT (t := ((P.heeding ss1).norm.heeding ss2).norm) (u := (P.heeding (ss1.filter fun z => decide (z ∈ ss2))).norm) C.ne C.eq hr (xe_toolRR (R1 := Is (.ref a2)) (t := (P.heeding ss1).norm) C.heeding hr (xe_toolRR (R1 := Is (.ref a1)) (t := P) C.heeding hr ((xe_var 6 rfl).is fun H8 s8 => toolR_of (hp7.mono s8)) (xe_var 9 rfl) fun a' v H8 s8 ht8 hv => by
        cases hv
        exact ⟨P, a', a1, ss1, rfl, ht8, .inl (s8 _ _ h17), okP.rows, LT.heeding_ok okP _, okP.rowsFew, rfl⟩) (xe_var 10 rfl) fun a' v H8 s8 ht8 hv => by
        cases hv
        exact ⟨_, a', a2, ss2, rfl, ht8, .inl (s8 _ _ h27), (LT.norm_ok (LT.heeding_ok okP _)).rows, LT.heeding_ok (LT.norm_ok (LT.heeding_ok okP _)) _, (LT.norm_ok (LT.heeding_ok okP _)).rowsFew, rfl⟩)
      (xe_toolRR (R1 := Is (.ref a3)) (t := P) C.heeding hr ((xe_var 6 rfl).is fun H8 s8 => toolR_of (hp7.mono s8)) (xe_var 11 rfl) fun a' v H8 s8 ht8 hv => by
        cases hv
        exact ⟨P, a', a3, _, rfl, ht8, .inl (s8 _ _ h3), okP.rows, LT.heeding_ok okP _, okP.rowsFew, rfl⟩) (LT.norm_small (LT.heeding_small (LT.norm_small (LT.heeding_small smP _)) _)) (LT.norm_small (LT.heeding_small smP _))) (by rw [htw]; simp)) ?_
    -- least_parts
    refine xs_ifF (xt_cmpR (Ra := OptT (leastP P lFAULTS)) (Rb := OptT (leastP U lFAULTS)) (op_neD (room64 hr)) (xe_callR2 (R1 := Is (.ref ap)) (R2 := LstV (lFAULTS.map V.str)) C.least hr (xe_var 6 rfl) (xe_words C.fw hr) fun v w H8 s8 h1 h2 => by
        cases h1
        obtain ⟨aw, rfl, haw⟩ := h2
        exact ⟨P, ap, aw, lFAULTS, rfl, hp7.mono s8, okP, mP, haw, fun f h => h, rfl⟩) (xe_callR2 (R1 := Is (.ref aq)) (R2 := LstV (lFAULTS.map V.str)) C.least hr (xe_var 7 rfl) (xe_words C.fw hr) fun v w H8 s8 h1 h2 => by
        cases h1
        obtain ⟨aw, rfl, haw⟩ := h2
        exact ⟨U, aq, aw, lFAULTS, rfl, hq7.mono s8, okU, mU, haw, fun f h => h, rfl⟩) (fun x y H8 s8 hx hy => by
        rw [← hlp] at hy
        exact rv_neSame (optT_of hx) (optT_of hy) leastP_ok) (nomark _)) ?_
    exact xs_nil fun H8 s8 => ⟨sH.trans (s04.trans (s5.trans (s6.trans (s7.trans s8)))), _, _, _, _, _, _, _, _, _, _, _, _, _, rfl⟩
  · obtain ⟨sH, u1, u2, u3, u4, u5, u6, u7, u8, u9, u10, u11, u12, u13, rfl⟩ := hP
    exact xs_ret (R := Is (.bl true)) xe_bl fun v H1 s1 r => ⟨sH.trans s1, r⟩
end
end LM

set_option maxHeartbeats 400000
namespace LM
open PySem PySem.Spec PyProof.Rows L2
/-- what the head gives -/
structure AtC (W : Wd) : Prop where
  b : Blt W
  wo : Words W
  rc : RowC W
  rk : RowK W
  tc : ToolC W
  sc : SendsC W
  ec : EightC W
  si : SingleC W
  pc : PairC W
  wc : WaysC W
  mc : MeetC W
  ne : NeC W.K (cTool W)
  a_cal_take : DefAt W "_law_take" s_law_take ["_law_box_here", "_law_many"]
  a_cal_pick : DefAt W "_law_pick" s_law_pick ["_law_box_here", "_law_some"]
  a_cal_is_name : DefAt W "is_name" s_is_name ["value"]
  a_cal_is_sequence : DefAt W "is_sequence" s_is_sequence ["value"]
  a_cal_is_word : DefAt W "is_word" s_is_word ["value", "some"]
  a_cal_are_unlike : DefAt W "are_unlike" s_are_unlike ["words"]
  a_met_tool_str : MethAt W (cTool W) "__str__" "Tool.__str__" s_Tool_str ["self"]
  a_met_tool_eq : MethAt W (cTool W) "__eq__" "Tool.__eq__" s_Tool_eq ["self", "other"]
  a_cal_is_row : DefAt W "is_row" s_is_row ["line"]
  a_cal_words_behind : DefAt W "words_behind" s_words_behind ["line", "word"]
  a_cal_is_fit : DefAt W "is_fit" s_is_fit ["at", "line"]
  a_cal_fault_in : DefAt W "fault_in" s_fault_in ["lines"]
  a_cm_tool_read : CMethAt W (cTool W) "read" "Tool.read" s_Tool_read ["cls", "text"]
  a_cal_machine_elders : DefAt W "machine_elders" s_machine_elders ["steps"]
  a_met_edited : MethAt W (cWays W) "edited" "Ways.edited" s_Ways_edited ["self", "layer", "many"]
  a_met_heard : MethAt W (cWays W) "heard" "Ways.heard" s_Ways_heard ["self", "layer"]
  a_mak_ways : MakAt W "Ways" (cWays W) "Ways.__init__" s_Ways_init ["self", "steps"]
  a_mak_single : MakAt W "Single" (cSingle W) "Single.__init__" s_Single_init ["self", "tool"]
  a_met_single_led : MethAt W (cSingle W) "led" "Single.led" s_Single_led ["self", "item", "pattern"]
  a_met_single_joined : MethAt W (cSingle W) "joined" "Single.joined" s_Single_joined ["self", "here", "came"]
  a_met_single_steps : MethAt W (cSingle W) "machine_steps" "Single.machine_steps" s_Single_machine_steps ["self", "item"]
  a_cal_is_old_mark : DefAt W "is_old_mark" s_is_old_mark ["value"]
  a_cal_part_of : DefAt W "part_of" s_part_of ["test"]
  a_cal_are_tests : DefAt W "are_tests" s_are_tests ["value"]
  a_cal_names_among : DefAt W "names_among" s_names_among ["words"]
  a_mak_pair : MakAt W "Pair" (cPair W) "Pair.__init__" s_Pair_init ["self", "p", "q"]
  a_met_pair_led : MethAt W (cPair W) "led" "Pair.led" s_Pair_led ["self", "item", "pattern"]
  a_met_pair_joined : MethAt W (cPair W) "joined" "Pair.joined" s_Pair_joined ["self", "here", "came"]
  a_met_pair_steps : MethAt W (cPair W) "machine_steps" "Pair.machine_steps" s_Pair_machine_steps ["self", "item"]
  a_cal_falls : DefAt W "falls" s_falls ["tool", "ways", "item"]
  a_cal_disordering : DefAt W "disordering" s_disordering ["tool", "ways", "item"]
  a_cal_doubling : DefAt W "doubling" s_doubling ["tool", "ways", "item"]
  a_mak_meeting : MakAt W "Meeting" (cMeeting W) "Meeting.__init__" s_Meeting_init ["self", "hearings", "item", "deeds", "waiting"]
  a_cal_met_at : DefAt W "met_at" s_met_at ["tool", "ways", "item", "fault"]
  a_cal_least : DefAt W "least_meeting" s_least_meeting ["tool", "ways", "fault"]
  a_cal_faults : DefAt W "faults" s_faults ["tool"]
  a_cal_need_fault : DefAt W "need_fault" s_need_fault ["fault"]
  a_cal_fewest : DefAt W "fewest" s_fewest ["tool", "fault"]
  a_cal_least_parting : DefAt W "least_parting" s_least_parting ["p", "q", "ways"]
  a_cal_alike : DefAt W "alike" s_alike ["p", "q"]
  a_cal_need_all : DefAt W "need_all" s_need_all ["wanted"]
  a_cal_happening : DefAt W "happening" s_happening ["tool", "wanted"]
  a_cal_choices : DefAt W "choices" s_choices ["many"]
  a_cal_least_parts : DefAt W "least_parts" s_least_parts ["tool", "wanted"]
  a_cal_needless : DefAt W "needless" s_needless ["tool", "wanted"]
  a_cal_shuffled : DefAt W "_law_shuffled" s_law_shuffled ["_law_box_here", "_law_some"]
  a_cal_words : DefAt W "_law_words" s_law_words ["_law_box_here", "_law_many"]
  a_mak_run : MakAt W "Run" (cRun W) "Run.__init__" s_Run_init ["self", "old", "then"]
  a_mak_lead : MakAt W "Lead" (cLead W) "Lead.__init__" s_Lead_init ["self", "tests", "old", "then"]
  a_mak_join : MakAt W "Join" (cJoin W) "Join.__init__" s_Join_init ["self", "here", "came", "then"]
  a_met_run_str : MethAt W (cRun W) "__str__" "Run.__str__" s_Run_str ["self"]
  a_met_lead_str : MethAt W (cLead W) "__str__" "Lead.__str__" s_Lead_str ["self"]
  a_met_join_str : MethAt W (cJoin W) "__str__" "Join.__str__" s_Join_str ["self"]
  a_cal_law_tool : DefAt W "_law_tool" s_law_tool ["_law_box_here"]
  a_cal_law_text : DefAt W "_law_tool_text" s_law_tool_text ["_law_tool_here"]
  a_cal_law_fw : DefAt W "_law_words_of_faults" s_law_words_of_faults []
  a_cal_law_made : DefAt W "_law_made" s_law_made ["_law_tool_here"]
  a_cal_law_wider : DefAt W "_law_wider" s_law_wider ["_law_box_here", "_law_tool_here"]
  a_cal_lists : DefAt W "lists" s_lists ["tool"]
  a_cal_law_box : DefAt W "_law_box" s_law_box ["_law_script", "_law_k"]
  a_cal_row_in : DefAt W "row_in" s_row_in ["words"]
  a_cm_row_read : CMethAt W (cRow W) "read" "Row.read" s_Row_read ["cls", "text"]
  a_cal_are_names : DefAt W "are_names" s_are_names ["value"]
  a_cal_are_parts : DefAt W "are_parts" s_are_parts ["value"]
  a_cal_fault_of : DefAt W "fault_of" s_fault_of ["marks", "told", "parts", "clears", "rows"]
  a_mak_tool : MakAt W "Tool" (cTool W) "Tool.__init__" s_Tool_init ["self", "marks", "told", "parts", "clears", "rows"]
  a_cal_holds : DefAt W "holds" s_holds ["test", "same"]
  a_met_told : MethAt W (cTool W) "is_told" "Tool.is_told" s_Tool_is_told ["self", "mark"]
  a_met_need_mark : MethAt W (cTool W) "need_mark" "Tool.need_mark" s_Tool_need_mark ["self", "mark"]
  a_met_ran : MethAt W (cTool W) "ran" "Tool.ran" s_Tool_ran ["self", "mark"]
  a_met_led : MethAt W (cTool W) "led" "Tool.led" s_Tool_led ["self", "mark", "same"]
  a_met_joined : MethAt W (cTool W) "joined" "Tool.joined" s_Tool_joined ["self", "here", "came"]
  a_met_keeps : MethAt W (cTool W) "keeps" "Tool.keeps" s_Tool_keeps ["self", "same"]
  a_cal_heeding_row : DefAt W "heeding_row" s_heeding_row ["row", "parts"]
  a_met_need_row : MethAt W (cTool W) "need_row" "Tool.need_row" s_Tool_need_row ["self", "at"]
  a_met_but : MethAt W (cTool W) "but" "Tool.but" s_Tool_but ["self", "rows"]
  a_met_without : MethAt W (cTool W) "without" "Tool.without" s_Tool_without ["self", "at"]
  a_met_heeding : MethAt W (cTool W) "heeding" "Tool.heeding" s_Tool_heeding ["self", "parts"]
  a_met_len : MethAt W (cTool W) "__len__" "Tool.__len__" s_Tool_len ["self"]
theorem lawC {W : Wd} (F : AtC W) : LawC W := by
  have B := F.b
  have is_name := cal_is_name B F.wo F.a_cal_is_name
  have is_sequence := cal_is_sequence B F.a_cal_is_sequence
  have is_word := cal_is_word B F.a_cal_is_word
  have are_unlike := cal_are_unlike B F.a_cal_are_unlike
  have old_mark := cal_is_old_mark F.rc is_name is_word F.a_cal_is_old_mark
  have part_of := cal_part_of F.a_cal_part_of
  have are_tests := cal_are_tests B F.wo is_sequence part_of are_unlike F.a_cal_are_tests
  have names_among := cal_names_among B is_name F.a_cal_names_among
  have run := mak_run B F.rc is_name old_mark names_among F.a_mak_run
  have lead := mak_lead B F.rc are_tests is_name old_mark names_among F.a_mak_lead
  have join := mak_join B F.rc is_word is_name old_mark names_among F.a_mak_join
  have RS : RowStr W := ⟨met_run_str F.rc F.a_met_run_str, met_lead_str B F.rc F.a_met_lead_str, met_join_str F.rc F.a_met_join_str⟩
  have row_in := cal_row_in B run lead join F.a_cal_row_in
  have row_read := cm_row_read B RS row_in F.a_cm_row_read
  have are_names := cal_are_names B is_sequence is_name are_unlike F.a_cal_are_names
  have are_parts := cal_are_parts B F.wo is_sequence is_word are_unlike F.a_cal_are_parts
  have fault_of := cal_fault_of B F.rc F.rk are_names are_parts is_sequence F.a_cal_fault_of
  have tool := mak_tool B F.wo F.tc fault_of F.a_mak_tool
  have holds := cal_holds F.wo part_of F.a_cal_holds
  have told := met_told F.tc F.a_met_told
  have need_mark := met_need_mark F.tc is_word F.a_met_need_mark
  have ran := met_ran B F.tc F.rc F.rk need_mark F.a_met_ran
  have led := met_led B F.tc F.rc F.rk need_mark holds F.a_met_led
  have joined := met_joined B F.tc F.rc F.rk need_mark F.a_met_joined
  have keeps := met_keeps B F.tc F.wo F.a_met_keeps
  have heeding_row := cal_heeding_row B F.rc F.rk part_of lead F.a_cal_heeding_row
  have need_row := met_need_row B F.tc F.a_met_need_row
  have but := met_but F.tc tool F.a_met_but
  have without := met_without F.tc need_row but F.a_met_without
  have heeding := met_heeding F.tc heeding_row but F.a_met_heeding
  have len := met_len B F.tc F.a_met_len
  have tstr := met_tool_str B F.tc RS F.a_met_tool_str
  have teq := met_tool_eq B F.tc tstr F.a_met_tool_eq
  have is_row := cal_is_row F.rk row_read F.a_cal_is_row
  have words_behind := cal_words_behind F.a_cal_words_behind
  have is_fit := cal_is_fit B F.wo F.sc is_row words_behind is_name F.a_cal_is_fit
  have fault_in := cal_fault_in B is_fit F.a_cal_fault_in
  have tool_read := cm_tool_read B F.rk F.sc fault_in tool row_read F.a_cm_tool_read
  have elders := cal_machine_elders F.a_cal_machine_elders
  have edited := met_edited B F.wc F.ec F.a_met_edited
  have heard := met_heard B F.wc F.a_met_heard
  have ways := mak_ways B F.wc F.ec elders edited heard F.a_mak_ways
  have T1 : Steps1 W := ⟨fun t hok hm => by
    have hp3 : t.parts.length ≤ 1000 := Nat.le_trans (nodup_len hok.partsNd hok.parts) (by decide)
    have ml := met_single_led F.tc F.si led keeps F.a_met_single_led t hok hp3
    have mj := met_single_joined F.tc F.si joined F.a_met_single_joined t
    exact steps_single F.si t hok hm (met_single_steps F.ec F.si ran t ml F.a_met_single_steps) ml mj, mak_single F.tc F.si F.a_mak_single, ways⟩
  have T2 : Steps2 W := ⟨fun p q L op oq hm => by
    have ml := met_pair_led B F.pc led F.a_met_pair_led L op oq
    have mj := met_pair_joined B F.pc joined F.a_met_pair_joined L op oq
    exact steps_pair F.pc op hm (met_pair_steps B F.tc F.ec F.pc ran L op oq ml F.a_met_pair_steps) ml mj, mak_pair F.tc F.pc F.a_mak_pair, ways⟩
  have hj : ∀ t : LT, t.ok → ∀ a b, a ∈ t.marks → b ∈ t.marks → t.joined a b ∈ t.marks := fun t h a b ha hb => LT.joined_mem h ha hb
  have falls := cal_falls F.ec F.wc told keeps led joined F.a_cal_falls
  have disordering := cal_disordering F.wc joined hj F.a_cal_disordering
  have doubling := cal_doubling F.wc joined hj F.a_cal_doubling
  have meeting := mak_meeting F.mc F.a_mak_meeting
  have met_at := cal_met_at B F.wc told falls disordering doubling meeting F.a_cal_met_at
  have least := cal_least F.wc F.mc met_at F.a_cal_least
  have faults := cal_faults B F.wo T1 least F.a_cal_faults
  have need_fault := cal_need_fault B F.wo F.a_cal_need_fault
  have fewest := cal_fewest F.mc T1 need_fault least F.a_cal_fewest
  have least_parting := cal_least_parting F.wc told F.a_cal_least_parting
  have alike := cal_alike T2 least_parting F.a_cal_alike
  have need_all := cal_need_all need_fault F.a_cal_need_all
  have happening := cal_happening B faults F.a_cal_happening
  have choices := cal_choices B F.wo F.a_cal_choices
  have least_parts := cal_least_parts B F.wo F.tc need_all choices happening heeding F.a_cal_least_parts
  have needless := cal_needless B F.tc need_all len happening without F.a_cal_needless
  have take := cal_take B F.a_cal_take
  have pick := cal_pick B take F.a_cal_pick
  have shuffled := cal_shuffled B take F.a_cal_shuffled
  have words := cal_words shuffled F.a_cal_words
  have ltool := cal_law_tool B take pick shuffled words F.a_cal_law_tool
  have text := cal_law_text B F.a_cal_law_text
  have fw := cal_law_fw F.a_cal_law_fw
  have made := cal_law_made F.tc text tool_read F.a_cal_law_made
  have wider := cal_law_wider B take pick F.a_cal_law_wider
  have lists := cal_lists B F.wc T1 F.a_cal_lists
  have box := cal_law_box B F.a_cal_law_box
  exact ⟨B, F.tc, F.ne, box, ltool, wider, made, take, shuffled, fw, alike, faults, lists, fewest, needless, least_parts, without, heeding, teq⟩
end LM

set_option maxHeartbeats 0
namespace LM
open PySem PySem.Spec PyProof.Rows L2
/-! ### facts of one's own -/
def tupT (x : Str) (ss : List Str) (K : PySem.W.Frag) : Bool := He.tupB K x (ss.map He.Dv.str) && (match K.lookup (He.ga K x) with
  | some ⟨_, none, _, _⟩ => true
  | _ => false)
def kitB (c d : Str) (b : Bool) (K : PySem.W.Frag) : Bool := decide (PySem.W.kitOne K (.ref (He.ga K c)) (.ref (He.ga K d)) = some b)
def insB (c : Str) (K : PySem.W.Frag) : Bool := He.eqO (PySem.W.findIn K (.ref (He.ga K c)) "__class__") (some (some (.builtin "object.__class__"))) && (He.eqO (PySem.W.specialIn K (.builtin "object.__class__") "__get__") (some (some (.builtin "getset_descriptor.__get__"))) && (decide (PySem.W.takesIn K (.builtin "object.__class__") = some true) && decide (PySem.W.mroIn K (He.ga K c) (.type "object") = some true)))
def neB (c : Str) (K : PySem.W.Frag) : Bool := He.eqO (PySem.W.findIn K (.ref (He.ga K c)) "__ne__") (some (some (.builtin "object.__ne__"))) && decide (PySem.W.mroIn K (He.ga K c) (.type "object") = some true)
def readB (c : Str) (K : PySem.W.Frag) : Bool := PySem.W.readsIn K (He.ga K c) (.type "type")
def wrapR (c : Str) (K : PySem.W.Frag) : Bool := He5.wrapB K (He.ga K c) "classmethod" "classmethod.__get__" "read" && PySem.W.fnIn K (He5.wf K (He.ga K c) "classmethod" "read")
def sendsB (K : PySem.W.Frag) : Bool := He.eqO (PySem.W.nsIn K (He.ga K "SENDS") "send clear") (some (some (.bool true))) && He.eqO (PySem.W.nsIn K (He.ga K "SENDS") "send keep") (some (some (.bool false)))
/-- EIGHT: a tuple of tuples of bools -/
def patB (K : PySem.W.Frag) (p : Pat) (u : Value) : Bool := match u with
  | .ref a => (match K.lookup a with
    | some ⟨.type c, _, .seq its _, _⟩ => decide (c = "tuple") && (decide (its.size ≤ sizeLine) && He.relAll (patV p) its.toList)
    | _ => false)
  | _ => false
def patsB (K : PySem.W.Frag) : List Pat → List Value → Bool
  | [], [] => true
  | p :: ps, u :: us => patB K p u && patsB K ps us
  | _, _ => false
def eightB (K : PySem.W.Frag) : Bool := match K.lookup (He.ga K "EIGHT") with
  | some ⟨.type c, _, .seq its _, _⟩ => decide (c = "tuple") && (decide (its.size ≤ sizeLine) && patsB K lEIGHT its.toList)
  | _ => false
/-! ### what is looked at: no more than is wanted -/
def refsM (o : Obj) : List Addr := match o.data with
  | .seq its _ => its.toList.flatMap He.refV
  | .dict es _ => es.toList.flatMap fun e => He.refV e.val
  | .func fd => He.refV fd.code
  | .cls cd => [cd.ns]
  | .fields vs => vs.toList.flatMap He.refV
  | _ => []
def nextM (g : Addr → Option Obj) (as : List Addr) : List Addr := as.flatMap fun a => match g a with
  | some o => refsM o
  | none => []
def lvlM (g : Addr → Option Obj) : Nat → List Addr → List Addr
  | 0, as => as
  | n + 1, as => as ++ lvlM g n (nextM g as)
def asM (g : Addr → Option Obj) : List Addr := lvlM g 5 [mainGlobals] ++ [cStatics]
def fa0 : List He.Fa := [.free "len",
  .free "isinstance",
  .free "all",
  .free "any",
  .free "tuple",
  .free "list",
  .free "str",
  .free "int",
  .free "bool",
  .free "range",
  .free "sorted",
  .free "zip",
  .free "enumerate",
  .free "min",
  .free "max",
  .free "abs",
  .str "SMALL" sSMALL,
  .glo "BARRED",
  .glo "PARTS",
  .glo "ORDER",
  .glo "FAULTS",
  .glo "ANY",
  .glo "SIDES",
  .glo "EIGHT",
  .glo "SENDS",
  .glo "Row",
  .glo "Run",
  .glo "Lead",
  .glo "Join",
  .glo "Tool"]
def fa1 : List He.Fa := [.glo "Single",
  .glo "Pair",
  .glo "Ways",
  .glo "Meeting",
  .glo "machine_elders",
  .glo "falls",
  .glo "disordering",
  .glo "doubling",
  .glo "met_at",
  .glo "least_meeting",
  .glo "is_name",
  .glo "is_sequence",
  .glo "is_word",
  .glo "are_unlike",
  .glo "need_fault",
  .glo "faults",
  .glo "fewest",
  .glo "lists",
  .glo "is_old_mark",
  .glo "part_of",
  .glo "are_tests",
  .glo "names_among",
  .glo "row_in",
  .glo "are_names",
  .glo "are_parts",
  .glo "fault_of",
  .glo "holds",
  .glo "heeding_row",
  .glo "words_behind",
  .glo "is_row"]
def fa2 : List He.Fa := [.glo "is_fit",
  .glo "fault_in",
  .glo "least_parting",
  .glo "alike",
  .glo "need_all",
  .glo "happening",
  .glo "choices",
  .glo "least_parts",
  .glo "needless",
  .glo "_law_box",
  .glo "_law_take",
  .glo "_law_pick",
  .glo "_law_shuffled",
  .glo "_law_words",
  .glo "_law_tool",
  .glo "_law_tool_text",
  .glo "_law_words_of_faults",
  .glo "_law_made",
  .glo "_law_wider",
  .glo "law",
  .cls "Run",
  .mkr "Run",
  .noat "Run" "old",
  .noat "Run" "then",
  .noat "Run" "names",
  .cls "Lead",
  .mkr "Lead",
  .noat "Lead" "tests",
  .noat "Lead" "old",
  .noat "Lead" "then"]
def fa3 : List He.Fa := [.noat "Lead" "names",
  .cls "Join",
  .mkr "Join",
  .noat "Join" "here",
  .noat "Join" "came",
  .noat "Join" "then",
  .noat "Join" "names",
  .cls "Tool",
  .mkr "Tool",
  .noat "Tool" "marks",
  .noat "Tool" "told",
  .noat "Tool" "parts",
  .noat "Tool" "clears",
  .noat "Tool" "rows",
  .noat "Tool" "blank",
  .cls "Single",
  .mkr "Single",
  .noat "Single" "tool",
  .noat "Single" "begin",
  .cls "Pair",
  .mkr "Pair",
  .noat "Pair" "tools",
  .noat "Pair" "begin",
  .cls "Ways",
  .mkr "Ways",
  .noat "Ways" "steps",
  .noat "Ways" "machine",
  .noat "Ways" "coming",
  .noat "Ways" "hearings",
  .noat "Ways" "elders"]
def fa4 : List He.Fa := [.cls "Meeting",
  .mkr "Meeting",
  .noat "Meeting" "hearings",
  .noat "Meeting" "item",
  .noat "Meeting" "deeds",
  .noat "Meeting" "waiting",
  .meth "Single" "machine_steps",
  .meth "Single" "led",
  .meth "Single" "joined",
  .meth "Pair" "machine_steps",
  .meth "Pair" "led",
  .meth "Pair" "joined",
  .meth "Ways" "edited",
  .meth "Ways" "heard",
  .meth "Run" "__str__",
  .meth "Lead" "__str__",
  .meth "Join" "__str__",
  .meth "Tool" "need_mark",
  .meth "Tool" "is_told",
  .meth "Tool" "ran",
  .meth "Tool" "led",
  .meth "Tool" "joined",
  .meth "Tool" "keeps",
  .meth "Tool" "need_row",
  .meth "Tool" "but",
  .meth "Tool" "without",
  .meth "Tool" "heeding",
  .meth "Tool" "__len__",
  .meth "Tool" "__eq__",
  .meth "Tool" "__str__"]
def fa : List He.Fa := fa0 ++ (fa1 ++ (fa2 ++ (fa3 ++ (fa4))))
def fx0 : List (PySem.W.Frag → Bool) := [tupT "BARRED" lBARRED,
  tupT "PARTS" lPARTS,
  tupT "ORDER" lORDER,
  tupT "FAULTS" lFAULTS,
  tupT "ANY" (["any"] : List Str),
  tupT "SIDES" (["here", "came"] : List Str),
  eightB,
  kitB "Run" "Row" true,
  kitB "Run" "Run" true,
  kitB "Run" "Lead" false,
  kitB "Run" "Join" false,
  kitB "Lead" "Row" true,
  kitB "Lead" "Run" false,
  kitB "Lead" "Lead" true,
  kitB "Lead" "Join" false,
  kitB "Join" "Row" true,
  kitB "Join" "Run" false,
  kitB "Join" "Lead" false,
  kitB "Join" "Join" true,
  insB "Run",
  insB "Lead",
  insB "Join",
  insB "Tool",
  neB "Tool",
  readB "Row",
  wrapR "Row",
  readB "Tool",
  wrapR "Tool",
  sendsB]
def fx : List (PySem.W.Frag → Bool) := fx0
def fn0 : List He5.DefA := [⟨fun K => He.ma K (He.ga K "Single") "__init__", "__init__", "Single.__init__", defArgs s_Single_init, defBody s_Single_init, defScope s_Single_init, [], []⟩,
  ⟨fun K => He.ma K (He.ga K "Single") "machine_steps", "machine_steps", "Single.machine_steps", defArgs s_Single_machine_steps, defBody s_Single_machine_steps, defScope s_Single_machine_steps, [], []⟩,
  ⟨fun K => He.ma K (He.ga K "Single") "led", "led", "Single.led", defArgs s_Single_led, defBody s_Single_led, defScope s_Single_led, [], []⟩,
  ⟨fun K => He.ma K (He.ga K "Single") "joined", "joined", "Single.joined", defArgs s_Single_joined, defBody s_Single_joined, defScope s_Single_joined, [], []⟩,
  ⟨fun K => He.ma K (He.ga K "Pair") "__init__", "__init__", "Pair.__init__", defArgs s_Pair_init, defBody s_Pair_init, defScope s_Pair_init, [], []⟩,
  ⟨fun K => He.ma K (He.ga K "Pair") "machine_steps", "machine_steps", "Pair.machine_steps", defArgs s_Pair_machine_steps, defBody s_Pair_machine_steps, defScope s_Pair_machine_steps, [], []⟩,
  ⟨fun K => He.ma K (He.ga K "Pair") "led", "led", "Pair.led", defArgs s_Pair_led, defBody s_Pair_led, defScope s_Pair_led, [], []⟩,
  ⟨fun K => He.ma K (He.ga K "Pair") "joined", "joined", "Pair.joined", defArgs s_Pair_joined, defBody s_Pair_joined, defScope s_Pair_joined, [], []⟩,
  ⟨fun K => He.ga K "machine_elders", "machine_elders", "machine_elders", defArgs s_machine_elders, defBody s_machine_elders, defScope s_machine_elders, [], []⟩,
  ⟨fun K => He.ma K (He.ga K "Ways") "__init__", "__init__", "Ways.__init__", defArgs s_Ways_init, defBody s_Ways_init, defScope s_Ways_init, [], []⟩,
  ⟨fun K => He.ma K (He.ga K "Ways") "edited", "edited", "Ways.edited", defArgs s_Ways_edited, defBody s_Ways_edited, defScope s_Ways_edited, [], []⟩,
  ⟨fun K => He.ma K (He.ga K "Ways") "heard", "heard", "Ways.heard", defArgs s_Ways_heard, defBody s_Ways_heard, defScope s_Ways_heard, [], []⟩,
  ⟨fun K => He.ma K (He.ga K "Meeting") "__init__", "__init__", "Meeting.__init__", defArgs s_Meeting_init, defBody s_Meeting_init, defScope s_Meeting_init, [], []⟩,
  ⟨fun K => He.ga K "falls", "falls", "falls", defArgs s_falls, defBody s_falls, defScope s_falls, [], []⟩,
  ⟨fun K => He.ga K "disordering", "disordering", "disordering", defArgs s_disordering, defBody s_disordering, defScope s_disordering, [], []⟩,
  ⟨fun K => He.ga K "doubling", "doubling", "doubling", defArgs s_doubling, defBody s_doubling, defScope s_doubling, [], []⟩,
  ⟨fun K => He.ga K "met_at", "met_at", "met_at", defArgs s_met_at, defBody s_met_at, defScope s_met_at, [], []⟩,
  ⟨fun K => He.ga K "least_meeting", "least_meeting", "least_meeting", defArgs s_least_meeting, defBody s_least_meeting, defScope s_least_meeting, [], []⟩,
  ⟨fun K => He.ga K "is_name", "is_name", "is_name", defArgs s_is_name, defBody s_is_name, defScope s_is_name, [], []⟩,
  ⟨fun K => He.ga K "is_sequence", "is_sequence", "is_sequence", defArgs s_is_sequence, defBody s_is_sequence, defScope s_is_sequence, [], []⟩,
  ⟨fun K => He.ga K "is_word", "is_word", "is_word", defArgs s_is_word, defBody s_is_word, defScope s_is_word, [], []⟩,
  ⟨fun K => He.ga K "are_unlike", "are_unlike", "are_unlike", defArgs s_are_unlike, defBody s_are_unlike, defScope s_are_unlike, [], []⟩,
  ⟨fun K => He.ga K "need_fault", "need_fault", "need_fault", defArgs s_need_fault, defBody s_need_fault, defScope s_need_fault, [], []⟩,
  ⟨fun K => He.ga K "faults", "faults", "faults", defArgs s_faults, defBody s_faults, defScope s_faults, [], []⟩,
  ⟨fun K => He.ga K "fewest", "fewest", "fewest", defArgs s_fewest, defBody s_fewest, defScope s_fewest, [], []⟩,
  ⟨fun K => He.ga K "lists", "lists", "lists", defArgs s_lists, defBody s_lists, defScope s_lists, [], []⟩,
  ⟨fun K => He.ga K "is_old_mark", "is_old_mark", "is_old_mark", defArgs s_is_old_mark, defBody s_is_old_mark, defScope s_is_old_mark, [], []⟩,
  ⟨fun K => He.ga K "part_of", "part_of", "part_of", defArgs s_part_of, defBody s_part_of, defScope s_part_of, [], []⟩,
  ⟨fun K => He.ga K "are_tests", "are_tests", "are_tests", defArgs s_are_tests, defBody s_are_tests, defScope s_are_tests, [], []⟩,
  ⟨fun K => He.ga K "names_among", "names_among", "names_among", defArgs s_names_among, defBody s_names_among, defScope s_names_among, [], []⟩]
def fn1 : List He5.DefA := [⟨fun K => He5.wf K (He.ga K "Row") "classmethod" "read", "read", "Row.read", defArgs s_Row_read, defBody s_Row_read, defScope s_Row_read, [], []⟩,
  ⟨fun K => He.ma K (He.ga K "Run") "__init__", "__init__", "Run.__init__", defArgs s_Run_init, defBody s_Run_init, defScope s_Run_init, [], []⟩,
  ⟨fun K => He.ma K (He.ga K "Run") "__str__", "__str__", "Run.__str__", defArgs s_Run_str, defBody s_Run_str, defScope s_Run_str, [], []⟩,
  ⟨fun K => He.ma K (He.ga K "Lead") "__init__", "__init__", "Lead.__init__", defArgs s_Lead_init, defBody s_Lead_init, defScope s_Lead_init, [], []⟩,
  ⟨fun K => He.ma K (He.ga K "Lead") "__str__", "__str__", "Lead.__str__", defArgs s_Lead_str, defBody s_Lead_str, defScope s_Lead_str, [], []⟩,
  ⟨fun K => He.ma K (He.ga K "Join") "__init__", "__init__", "Join.__init__", defArgs s_Join_init, defBody s_Join_init, defScope s_Join_init, [], []⟩,
  ⟨fun K => He.ma K (He.ga K "Join") "__str__", "__str__", "Join.__str__", defArgs s_Join_str, defBody s_Join_str, defScope s_Join_str, [], []⟩,
  ⟨fun K => He.ga K "row_in", "row_in", "row_in", defArgs s_row_in, defBody s_row_in, defScope s_row_in, [], []⟩,
  ⟨fun K => He.ga K "are_names", "are_names", "are_names", defArgs s_are_names, defBody s_are_names, defScope s_are_names, [], []⟩,
  ⟨fun K => He.ga K "are_parts", "are_parts", "are_parts", defArgs s_are_parts, defBody s_are_parts, defScope s_are_parts, [], []⟩,
  ⟨fun K => He.ga K "fault_of", "fault_of", "fault_of", defArgs s_fault_of, defBody s_fault_of, defScope s_fault_of, [], []⟩,
  ⟨fun K => He.ga K "holds", "holds", "holds", defArgs s_holds, defBody s_holds, defScope s_holds, [], []⟩,
  ⟨fun K => He.ga K "heeding_row", "heeding_row", "heeding_row", defArgs s_heeding_row, defBody s_heeding_row, defScope s_heeding_row, [], []⟩,
  ⟨fun K => He.ga K "words_behind", "words_behind", "words_behind", defArgs s_words_behind, defBody s_words_behind, defScope s_words_behind, [], []⟩,
  ⟨fun K => He.ma K (He.ga K "Tool") "__init__", "__init__", "Tool.__init__", defArgs s_Tool_init, defBody s_Tool_init, defScope s_Tool_init, [], []⟩,
  ⟨fun K => He5.wf K (He.ga K "Tool") "classmethod" "read", "read", "Tool.read", defArgs s_Tool_read, defBody s_Tool_read, defScope s_Tool_read, [], []⟩,
  ⟨fun K => He.ma K (He.ga K "Tool") "need_mark", "need_mark", "Tool.need_mark", defArgs s_Tool_need_mark, defBody s_Tool_need_mark, defScope s_Tool_need_mark, [], []⟩,
  ⟨fun K => He.ma K (He.ga K "Tool") "is_told", "is_told", "Tool.is_told", defArgs s_Tool_is_told, defBody s_Tool_is_told, defScope s_Tool_is_told, [], []⟩,
  ⟨fun K => He.ma K (He.ga K "Tool") "ran", "ran", "Tool.ran", defArgs s_Tool_ran, defBody s_Tool_ran, defScope s_Tool_ran, [], []⟩,
  ⟨fun K => He.ma K (He.ga K "Tool") "led", "led", "Tool.led", defArgs s_Tool_led, defBody s_Tool_led, defScope s_Tool_led, [], []⟩,
  ⟨fun K => He.ma K (He.ga K "Tool") "joined", "joined", "Tool.joined", defArgs s_Tool_joined, defBody s_Tool_joined, defScope s_Tool_joined, [], []⟩,
  ⟨fun K => He.ma K (He.ga K "Tool") "keeps", "keeps", "Tool.keeps", defArgs s_Tool_keeps, defBody s_Tool_keeps, defScope s_Tool_keeps, [], []⟩,
  ⟨fun K => He.ma K (He.ga K "Tool") "need_row", "need_row", "Tool.need_row", defArgs s_Tool_need_row, defBody s_Tool_need_row, defScope s_Tool_need_row, [], []⟩,
  ⟨fun K => He.ma K (He.ga K "Tool") "but", "but", "Tool.but", defArgs s_Tool_but, defBody s_Tool_but, defScope s_Tool_but, [], []⟩,
  ⟨fun K => He.ma K (He.ga K "Tool") "without", "without", "Tool.without", defArgs s_Tool_without, defBody s_Tool_without, defScope s_Tool_without, [], []⟩,
  ⟨fun K => He.ma K (He.ga K "Tool") "heeding", "heeding", "Tool.heeding", defArgs s_Tool_heeding, defBody s_Tool_heeding, defScope s_Tool_heeding, [], []⟩,
  ⟨fun K => He.ma K (He.ga K "Tool") "__len__", "__len__", "Tool.__len__", defArgs s_Tool_len, defBody s_Tool_len, defScope s_Tool_len, [], []⟩,
  ⟨fun K => He.ma K (He.ga K "Tool") "__eq__", "__eq__", "Tool.__eq__", defArgs s_Tool_eq, defBody s_Tool_eq, defScope s_Tool_eq, [], []⟩,
  ⟨fun K => He.ma K (He.ga K "Tool") "__str__", "__str__", "Tool.__str__", defArgs s_Tool_str, defBody s_Tool_str, defScope s_Tool_str, [], []⟩,
  ⟨fun K => He.ga K "is_row", "is_row", "is_row", defArgs s_is_row, defBody s_is_row, defScope s_is_row, [], []⟩]
def fn2 : List He5.DefA := [⟨fun K => He.ga K "is_fit", "is_fit", "is_fit", defArgs s_is_fit, defBody s_is_fit, defScope s_is_fit, [], []⟩,
  ⟨fun K => He.ga K "fault_in", "fault_in", "fault_in", defArgs s_fault_in, defBody s_fault_in, defScope s_fault_in, [], []⟩,
  ⟨fun K => He.ga K "least_parting", "least_parting", "least_parting", defArgs s_least_parting, defBody s_least_parting, defScope s_least_parting, [], []⟩,
  ⟨fun K => He.ga K "alike", "alike", "alike", defArgs s_alike, defBody s_alike, defScope s_alike, [], []⟩,
  ⟨fun K => He.ga K "need_all", "need_all", "need_all", defArgs s_need_all, defBody s_need_all, defScope s_need_all, [], []⟩,
  ⟨fun K => He.ga K "happening", "happening", "happening", defArgs s_happening, defBody s_happening, defScope s_happening, [], []⟩,
  ⟨fun K => He.ga K "choices", "choices", "choices", defArgs s_choices, defBody s_choices, defScope s_choices, [], []⟩,
  ⟨fun K => He.ga K "least_parts", "least_parts", "least_parts", defArgs s_least_parts, defBody s_least_parts, defScope s_least_parts, [], []⟩,
  ⟨fun K => He.ga K "needless", "needless", "needless", defArgs s_needless, defBody s_needless, defScope s_needless, [], []⟩,
  ⟨fun K => He.ga K "_law_box", "_law_box", "_law_box", defArgs s_law_box, defBody s_law_box, defScope s_law_box, [], []⟩,
  ⟨fun K => He.ga K "_law_take", "_law_take", "_law_take", defArgs s_law_take, defBody s_law_take, defScope s_law_take, [], []⟩,
  ⟨fun K => He.ga K "_law_pick", "_law_pick", "_law_pick", defArgs s_law_pick, defBody s_law_pick, defScope s_law_pick, [], []⟩,
  ⟨fun K => He.ga K "_law_shuffled", "_law_shuffled", "_law_shuffled", defArgs s_law_shuffled, defBody s_law_shuffled, defScope s_law_shuffled, [], []⟩,
  ⟨fun K => He.ga K "_law_words", "_law_words", "_law_words", defArgs s_law_words, defBody s_law_words, defScope s_law_words, [], []⟩,
  ⟨fun K => He.ga K "_law_tool", "_law_tool", "_law_tool", defArgs s_law_tool, defBody s_law_tool, defScope s_law_tool, [], []⟩,
  ⟨fun K => He.ga K "_law_tool_text", "_law_tool_text", "_law_tool_text", defArgs s_law_tool_text, defBody s_law_tool_text, defScope s_law_tool_text, [], []⟩,
  ⟨fun K => He.ga K "_law_words_of_faults", "_law_words_of_faults", "_law_words_of_faults", defArgs s_law_words_of_faults, defBody s_law_words_of_faults, defScope s_law_words_of_faults, [], []⟩,
  ⟨fun K => He.ga K "_law_made", "_law_made", "_law_made", defArgs s_law_made, defBody s_law_made, defScope s_law_made, [], []⟩,
  ⟨fun K => He.ga K "_law_wider", "_law_wider", "_law_wider", defArgs s_law_wider, defBody s_law_wider, defScope s_law_wider, [], []⟩,
  ⟨fun K => He.ga K "law", "law", "law", defArgs s_law, defBody s_law, defScope s_law, [], []⟩]
def fn : List He5.DefA := fn0 ++ (fn1 ++ (fn2))
/-! ### the Hook -/
abbrev AlH : Type := He.AlD × Option (List (Option (Str × Int)))
def sKeys : List Str := ["send clear", "send keep"]
def obsH (K : PySem.W.Frag) : AlH := (((fa.all fun f => f.ok K) && ((fx.all fun f => f K) && fn.all fun d => d.ok K), fn.map fun d => He5.fnA K (d.at_ K)), He.dicW K (He.ga K "SENDS"))
def valH (w : World) : AlH := ((true, fn.map He5.DefA.val), some (He.keysIn w.params sKeys))
def SaysH (w : World) (K : PySem.W.Frag) : Prop := obsH K = valH w
def obsHG (g : Addr → Option Obj) : AlH := obsH (He.frG g (asM g))
def hookH : PySem.W.Hook where
  α := AlH
  obs := fun s => obsHG s.heap.get?
  val := fun w => valH w
  says := fun w h => ∃ K : PySem.W.Frag, K.In h ∧ SaysH w K
  of := fun _ _ e => ⟨_, He.frG_in, e⟩
  keeps := fun _ _ _ ⟨K, hK, c⟩ k => ⟨K, PySem.W.Frag.In.keeps hK k, c⟩
theorem obsHG_eq {g : Addr → Option Obj} {s : Shared} (h : ∀ a, g a = s.heap.get? a) : obsHG g = hookH.obs s := by
  have e : g = s.heap.get? := funext h
  rw [e] <;> rfl
def obH (s : PySem.W.SharedT) : AlH := obsHG (HandSHeadRun.getT s)
theorem obH_eq (s : PySem.W.SharedT) : obH s = hookH.obs s.abs := obsHG_eq (HandSHeadRun.getT_eq s)
abbrev RH : PySem.W.OpenRow := PySem.W.OpenLaw.row PySem.Challenge.rw_ledmarks_k55_whole_rows_that_mean_nothin
abbrev qvH : Program := PySem.W.view RH.prog [80]
def names1 : List PySem.Str := ["MarkError", "InvalidRow", "InvalidTool", "InvalidText", "InvalidFault", "NoRow", "NoMark", "EIGHT", "Single", "Pair", "machine_elders", "Ways", "Meeting", "falls", "disordering", "doubling", "met_at", "least_meeting", "SMALL", "BARRED", "PARTS", "ORDER", "FAULTS", "is_name", "is_sequence", "is_word", "are_unlike", "need_fault", "faults", "fewest", "lists"]
def names2 : List PySem.Str := ["ANY", "SIDES", "is_old_mark", "part_of", "are_tests", "names_among", "Row", "Run", "Lead", "Join", "row_in", "SENDS", "are_names", "are_parts", "fault_of", "holds", "heeding_row", "words_behind", "Tool", "is_row", "is_fit", "fault_in", "least_parting", "alike", "need_all", "happening", "choices", "least_parts", "needless"]
def names3 : List PySem.Str := ["_law_box", "_law_take", "_law_pick", "_law_shuffled", "_law_words", "_law_tool", "_law_tool_text", "_law_words_of_faults", "_law_made", "_law_wider"]
def namesH : List PySem.Str := names1 ++ (names2 ++ names3)
theorem runHF (w : World) : HandSHeadRun.RunEq RH qvH hookH obH 8000 namesH (w.withFollow "special-get-raises" false) := by
  intro os
  kernel_rfl
theorem runHT (w : World) : HandSHeadRun.RunEq RH qvH hookH obH 8000 namesH (w.withFollow "special-get-raises" true) := by
  intro os
  kernel_rfl
theorem runH (w : World) : HandSHeadRun.RunEq RH qvH hookH obH 8000 namesH w := PySem.W.byRow2 "special-get-raises" (P := fun w => HandSHeadRun.RunEq RH qvH hookH obH 8000 namesH w) runHF runHT w
end LM

set_option maxHeartbeats 400000
namespace LM
open PySem PySem.Spec PyProof.Rows L2
section
variable {P : Program} {w : World} {K : PySem.W.Frag} {h base : Heap} {mg : Str → Option Value}
theorem says1 (c : SaysH w K) : (fa.all fun f => f.ok K) = true ∧ (fx.all fun f => f K) = true ∧ (fn.all fun d => d.ok K) = true := by
  have e : ((fa.all fun f => f.ok K) && ((fx.all fun f => f K) && fn.all fun d => d.ok K)) = true := congrArg (fun z : AlH => z.1.1) c
  rw [Bool.and_eq_true, Bool.and_eq_true] at e
  exact ⟨e.1, e.2.1, e.2.2⟩
theorem fact (c : SaysH w K) (i : Nat) {f : He.Fa} (q : fa[i]? = some f) : f.ok K = true := List.all_eq_true.mp (says1 c).1 f (List.mem_of_getElem? q)
theorem factx (c : SaysH w K) (i : Nat) {f : PySem.W.Frag → Bool} (q : fx[i]? = some f) : f K = true := List.all_eq_true.mp (says1 c).2.1 f (List.mem_of_getElem? q)
theorem factn (c : SaysH w K) (i : Nat) {d : He5.DefA} (q : fn[i]? = some d) : ∃ fd, L2.FunD K d.name d.qual d.params d.body d.scope (d.dvs K) (d.kws K) (d.at_ K) fd := by
  have e : fn.map (fun d => He5.fnA K (d.at_ K)) = fn.map He5.DefA.val := congrArg (fun z : AlH => z.1.2) c
  have e2 : (fn.map fun d => He5.fnA K (d.at_ K))[i]? = (fn.map He5.DefA.val)[i]? := by rw [e]
  rw [List.getElem?_map, List.getElem?_map, q] at e2
  exact He5.DefA.funD (Option.some.inj e2) (List.all_eq_true.mp (says1 c).2.2 d (List.mem_of_getElem? q))
/-- the arguments of a def, bound -/
abbrev BindsH (x qual : Str) (st : Stmt) (ps : List Str) : Prop := ∀ (kV doc pm : Value) (an : Option Addr) (cdv ct : Value) (us : List Value), us.length = ps.length → bindArgs (PySem.W.fnOf x qual (defArgs st) (defBody st) (defScope st) .none kV doc pm an cdv ct) ⟨us, []⟩ = pure (ps.zip us)
abbrev FunH (K : PySem.W.Frag) (x qual : Str) (st : Stmt) (a : Addr) : Prop := ∃ fd, L2.FunD K x qual (defArgs st) (defBody st) (defScope st) [] [] a fd
section
variable {W : Wd} {x m qual : Str} {st : Stmt} {ps : List Str} {a C : Addr}
theorem defAt (F : FunH W.K x x st a) (hm : W.mg x = some (.ref a)) (hb : BindsH x x st ps) : DefAt W x st ps := ⟨let ⟨fd, F⟩ := F; ⟨a, fd, He5.fun_of F, hm, F.bindsN hb⟩⟩
theorem methAt (F : FunH W.K m qual st a) (hc : Cls W.K C) (hm : Meth W.K C m a) (hb : BindsH m qual st ps) : MethAt W C m qual st ps := ⟨let ⟨fd, F⟩ := F; ⟨a, fd, hc, hm, He5.fun_of F, F.bindsN hb⟩⟩
theorem makAt (F : FunH W.K "__init__" qual st a) (hk : Mk W.K C a) (hm : W.mg x = some (.ref C)) (hb : BindsH "__init__" qual st ps) : MakAt W x C qual st ps := ⟨let ⟨fd, F⟩ := F; ⟨a, fd, hk, He5.fun_of F, hm, F.bindsN hb⟩⟩
theorem cread_own {K : PySem.W.Frag} {C : Addr} (h0 : PySem.W.readsIn K C (.type "type") = true) : ClX.CRead K C (.type "type") := by
  refine ⟨h0, ?_⟩
  have h := h0
  unfold PySem.W.readsIn at h
  obtain ⟨h, _⟩ := He.ba h
  obtain ⟨h, _⟩ := He.ba h
  obtain ⟨h, h3⟩ := He.ba h
  obtain ⟨_, h2⟩ := He.ba h
  unfold PySem.W.specialIn
  rw [beq_iff_eq.mp h2, Option.bind_some]
  exact beq_iff_eq.mp h3
theorem cmethAt (F : FunH W.K "read" qual st (He5.wf W.K (He.ga W.K x) "classmethod" "read")) (hr : readB x W.K = true) (hw : wrapR x W.K = true) (hb : BindsH "read" qual st ps) : CMethAt W (He.ga W.K x) "read" qual st ps := ⟨by
  obtain ⟨fd, F⟩ := F
  obtain ⟨h1, h2⟩ := He.ba hw
  exact ⟨_, _, _, fd, cread_own hr, He5.cmet_of h1 h2, He5.fun_of F, F.bindsN hb⟩⟩
theorem tupC_of {ss : List Str} (hm : W.mg x = some (.ref (He.ga W.K x))) (ht : tupT x ss W.K = true) : TupC W x ss := ⟨by
  obtain ⟨h1, h2⟩ := He.ba ht
  refine ⟨_, hm, fun H => ?_, ?_⟩
  · have := He.tupB_ok h1 H
    rw [List.map_map] at this
    exact this
  · unfold He.tupB at h1
    cases q : W.K.lookup (He.ga W.K x) with
    | none => rw [q] at h1; cases h1
    | some o =>
      obtain ⟨oc, od, dt, osl⟩ := o
      rw [q] at h1 h2
      cases oc with
      | type c =>
        cases dt with
        | seq its n =>
          obtain ⟨h3, _⟩ := He.ba h1
          cases od with
          | none => exact ⟨_, rfl, congrArg Value.type (of_decide_eq_true h3), rfl⟩
          | some d => cases h2
        | _ => cases h1
      | _ => cases dt <;> cases h1⟩
theorem insTy_of (hc : Cls W.K (He.ga W.K x)) (hi : insB x W.K = true) : InsTy W (He.ga W.K x) := fun H a dx fs e => by
  obtain ⟨h1, h2⟩ := He.ba hi
  obtain ⟨h2, h3⟩ := He.ba h2
  obtain ⟨h3, h4⟩ := He.ba h3
  exact .base (.ins e hc (He.eqO_ok h1) (He.eqO_ok h2) (of_decide_eq_true h3) (of_decide_eq_true h4))
theorem neC_of {K : PySem.W.Frag} (hi : neB x K = true) : NeC K (He.ga K x) := let ⟨h1, h2⟩ := He.ba hi; ⟨He.eqO_ok h1, of_decide_eq_true h2⟩
theorem kit_of {c d : Str} {b : Bool} {K : PySem.W.Frag} (h : kitB c d b K = true) : PySem.W.kitOne K (.ref (He.ga K c)) (.ref (He.ga K d)) = some b := of_decide_eq_true h
theorem pat_of {K : PySem.W.Frag} {p : Pat} {u : Value} (h : patB K p u = true) : ∃ a, u = .ref a ∧ ∀ H, SqT K H a (patV p) := by
  cases u with
  | ref a =>
    refine ⟨a, rfl, fun H => ?_⟩
    unfold patB at h
    simp only at h
    cases q : K.lookup a with
    | none => rw [q] at h; cases h
    | some o =>
      obtain ⟨oc, od, dt, osl⟩ := o
      rw [q] at h
      cases oc with
      | type c =>
        cases dt with
        | seq its n =>
          obtain ⟨h1, h2⟩ := He.ba (show (decide (c = "tuple") && (decide (its.size ≤ sizeLine) && He.relAll (patV p) its.toList)) = true from h)
          obtain ⟨h3, h4⟩ := He.ba h2
          exact .inr ⟨_, its, n, q, congrArg Value.type (of_decide_eq_true h1), rfl, of_decide_eq_true h3, He.relAll_ok h4⟩
        | _ => cases h
      | _ => cases dt <;> cases h
  | _ => cases h
theorem pats_of {K : PySem.W.Frag} : ∀ {ps : List Pat} {us : List Value}, patsB K ps us = true → Vals (us.map bkV) us ∧ ∀ H, AllR (ps.map (PatR K)) (us.map bkV) H
  | [], [], _ => ⟨.nil, fun _ => trivial⟩
  | [], _ :: _, h => by cases h
  | _ :: _, [], h => by cases h
  | p :: ps, u :: us, h => by
    obtain ⟨h1, h2⟩ := He.ba (show (patB K p u && patsB K ps us) = true from h)
    obtain ⟨a, rfl, h3⟩ := pat_of h1
    obtain ⟨h4, h5⟩ := pats_of h2
    exact ⟨.cons rfl h4, fun H => ⟨⟨a, rfl, h3 H⟩, h5 H⟩⟩
theorem eightC_of (hm : W.mg "EIGHT" = some (.ref (He.ga W.K "EIGHT"))) (h : eightB W.K = true) : EightC W := ⟨by
  unfold eightB at h
  cases q : W.K.lookup (He.ga W.K "EIGHT") with
  | none => rw [q] at h; cases h
  | some o =>
    obtain ⟨oc, od, dt, osl⟩ := o
    rw [q] at h
    cases oc with
    | type c =>
      cases dt with
      | seq its n =>
        obtain ⟨h1, h2⟩ := He.ba (show (decide (c = "tuple") && (decide (its.size ≤ sizeLine) && patsB W.K lEIGHT its.toList)) = true from h)
        obtain ⟨h3, h4⟩ := He.ba h2
        obtain ⟨h5, h6⟩ := pats_of h4
        exact ⟨_, its.toList.map bkV, hm, fun H => .inr ⟨_, its, n, q, congrArg Value.type (of_decide_eq_true h1), rfl, of_decide_eq_true h3, h5⟩, h6⟩
      | _ => cases h
    | _ => cases dt <;> cases h⟩
theorem sendsC_of (hm : W.mg "SENDS" = some (.ref (He.ga W.K "SENDS"))) (h : sendsB W.K = true) (hd : He.dicW W.K (He.ga W.K "SENDS") = some (He.keysIn W.w.params sKeys)) : SendsC W := ⟨by
  obtain ⟨es, n, D⟩ := He.dicW_ok hd
  obtain ⟨h1, h2⟩ := He.ba h
  exact ⟨_, es, n, hm, D, He.eqO_ok h1, He.eqO_ok h2⟩⟩
end
theorem hBlt (X : K.In h) (G : h.Ns mainGlobals mg) (c : SaysH w K) : Blt ⟨P, w, K, mg, base⟩ := ⟨(He.free_ok X G (fact c 0 (f := .free "len") rfl)), (He.free_ok X G (fact c 1 (f := .free "isinstance") rfl)), (He.free_ok X G (fact c 2 (f := .free "all") rfl)), (He.free_ok X G (fact c 3 (f := .free "any") rfl)), (He.free_ok X G (fact c 4 (f := .free "tuple") rfl)), (He.free_ok X G (fact c 5 (f := .free "list") rfl)), (He.free_ok X G (fact c 6 (f := .free "str") rfl)), (He.free_ok X G (fact c 7 (f := .free "int") rfl)), (He.free_ok X G (fact c 8 (f := .free "bool") rfl)), (He.free_ok X G (fact c 9 (f := .free "range") rfl)), (He.free_ok X G (fact c 10 (f := .free "sorted") rfl)), (He.free_ok X G (fact c 11 (f := .free "zip") rfl)), (He.free_ok X G (fact c 12 (f := .free "enumerate") rfl)), (He.free_ok X G (fact c 13 (f := .free "min") rfl)), (He.free_ok X G (fact c 14 (f := .free "max") rfl)), (He.free_ok X G (fact c 15 (f := .free "abs") rfl))⟩
theorem hWords (X : K.In h) (G : h.Ns mainGlobals mg) (c : SaysH w K) : Words ⟨P, w, K, mg, base⟩ := ⟨He.str_ok X G (fact c 16 (f := .str "SMALL" sSMALL) rfl), (tupC_of (He.glo_ok X G (fact c 17 (f := .glo "BARRED") rfl)) (factx c 0 (f := tupT "BARRED" lBARRED) rfl)), (tupC_of (He.glo_ok X G (fact c 18 (f := .glo "PARTS") rfl)) (factx c 1 (f := tupT "PARTS" lPARTS) rfl)), (tupC_of (He.glo_ok X G (fact c 19 (f := .glo "ORDER") rfl)) (factx c 2 (f := tupT "ORDER" lORDER) rfl)), (tupC_of (He.glo_ok X G (fact c 20 (f := .glo "FAULTS") rfl)) (factx c 3 (f := tupT "FAULTS" lFAULTS) rfl))⟩
theorem hRowC (X : K.In h) (G : h.Ns mainGlobals mg) (c : SaysH w K) : RowC ⟨P, w, K, mg, base⟩ := ⟨(tupC_of (He.glo_ok X G (fact c 21 (f := .glo "ANY") rfl)) (factx c 4 (f := tupT "ANY" (["any"] : List Str)) rfl)), (tupC_of (He.glo_ok X G (fact c 22 (f := .glo "SIDES") rfl)) (factx c 5 (f := tupT "SIDES" (["here", "came"] : List Str)) rfl)), (He.cls_ok (fact c 80 (f := .cls "Run") rfl)), (He.cls_ok (fact c 85 (f := .cls "Lead") rfl)), (He.cls_ok (fact c 91 (f := .cls "Join") rfl)), (by
    intro f hf
    simp only [List.mem_cons, List.not_mem_nil, or_false] at hf
    rcases hf with rfl | rfl | rfl
    · exact (He.noat_ok (fact c 82 (f := .noat "Run" "old") rfl))
    · exact (He.noat_ok (fact c 83 (f := .noat "Run" "then") rfl))
    · exact (He.noat_ok (fact c 84 (f := .noat "Run" "names") rfl))), (by
    intro f hf
    simp only [List.mem_cons, List.not_mem_nil, or_false] at hf
    rcases hf with rfl | rfl | rfl | rfl
    · exact (He.noat_ok (fact c 87 (f := .noat "Lead" "tests") rfl))
    · exact (He.noat_ok (fact c 88 (f := .noat "Lead" "old") rfl))
    · exact (He.noat_ok (fact c 89 (f := .noat "Lead" "then") rfl))
    · exact (He.noat_ok (fact c 90 (f := .noat "Lead" "names") rfl))), (by
    intro f hf
    simp only [List.mem_cons, List.not_mem_nil, or_false] at hf
    rcases hf with rfl | rfl | rfl | rfl
    · exact (He.noat_ok (fact c 93 (f := .noat "Join" "here") rfl))
    · exact (He.noat_ok (fact c 94 (f := .noat "Join" "came") rfl))
    · exact (He.noat_ok (fact c 95 (f := .noat "Join" "then") rfl))
    · exact (He.noat_ok (fact c 96 (f := .noat "Join" "names") rfl)))⟩
theorem hRowK (X : K.In h) (G : h.Ns mainGlobals mg) (c : SaysH w K) : RowK ⟨P, w, K, mg, base⟩ := ⟨(fun r => match r with | .run _ _ => insTy_of (He.cls_ok (fact c 80 (f := .cls "Run") rfl)) (factx c 19 (f := insB "Run") rfl) | .lead _ _ _ => insTy_of (He.cls_ok (fact c 85 (f := .cls "Lead") rfl)) (factx c 20 (f := insB "Lead") rfl) | .join _ _ _ => insTy_of (He.cls_ok (fact c 91 (f := .cls "Join") rfl)) (factx c 21 (f := insB "Join") rfl)),
  (fun r => match r with | .run _ _ => kit_of (factx c 7 (f := kitB "Run" "Row" true) rfl) | .lead _ _ _ => kit_of (factx c 11 (f := kitB "Lead" "Row" true) rfl) | .join _ _ _ => kit_of (factx c 15 (f := kitB "Join" "Row" true) rfl)),
  (fun r => match r with | .run _ _ => kit_of (factx c 8 (f := kitB "Run" "Run" true) rfl) | .lead _ _ _ => kit_of (factx c 12 (f := kitB "Lead" "Run" false) rfl) | .join _ _ _ => kit_of (factx c 16 (f := kitB "Join" "Run" false) rfl)),
  (fun r => match r with | .run _ _ => kit_of (factx c 9 (f := kitB "Run" "Lead" false) rfl) | .lead _ _ _ => kit_of (factx c 13 (f := kitB "Lead" "Lead" true) rfl) | .join _ _ _ => kit_of (factx c 17 (f := kitB "Join" "Lead" false) rfl)),
  (fun r => match r with | .run _ _ => kit_of (factx c 10 (f := kitB "Run" "Join" false) rfl) | .lead _ _ _ => kit_of (factx c 14 (f := kitB "Lead" "Join" false) rfl) | .join _ _ _ => kit_of (factx c 18 (f := kitB "Join" "Join" true) rfl)),
  (He.glo_ok X G (fact c 25 (f := .glo "Row") rfl)),
  (He.glo_ok X G (fact c 26 (f := .glo "Run") rfl)),
  (He.glo_ok X G (fact c 27 (f := .glo "Lead") rfl)),
  (He.glo_ok X G (fact c 28 (f := .glo "Join") rfl))⟩
theorem hToolC (X : K.In h) (G : h.Ns mainGlobals mg) (c : SaysH w K) : ToolC ⟨P, w, K, mg, base⟩ := ⟨(He.cls_ok (fact c 97 (f := .cls "Tool") rfl)), (by
    intro f hf
    simp only [List.mem_cons, List.not_mem_nil, or_false] at hf
    rcases hf with rfl | rfl | rfl | rfl | rfl | rfl
    · exact (He.noat_ok (fact c 99 (f := .noat "Tool" "marks") rfl))
    · exact (He.noat_ok (fact c 100 (f := .noat "Tool" "told") rfl))
    · exact (He.noat_ok (fact c 101 (f := .noat "Tool" "parts") rfl))
    · exact (He.noat_ok (fact c 102 (f := .noat "Tool" "clears") rfl))
    · exact (He.noat_ok (fact c 103 (f := .noat "Tool" "rows") rfl))
    · exact (He.noat_ok (fact c 104 (f := .noat "Tool" "blank") rfl))), insTy_of (He.cls_ok (fact c 97 (f := .cls "Tool") rfl)) (factx c 22 (f := insB "Tool") rfl), (He.glo_ok X G (fact c 29 (f := .glo "Tool") rfl))⟩
theorem hSends (X : K.In h) (G : h.Ns mainGlobals mg) (c : SaysH w K) : SendsC ⟨P, w, K, mg, base⟩ := sendsC_of (He.glo_ok X G (fact c 24 (f := .glo "SENDS") rfl)) (factx c 28 (f := sendsB) rfl) (congrArg (fun z : AlH => z.2) c)
theorem hEight (X : K.In h) (G : h.Ns mainGlobals mg) (c : SaysH w K) : EightC ⟨P, w, K, mg, base⟩ := eightC_of (He.glo_ok X G (fact c 23 (f := .glo "EIGHT") rfl)) (factx c 6 (f := eightB) rfl)
theorem hSingle (X : K.In h) (G : h.Ns mainGlobals mg) (c : SaysH w K) : SingleC ⟨P, w, K, mg, base⟩ := ⟨(He.cls_ok (fact c 105 (f := .cls "Single") rfl)), (by
    intro f hf
    simp only [List.mem_cons, List.not_mem_nil, or_false] at hf
    rcases hf with rfl | rfl
    · exact (He.noat_ok (fact c 107 (f := .noat "Single" "tool") rfl))
    · exact (He.noat_ok (fact c 108 (f := .noat "Single" "begin") rfl)))⟩
theorem hPair (X : K.In h) (G : h.Ns mainGlobals mg) (c : SaysH w K) : PairC ⟨P, w, K, mg, base⟩ := ⟨(He.cls_ok (fact c 109 (f := .cls "Pair") rfl)), (by
    intro f hf
    simp only [List.mem_cons, List.not_mem_nil, or_false] at hf
    rcases hf with rfl | rfl
    · exact (He.noat_ok (fact c 111 (f := .noat "Pair" "tools") rfl))
    · exact (He.noat_ok (fact c 112 (f := .noat "Pair" "begin") rfl)))⟩
theorem hWays (X : K.In h) (G : h.Ns mainGlobals mg) (c : SaysH w K) : WaysC ⟨P, w, K, mg, base⟩ := ⟨(He.cls_ok (fact c 113 (f := .cls "Ways") rfl)), (by
    intro f hf
    simp only [List.mem_cons, List.not_mem_nil, or_false] at hf
    rcases hf with rfl | rfl | rfl | rfl | rfl
    · exact (He.noat_ok (fact c 115 (f := .noat "Ways" "steps") rfl))
    · exact (He.noat_ok (fact c 116 (f := .noat "Ways" "machine") rfl))
    · exact (He.noat_ok (fact c 117 (f := .noat "Ways" "coming") rfl))
    · exact (He.noat_ok (fact c 118 (f := .noat "Ways" "hearings") rfl))
    · exact (He.noat_ok (fact c 119 (f := .noat "Ways" "elders") rfl)))⟩
theorem hMeet (X : K.In h) (G : h.Ns mainGlobals mg) (c : SaysH w K) : MeetC ⟨P, w, K, mg, base⟩ := ⟨(He.cls_ok (fact c 120 (f := .cls "Meeting") rfl)), (by
    intro f hf
    simp only [List.mem_cons, List.not_mem_nil, or_false] at hf
    rcases hf with rfl | rfl | rfl | rfl
    · exact (He.noat_ok (fact c 122 (f := .noat "Meeting" "hearings") rfl))
    · exact (He.noat_ok (fact c 123 (f := .noat "Meeting" "item") rfl))
    · exact (He.noat_ok (fact c 124 (f := .noat "Meeting" "deeds") rfl))
    · exact (He.noat_ok (fact c 125 (f := .noat "Meeting" "waiting") rfl)))⟩
theorem hNe (X : K.In h) (G : h.Ns mainGlobals mg) (c : SaysH w K) : NeC K (He.ga K "Tool") := neC_of (factx c 23 (f := neB "Tool") rfl)
theorem ha_cal_take (X : K.In h) (G : h.Ns mainGlobals mg) (c : SaysH w K) : DefAt (⟨P, w, K, mg, base⟩ : Wd) "_law_take" s_law_take ["_law_box_here", "_law_many"] := defAt (factn c 70 (d := ⟨fun K => He.ga K "_law_take", "_law_take", "_law_take", defArgs s_law_take, defBody s_law_take, defScope s_law_take, [], []⟩) rfl) (He.glo_ok X G (fact c 70 (f := .glo "_law_take") rfl)) (fun _ _ _ _ _ _ us hl => match us, hl with | [_, _], _ => rfl)
theorem ha_cal_pick (X : K.In h) (G : h.Ns mainGlobals mg) (c : SaysH w K) : DefAt (⟨P, w, K, mg, base⟩ : Wd) "_law_pick" s_law_pick ["_law_box_here", "_law_some"] := defAt (factn c 71 (d := ⟨fun K => He.ga K "_law_pick", "_law_pick", "_law_pick", defArgs s_law_pick, defBody s_law_pick, defScope s_law_pick, [], []⟩) rfl) (He.glo_ok X G (fact c 71 (f := .glo "_law_pick") rfl)) (fun _ _ _ _ _ _ us hl => match us, hl with | [_, _], _ => rfl)
theorem ha_cal_is_name (X : K.In h) (G : h.Ns mainGlobals mg) (c : SaysH w K) : DefAt (⟨P, w, K, mg, base⟩ : Wd) "is_name" s_is_name ["value"] := defAt (factn c 18 (d := ⟨fun K => He.ga K "is_name", "is_name", "is_name", defArgs s_is_name, defBody s_is_name, defScope s_is_name, [], []⟩) rfl) (He.glo_ok X G (fact c 40 (f := .glo "is_name") rfl)) (fun _ _ _ _ _ _ us hl => match us, hl with | [_], _ => rfl)
theorem ha_cal_is_sequence (X : K.In h) (G : h.Ns mainGlobals mg) (c : SaysH w K) : DefAt (⟨P, w, K, mg, base⟩ : Wd) "is_sequence" s_is_sequence ["value"] := defAt (factn c 19 (d := ⟨fun K => He.ga K "is_sequence", "is_sequence", "is_sequence", defArgs s_is_sequence, defBody s_is_sequence, defScope s_is_sequence, [], []⟩) rfl) (He.glo_ok X G (fact c 41 (f := .glo "is_sequence") rfl)) (fun _ _ _ _ _ _ us hl => match us, hl with | [_], _ => rfl)
theorem ha_cal_is_word (X : K.In h) (G : h.Ns mainGlobals mg) (c : SaysH w K) : DefAt (⟨P, w, K, mg, base⟩ : Wd) "is_word" s_is_word ["value", "some"] := defAt (factn c 20 (d := ⟨fun K => He.ga K "is_word", "is_word", "is_word", defArgs s_is_word, defBody s_is_word, defScope s_is_word, [], []⟩) rfl) (He.glo_ok X G (fact c 42 (f := .glo "is_word") rfl)) (fun _ _ _ _ _ _ us hl => match us, hl with | [_, _], _ => rfl)
theorem ha_cal_are_unlike (X : K.In h) (G : h.Ns mainGlobals mg) (c : SaysH w K) : DefAt (⟨P, w, K, mg, base⟩ : Wd) "are_unlike" s_are_unlike ["words"] := defAt (factn c 21 (d := ⟨fun K => He.ga K "are_unlike", "are_unlike", "are_unlike", defArgs s_are_unlike, defBody s_are_unlike, defScope s_are_unlike, [], []⟩) rfl) (He.glo_ok X G (fact c 43 (f := .glo "are_unlike") rfl)) (fun _ _ _ _ _ _ us hl => match us, hl with | [_], _ => rfl)
theorem ha_met_tool_str (X : K.In h) (G : h.Ns mainGlobals mg) (c : SaysH w K) : MethAt (⟨P, w, K, mg, base⟩ : Wd) (cTool ⟨P, w, K, mg, base⟩) "__str__" "Tool.__str__" s_Tool_str ["self"] := methAt (factn c 58 (d := ⟨fun K => He.ma K (He.ga K "Tool") "__str__", "__str__", "Tool.__str__", defArgs s_Tool_str, defBody s_Tool_str, defScope s_Tool_str, [], []⟩) rfl) (He.cls_ok (fact c 97 (f := .cls "Tool") rfl)) (He.meth_ok (fact c 149 (f := .meth "Tool" "__str__") rfl)) (fun _ _ _ _ _ _ us hl => match us, hl with | [_], _ => rfl)
theorem ha_met_tool_eq (X : K.In h) (G : h.Ns mainGlobals mg) (c : SaysH w K) : MethAt (⟨P, w, K, mg, base⟩ : Wd) (cTool ⟨P, w, K, mg, base⟩) "__eq__" "Tool.__eq__" s_Tool_eq ["self", "other"] := methAt (factn c 57 (d := ⟨fun K => He.ma K (He.ga K "Tool") "__eq__", "__eq__", "Tool.__eq__", defArgs s_Tool_eq, defBody s_Tool_eq, defScope s_Tool_eq, [], []⟩) rfl) (He.cls_ok (fact c 97 (f := .cls "Tool") rfl)) (He.meth_ok (fact c 148 (f := .meth "Tool" "__eq__") rfl)) (fun _ _ _ _ _ _ us hl => match us, hl with | [_, _], _ => rfl)
theorem ha_cal_is_row (X : K.In h) (G : h.Ns mainGlobals mg) (c : SaysH w K) : DefAt (⟨P, w, K, mg, base⟩ : Wd) "is_row" s_is_row ["line"] := defAt (factn c 59 (d := ⟨fun K => He.ga K "is_row", "is_row", "is_row", defArgs s_is_row, defBody s_is_row, defScope s_is_row, [], []⟩) rfl) (He.glo_ok X G (fact c 59 (f := .glo "is_row") rfl)) (fun _ _ _ _ _ _ us hl => match us, hl with | [_], _ => rfl)
theorem ha_cal_words_behind (X : K.In h) (G : h.Ns mainGlobals mg) (c : SaysH w K) : DefAt (⟨P, w, K, mg, base⟩ : Wd) "words_behind" s_words_behind ["line", "word"] := defAt (factn c 43 (d := ⟨fun K => He.ga K "words_behind", "words_behind", "words_behind", defArgs s_words_behind, defBody s_words_behind, defScope s_words_behind, [], []⟩) rfl) (He.glo_ok X G (fact c 58 (f := .glo "words_behind") rfl)) (fun _ _ _ _ _ _ us hl => match us, hl with | [_, _], _ => rfl)
theorem ha_cal_is_fit (X : K.In h) (G : h.Ns mainGlobals mg) (c : SaysH w K) : DefAt (⟨P, w, K, mg, base⟩ : Wd) "is_fit" s_is_fit ["at", "line"] := defAt (factn c 60 (d := ⟨fun K => He.ga K "is_fit", "is_fit", "is_fit", defArgs s_is_fit, defBody s_is_fit, defScope s_is_fit, [], []⟩) rfl) (He.glo_ok X G (fact c 60 (f := .glo "is_fit") rfl)) (fun _ _ _ _ _ _ us hl => match us, hl with | [_, _], _ => rfl)
theorem ha_cal_fault_in (X : K.In h) (G : h.Ns mainGlobals mg) (c : SaysH w K) : DefAt (⟨P, w, K, mg, base⟩ : Wd) "fault_in" s_fault_in ["lines"] := defAt (factn c 61 (d := ⟨fun K => He.ga K "fault_in", "fault_in", "fault_in", defArgs s_fault_in, defBody s_fault_in, defScope s_fault_in, [], []⟩) rfl) (He.glo_ok X G (fact c 61 (f := .glo "fault_in") rfl)) (fun _ _ _ _ _ _ us hl => match us, hl with | [_], _ => rfl)
theorem ha_cm_tool_read (X : K.In h) (G : h.Ns mainGlobals mg) (c : SaysH w K) : CMethAt (⟨P, w, K, mg, base⟩ : Wd) (cTool ⟨P, w, K, mg, base⟩) "read" "Tool.read" s_Tool_read ["cls", "text"] := cmethAt (factn c 45 (d := ⟨fun K => He5.wf K (He.ga K "Tool") "classmethod" "read", "read", "Tool.read", defArgs s_Tool_read, defBody s_Tool_read, defScope s_Tool_read, [], []⟩) rfl) (factx c 26 (f := readB "Tool") rfl) (factx c 27 (f := wrapR "Tool") rfl) (fun _ _ _ _ _ _ us hl => match us, hl with | [_, _], _ => rfl)
theorem ha_cal_machine_elders (X : K.In h) (G : h.Ns mainGlobals mg) (c : SaysH w K) : DefAt (⟨P, w, K, mg, base⟩ : Wd) "machine_elders" s_machine_elders ["steps"] := defAt (factn c 8 (d := ⟨fun K => He.ga K "machine_elders", "machine_elders", "machine_elders", defArgs s_machine_elders, defBody s_machine_elders, defScope s_machine_elders, [], []⟩) rfl) (He.glo_ok X G (fact c 34 (f := .glo "machine_elders") rfl)) (fun _ _ _ _ _ _ us hl => match us, hl with | [_], _ => rfl)
theorem ha_met_edited (X : K.In h) (G : h.Ns mainGlobals mg) (c : SaysH w K) : MethAt (⟨P, w, K, mg, base⟩ : Wd) (cWays ⟨P, w, K, mg, base⟩) "edited" "Ways.edited" s_Ways_edited ["self", "layer", "many"] := methAt (factn c 10 (d := ⟨fun K => He.ma K (He.ga K "Ways") "edited", "edited", "Ways.edited", defArgs s_Ways_edited, defBody s_Ways_edited, defScope s_Ways_edited, [], []⟩) rfl) (He.cls_ok (fact c 113 (f := .cls "Ways") rfl)) (He.meth_ok (fact c 132 (f := .meth "Ways" "edited") rfl)) (fun _ _ _ _ _ _ us hl => match us, hl with | [_, _, _], _ => rfl)
theorem ha_met_heard (X : K.In h) (G : h.Ns mainGlobals mg) (c : SaysH w K) : MethAt (⟨P, w, K, mg, base⟩ : Wd) (cWays ⟨P, w, K, mg, base⟩) "heard" "Ways.heard" s_Ways_heard ["self", "layer"] := methAt (factn c 11 (d := ⟨fun K => He.ma K (He.ga K "Ways") "heard", "heard", "Ways.heard", defArgs s_Ways_heard, defBody s_Ways_heard, defScope s_Ways_heard, [], []⟩) rfl) (He.cls_ok (fact c 113 (f := .cls "Ways") rfl)) (He.meth_ok (fact c 133 (f := .meth "Ways" "heard") rfl)) (fun _ _ _ _ _ _ us hl => match us, hl with | [_, _], _ => rfl)
theorem ha_mak_ways (X : K.In h) (G : h.Ns mainGlobals mg) (c : SaysH w K) : MakAt (⟨P, w, K, mg, base⟩ : Wd) "Ways" (cWays ⟨P, w, K, mg, base⟩) "Ways.__init__" s_Ways_init ["self", "steps"] := makAt (factn c 9 (d := ⟨fun K => He.ma K (He.ga K "Ways") "__init__", "__init__", "Ways.__init__", defArgs s_Ways_init, defBody s_Ways_init, defScope s_Ways_init, [], []⟩) rfl) (He.mkr_ok (fact c 114 (f := .mkr "Ways") rfl)) (He.glo_ok X G (fact c 32 (f := .glo "Ways") rfl)) (fun _ _ _ _ _ _ us hl => match us, hl with | [_, _], _ => rfl)
theorem ha_mak_single (X : K.In h) (G : h.Ns mainGlobals mg) (c : SaysH w K) : MakAt (⟨P, w, K, mg, base⟩ : Wd) "Single" (cSingle ⟨P, w, K, mg, base⟩) "Single.__init__" s_Single_init ["self", "tool"] := makAt (factn c 0 (d := ⟨fun K => He.ma K (He.ga K "Single") "__init__", "__init__", "Single.__init__", defArgs s_Single_init, defBody s_Single_init, defScope s_Single_init, [], []⟩) rfl) (He.mkr_ok (fact c 106 (f := .mkr "Single") rfl)) (He.glo_ok X G (fact c 30 (f := .glo "Single") rfl)) (fun _ _ _ _ _ _ us hl => match us, hl with | [_, _], _ => rfl)
theorem ha_met_single_led (X : K.In h) (G : h.Ns mainGlobals mg) (c : SaysH w K) : MethAt (⟨P, w, K, mg, base⟩ : Wd) (cSingle ⟨P, w, K, mg, base⟩) "led" "Single.led" s_Single_led ["self", "item", "pattern"] := methAt (factn c 2 (d := ⟨fun K => He.ma K (He.ga K "Single") "led", "led", "Single.led", defArgs s_Single_led, defBody s_Single_led, defScope s_Single_led, [], []⟩) rfl) (He.cls_ok (fact c 105 (f := .cls "Single") rfl)) (He.meth_ok (fact c 127 (f := .meth "Single" "led") rfl)) (fun _ _ _ _ _ _ us hl => match us, hl with | [_, _, _], _ => rfl)
theorem ha_met_single_joined (X : K.In h) (G : h.Ns mainGlobals mg) (c : SaysH w K) : MethAt (⟨P, w, K, mg, base⟩ : Wd) (cSingle ⟨P, w, K, mg, base⟩) "joined" "Single.joined" s_Single_joined ["self", "here", "came"] := methAt (factn c 3 (d := ⟨fun K => He.ma K (He.ga K "Single") "joined", "joined", "Single.joined", defArgs s_Single_joined, defBody s_Single_joined, defScope s_Single_joined, [], []⟩) rfl) (He.cls_ok (fact c 105 (f := .cls "Single") rfl)) (He.meth_ok (fact c 128 (f := .meth "Single" "joined") rfl)) (fun _ _ _ _ _ _ us hl => match us, hl with | [_, _, _], _ => rfl)
theorem ha_met_single_steps (X : K.In h) (G : h.Ns mainGlobals mg) (c : SaysH w K) : MethAt (⟨P, w, K, mg, base⟩ : Wd) (cSingle ⟨P, w, K, mg, base⟩) "machine_steps" "Single.machine_steps" s_Single_machine_steps ["self", "item"] := methAt (factn c 1 (d := ⟨fun K => He.ma K (He.ga K "Single") "machine_steps", "machine_steps", "Single.machine_steps", defArgs s_Single_machine_steps, defBody s_Single_machine_steps, defScope s_Single_machine_steps, [], []⟩) rfl) (He.cls_ok (fact c 105 (f := .cls "Single") rfl)) (He.meth_ok (fact c 126 (f := .meth "Single" "machine_steps") rfl)) (fun _ _ _ _ _ _ us hl => match us, hl with | [_, _], _ => rfl)
theorem ha_cal_is_old_mark (X : K.In h) (G : h.Ns mainGlobals mg) (c : SaysH w K) : DefAt (⟨P, w, K, mg, base⟩ : Wd) "is_old_mark" s_is_old_mark ["value"] := defAt (factn c 26 (d := ⟨fun K => He.ga K "is_old_mark", "is_old_mark", "is_old_mark", defArgs s_is_old_mark, defBody s_is_old_mark, defScope s_is_old_mark, [], []⟩) rfl) (He.glo_ok X G (fact c 48 (f := .glo "is_old_mark") rfl)) (fun _ _ _ _ _ _ us hl => match us, hl with | [_], _ => rfl)
theorem ha_cal_part_of (X : K.In h) (G : h.Ns mainGlobals mg) (c : SaysH w K) : DefAt (⟨P, w, K, mg, base⟩ : Wd) "part_of" s_part_of ["test"] := defAt (factn c 27 (d := ⟨fun K => He.ga K "part_of", "part_of", "part_of", defArgs s_part_of, defBody s_part_of, defScope s_part_of, [], []⟩) rfl) (He.glo_ok X G (fact c 49 (f := .glo "part_of") rfl)) (fun _ _ _ _ _ _ us hl => match us, hl with | [_], _ => rfl)
theorem ha_cal_are_tests (X : K.In h) (G : h.Ns mainGlobals mg) (c : SaysH w K) : DefAt (⟨P, w, K, mg, base⟩ : Wd) "are_tests" s_are_tests ["value"] := defAt (factn c 28 (d := ⟨fun K => He.ga K "are_tests", "are_tests", "are_tests", defArgs s_are_tests, defBody s_are_tests, defScope s_are_tests, [], []⟩) rfl) (He.glo_ok X G (fact c 50 (f := .glo "are_tests") rfl)) (fun _ _ _ _ _ _ us hl => match us, hl with | [_], _ => rfl)
theorem ha_cal_names_among (X : K.In h) (G : h.Ns mainGlobals mg) (c : SaysH w K) : DefAt (⟨P, w, K, mg, base⟩ : Wd) "names_among" s_names_among ["words"] := defAt (factn c 29 (d := ⟨fun K => He.ga K "names_among", "names_among", "names_among", defArgs s_names_among, defBody s_names_among, defScope s_names_among, [], []⟩) rfl) (He.glo_ok X G (fact c 51 (f := .glo "names_among") rfl)) (fun _ _ _ _ _ _ us hl => match us, hl with | [_], _ => rfl)
theorem ha_mak_pair (X : K.In h) (G : h.Ns mainGlobals mg) (c : SaysH w K) : MakAt (⟨P, w, K, mg, base⟩ : Wd) "Pair" (cPair ⟨P, w, K, mg, base⟩) "Pair.__init__" s_Pair_init ["self", "p", "q"] := makAt (factn c 4 (d := ⟨fun K => He.ma K (He.ga K "Pair") "__init__", "__init__", "Pair.__init__", defArgs s_Pair_init, defBody s_Pair_init, defScope s_Pair_init, [], []⟩) rfl) (He.mkr_ok (fact c 110 (f := .mkr "Pair") rfl)) (He.glo_ok X G (fact c 31 (f := .glo "Pair") rfl)) (fun _ _ _ _ _ _ us hl => match us, hl with | [_, _, _], _ => rfl)
theorem ha_met_pair_led (X : K.In h) (G : h.Ns mainGlobals mg) (c : SaysH w K) : MethAt (⟨P, w, K, mg, base⟩ : Wd) (cPair ⟨P, w, K, mg, base⟩) "led" "Pair.led" s_Pair_led ["self", "item", "pattern"] := methAt (factn c 6 (d := ⟨fun K => He.ma K (He.ga K "Pair") "led", "led", "Pair.led", defArgs s_Pair_led, defBody s_Pair_led, defScope s_Pair_led, [], []⟩) rfl) (He.cls_ok (fact c 109 (f := .cls "Pair") rfl)) (He.meth_ok (fact c 130 (f := .meth "Pair" "led") rfl)) (fun _ _ _ _ _ _ us hl => match us, hl with | [_, _, _], _ => rfl)
theorem ha_met_pair_joined (X : K.In h) (G : h.Ns mainGlobals mg) (c : SaysH w K) : MethAt (⟨P, w, K, mg, base⟩ : Wd) (cPair ⟨P, w, K, mg, base⟩) "joined" "Pair.joined" s_Pair_joined ["self", "here", "came"] := methAt (factn c 7 (d := ⟨fun K => He.ma K (He.ga K "Pair") "joined", "joined", "Pair.joined", defArgs s_Pair_joined, defBody s_Pair_joined, defScope s_Pair_joined, [], []⟩) rfl) (He.cls_ok (fact c 109 (f := .cls "Pair") rfl)) (He.meth_ok (fact c 131 (f := .meth "Pair" "joined") rfl)) (fun _ _ _ _ _ _ us hl => match us, hl with | [_, _, _], _ => rfl)
theorem ha_met_pair_steps (X : K.In h) (G : h.Ns mainGlobals mg) (c : SaysH w K) : MethAt (⟨P, w, K, mg, base⟩ : Wd) (cPair ⟨P, w, K, mg, base⟩) "machine_steps" "Pair.machine_steps" s_Pair_machine_steps ["self", "item"] := methAt (factn c 5 (d := ⟨fun K => He.ma K (He.ga K "Pair") "machine_steps", "machine_steps", "Pair.machine_steps", defArgs s_Pair_machine_steps, defBody s_Pair_machine_steps, defScope s_Pair_machine_steps, [], []⟩) rfl) (He.cls_ok (fact c 109 (f := .cls "Pair") rfl)) (He.meth_ok (fact c 129 (f := .meth "Pair" "machine_steps") rfl)) (fun _ _ _ _ _ _ us hl => match us, hl with | [_, _], _ => rfl)
theorem ha_cal_falls (X : K.In h) (G : h.Ns mainGlobals mg) (c : SaysH w K) : DefAt (⟨P, w, K, mg, base⟩ : Wd) "falls" s_falls ["tool", "ways", "item"] := defAt (factn c 13 (d := ⟨fun K => He.ga K "falls", "falls", "falls", defArgs s_falls, defBody s_falls, defScope s_falls, [], []⟩) rfl) (He.glo_ok X G (fact c 35 (f := .glo "falls") rfl)) (fun _ _ _ _ _ _ us hl => match us, hl with | [_, _, _], _ => rfl)
theorem ha_cal_disordering (X : K.In h) (G : h.Ns mainGlobals mg) (c : SaysH w K) : DefAt (⟨P, w, K, mg, base⟩ : Wd) "disordering" s_disordering ["tool", "ways", "item"] := defAt (factn c 14 (d := ⟨fun K => He.ga K "disordering", "disordering", "disordering", defArgs s_disordering, defBody s_disordering, defScope s_disordering, [], []⟩) rfl) (He.glo_ok X G (fact c 36 (f := .glo "disordering") rfl)) (fun _ _ _ _ _ _ us hl => match us, hl with | [_, _, _], _ => rfl)
theorem ha_cal_doubling (X : K.In h) (G : h.Ns mainGlobals mg) (c : SaysH w K) : DefAt (⟨P, w, K, mg, base⟩ : Wd) "doubling" s_doubling ["tool", "ways", "item"] := defAt (factn c 15 (d := ⟨fun K => He.ga K "doubling", "doubling", "doubling", defArgs s_doubling, defBody s_doubling, defScope s_doubling, [], []⟩) rfl) (He.glo_ok X G (fact c 37 (f := .glo "doubling") rfl)) (fun _ _ _ _ _ _ us hl => match us, hl with | [_, _, _], _ => rfl)
theorem ha_mak_meeting (X : K.In h) (G : h.Ns mainGlobals mg) (c : SaysH w K) : MakAt (⟨P, w, K, mg, base⟩ : Wd) "Meeting" (cMeeting ⟨P, w, K, mg, base⟩) "Meeting.__init__" s_Meeting_init ["self", "hearings", "item", "deeds", "waiting"] := makAt (factn c 12 (d := ⟨fun K => He.ma K (He.ga K "Meeting") "__init__", "__init__", "Meeting.__init__", defArgs s_Meeting_init, defBody s_Meeting_init, defScope s_Meeting_init, [], []⟩) rfl) (He.mkr_ok (fact c 121 (f := .mkr "Meeting") rfl)) (He.glo_ok X G (fact c 33 (f := .glo "Meeting") rfl)) (fun _ _ _ _ _ _ us hl => match us, hl with | [_, _, _, _, _], _ => rfl)
theorem ha_cal_met_at (X : K.In h) (G : h.Ns mainGlobals mg) (c : SaysH w K) : DefAt (⟨P, w, K, mg, base⟩ : Wd) "met_at" s_met_at ["tool", "ways", "item", "fault"] := defAt (factn c 16 (d := ⟨fun K => He.ga K "met_at", "met_at", "met_at", defArgs s_met_at, defBody s_met_at, defScope s_met_at, [], []⟩) rfl) (He.glo_ok X G (fact c 38 (f := .glo "met_at") rfl)) (fun _ _ _ _ _ _ us hl => match us, hl with | [_, _, _, _], _ => rfl)
theorem ha_cal_least (X : K.In h) (G : h.Ns mainGlobals mg) (c : SaysH w K) : DefAt (⟨P, w, K, mg, base⟩ : Wd) "least_meeting" s_least_meeting ["tool", "ways", "fault"] := defAt (factn c 17 (d := ⟨fun K => He.ga K "least_meeting", "least_meeting", "least_meeting", defArgs s_least_meeting, defBody s_least_meeting, defScope s_least_meeting, [], []⟩) rfl) (He.glo_ok X G (fact c 39 (f := .glo "least_meeting") rfl)) (fun _ _ _ _ _ _ us hl => match us, hl with | [_, _, _], _ => rfl)
theorem ha_cal_faults (X : K.In h) (G : h.Ns mainGlobals mg) (c : SaysH w K) : DefAt (⟨P, w, K, mg, base⟩ : Wd) "faults" s_faults ["tool"] := defAt (factn c 23 (d := ⟨fun K => He.ga K "faults", "faults", "faults", defArgs s_faults, defBody s_faults, defScope s_faults, [], []⟩) rfl) (He.glo_ok X G (fact c 45 (f := .glo "faults") rfl)) (fun _ _ _ _ _ _ us hl => match us, hl with | [_], _ => rfl)
theorem ha_cal_need_fault (X : K.In h) (G : h.Ns mainGlobals mg) (c : SaysH w K) : DefAt (⟨P, w, K, mg, base⟩ : Wd) "need_fault" s_need_fault ["fault"] := defAt (factn c 22 (d := ⟨fun K => He.ga K "need_fault", "need_fault", "need_fault", defArgs s_need_fault, defBody s_need_fault, defScope s_need_fault, [], []⟩) rfl) (He.glo_ok X G (fact c 44 (f := .glo "need_fault") rfl)) (fun _ _ _ _ _ _ us hl => match us, hl with | [_], _ => rfl)
theorem ha_cal_fewest (X : K.In h) (G : h.Ns mainGlobals mg) (c : SaysH w K) : DefAt (⟨P, w, K, mg, base⟩ : Wd) "fewest" s_fewest ["tool", "fault"] := defAt (factn c 24 (d := ⟨fun K => He.ga K "fewest", "fewest", "fewest", defArgs s_fewest, defBody s_fewest, defScope s_fewest, [], []⟩) rfl) (He.glo_ok X G (fact c 46 (f := .glo "fewest") rfl)) (fun _ _ _ _ _ _ us hl => match us, hl with | [_, _], _ => rfl)
theorem ha_cal_least_parting (X : K.In h) (G : h.Ns mainGlobals mg) (c : SaysH w K) : DefAt (⟨P, w, K, mg, base⟩ : Wd) "least_parting" s_least_parting ["p", "q", "ways"] := defAt (factn c 62 (d := ⟨fun K => He.ga K "least_parting", "least_parting", "least_parting", defArgs s_least_parting, defBody s_least_parting, defScope s_least_parting, [], []⟩) rfl) (He.glo_ok X G (fact c 62 (f := .glo "least_parting") rfl)) (fun _ _ _ _ _ _ us hl => match us, hl with | [_, _, _], _ => rfl)
theorem ha_cal_alike (X : K.In h) (G : h.Ns mainGlobals mg) (c : SaysH w K) : DefAt (⟨P, w, K, mg, base⟩ : Wd) "alike" s_alike ["p", "q"] := defAt (factn c 63 (d := ⟨fun K => He.ga K "alike", "alike", "alike", defArgs s_alike, defBody s_alike, defScope s_alike, [], []⟩) rfl) (He.glo_ok X G (fact c 63 (f := .glo "alike") rfl)) (fun _ _ _ _ _ _ us hl => match us, hl with | [_, _], _ => rfl)
theorem ha_cal_need_all (X : K.In h) (G : h.Ns mainGlobals mg) (c : SaysH w K) : DefAt (⟨P, w, K, mg, base⟩ : Wd) "need_all" s_need_all ["wanted"] := defAt (factn c 64 (d := ⟨fun K => He.ga K "need_all", "need_all", "need_all", defArgs s_need_all, defBody s_need_all, defScope s_need_all, [], []⟩) rfl) (He.glo_ok X G (fact c 64 (f := .glo "need_all") rfl)) (fun _ _ _ _ _ _ us hl => match us, hl with | [_], _ => rfl)
theorem ha_cal_happening (X : K.In h) (G : h.Ns mainGlobals mg) (c : SaysH w K) : DefAt (⟨P, w, K, mg, base⟩ : Wd) "happening" s_happening ["tool", "wanted"] := defAt (factn c 65 (d := ⟨fun K => He.ga K "happening", "happening", "happening", defArgs s_happening, defBody s_happening, defScope s_happening, [], []⟩) rfl) (He.glo_ok X G (fact c 65 (f := .glo "happening") rfl)) (fun _ _ _ _ _ _ us hl => match us, hl with | [_, _], _ => rfl)
theorem ha_cal_choices (X : K.In h) (G : h.Ns mainGlobals mg) (c : SaysH w K) : DefAt (⟨P, w, K, mg, base⟩ : Wd) "choices" s_choices ["many"] := defAt (factn c 66 (d := ⟨fun K => He.ga K "choices", "choices", "choices", defArgs s_choices, defBody s_choices, defScope s_choices, [], []⟩) rfl) (He.glo_ok X G (fact c 66 (f := .glo "choices") rfl)) (fun _ _ _ _ _ _ us hl => match us, hl with | [_], _ => rfl)
theorem ha_cal_least_parts (X : K.In h) (G : h.Ns mainGlobals mg) (c : SaysH w K) : DefAt (⟨P, w, K, mg, base⟩ : Wd) "least_parts" s_least_parts ["tool", "wanted"] := defAt (factn c 67 (d := ⟨fun K => He.ga K "least_parts", "least_parts", "least_parts", defArgs s_least_parts, defBody s_least_parts, defScope s_least_parts, [], []⟩) rfl) (He.glo_ok X G (fact c 67 (f := .glo "least_parts") rfl)) (fun _ _ _ _ _ _ us hl => match us, hl with | [_, _], _ => rfl)
theorem ha_cal_needless (X : K.In h) (G : h.Ns mainGlobals mg) (c : SaysH w K) : DefAt (⟨P, w, K, mg, base⟩ : Wd) "needless" s_needless ["tool", "wanted"] := defAt (factn c 68 (d := ⟨fun K => He.ga K "needless", "needless", "needless", defArgs s_needless, defBody s_needless, defScope s_needless, [], []⟩) rfl) (He.glo_ok X G (fact c 68 (f := .glo "needless") rfl)) (fun _ _ _ _ _ _ us hl => match us, hl with | [_, _], _ => rfl)
theorem ha_cal_shuffled (X : K.In h) (G : h.Ns mainGlobals mg) (c : SaysH w K) : DefAt (⟨P, w, K, mg, base⟩ : Wd) "_law_shuffled" s_law_shuffled ["_law_box_here", "_law_some"] := defAt (factn c 72 (d := ⟨fun K => He.ga K "_law_shuffled", "_law_shuffled", "_law_shuffled", defArgs s_law_shuffled, defBody s_law_shuffled, defScope s_law_shuffled, [], []⟩) rfl) (He.glo_ok X G (fact c 72 (f := .glo "_law_shuffled") rfl)) (fun _ _ _ _ _ _ us hl => match us, hl with | [_, _], _ => rfl)
theorem ha_cal_words (X : K.In h) (G : h.Ns mainGlobals mg) (c : SaysH w K) : DefAt (⟨P, w, K, mg, base⟩ : Wd) "_law_words" s_law_words ["_law_box_here", "_law_many"] := defAt (factn c 73 (d := ⟨fun K => He.ga K "_law_words", "_law_words", "_law_words", defArgs s_law_words, defBody s_law_words, defScope s_law_words, [], []⟩) rfl) (He.glo_ok X G (fact c 73 (f := .glo "_law_words") rfl)) (fun _ _ _ _ _ _ us hl => match us, hl with | [_, _], _ => rfl)
theorem ha_mak_run (X : K.In h) (G : h.Ns mainGlobals mg) (c : SaysH w K) : MakAt (⟨P, w, K, mg, base⟩ : Wd) "Run" (cRun ⟨P, w, K, mg, base⟩) "Run.__init__" s_Run_init ["self", "old", "then"] := makAt (factn c 31 (d := ⟨fun K => He.ma K (He.ga K "Run") "__init__", "__init__", "Run.__init__", defArgs s_Run_init, defBody s_Run_init, defScope s_Run_init, [], []⟩) rfl) (He.mkr_ok (fact c 81 (f := .mkr "Run") rfl)) (He.glo_ok X G (fact c 26 (f := .glo "Run") rfl)) (fun _ _ _ _ _ _ us hl => match us, hl with | [_, _, _], _ => rfl)
theorem ha_mak_lead (X : K.In h) (G : h.Ns mainGlobals mg) (c : SaysH w K) : MakAt (⟨P, w, K, mg, base⟩ : Wd) "Lead" (cLead ⟨P, w, K, mg, base⟩) "Lead.__init__" s_Lead_init ["self", "tests", "old", "then"] := makAt (factn c 33 (d := ⟨fun K => He.ma K (He.ga K "Lead") "__init__", "__init__", "Lead.__init__", defArgs s_Lead_init, defBody s_Lead_init, defScope s_Lead_init, [], []⟩) rfl) (He.mkr_ok (fact c 86 (f := .mkr "Lead") rfl)) (He.glo_ok X G (fact c 27 (f := .glo "Lead") rfl)) (fun _ _ _ _ _ _ us hl => match us, hl with | [_, _, _, _], _ => rfl)
theorem ha_mak_join (X : K.In h) (G : h.Ns mainGlobals mg) (c : SaysH w K) : MakAt (⟨P, w, K, mg, base⟩ : Wd) "Join" (cJoin ⟨P, w, K, mg, base⟩) "Join.__init__" s_Join_init ["self", "here", "came", "then"] := makAt (factn c 35 (d := ⟨fun K => He.ma K (He.ga K "Join") "__init__", "__init__", "Join.__init__", defArgs s_Join_init, defBody s_Join_init, defScope s_Join_init, [], []⟩) rfl) (He.mkr_ok (fact c 92 (f := .mkr "Join") rfl)) (He.glo_ok X G (fact c 28 (f := .glo "Join") rfl)) (fun _ _ _ _ _ _ us hl => match us, hl with | [_, _, _, _], _ => rfl)
theorem ha_met_run_str (X : K.In h) (G : h.Ns mainGlobals mg) (c : SaysH w K) : MethAt (⟨P, w, K, mg, base⟩ : Wd) (cRun ⟨P, w, K, mg, base⟩) "__str__" "Run.__str__" s_Run_str ["self"] := methAt (factn c 32 (d := ⟨fun K => He.ma K (He.ga K "Run") "__str__", "__str__", "Run.__str__", defArgs s_Run_str, defBody s_Run_str, defScope s_Run_str, [], []⟩) rfl) (He.cls_ok (fact c 80 (f := .cls "Run") rfl)) (He.meth_ok (fact c 134 (f := .meth "Run" "__str__") rfl)) (fun _ _ _ _ _ _ us hl => match us, hl with | [_], _ => rfl)
theorem ha_met_lead_str (X : K.In h) (G : h.Ns mainGlobals mg) (c : SaysH w K) : MethAt (⟨P, w, K, mg, base⟩ : Wd) (cLead ⟨P, w, K, mg, base⟩) "__str__" "Lead.__str__" s_Lead_str ["self"] := methAt (factn c 34 (d := ⟨fun K => He.ma K (He.ga K "Lead") "__str__", "__str__", "Lead.__str__", defArgs s_Lead_str, defBody s_Lead_str, defScope s_Lead_str, [], []⟩) rfl) (He.cls_ok (fact c 85 (f := .cls "Lead") rfl)) (He.meth_ok (fact c 135 (f := .meth "Lead" "__str__") rfl)) (fun _ _ _ _ _ _ us hl => match us, hl with | [_], _ => rfl)
theorem ha_met_join_str (X : K.In h) (G : h.Ns mainGlobals mg) (c : SaysH w K) : MethAt (⟨P, w, K, mg, base⟩ : Wd) (cJoin ⟨P, w, K, mg, base⟩) "__str__" "Join.__str__" s_Join_str ["self"] := methAt (factn c 36 (d := ⟨fun K => He.ma K (He.ga K "Join") "__str__", "__str__", "Join.__str__", defArgs s_Join_str, defBody s_Join_str, defScope s_Join_str, [], []⟩) rfl) (He.cls_ok (fact c 91 (f := .cls "Join") rfl)) (He.meth_ok (fact c 136 (f := .meth "Join" "__str__") rfl)) (fun _ _ _ _ _ _ us hl => match us, hl with | [_], _ => rfl)
theorem ha_cal_law_tool (X : K.In h) (G : h.Ns mainGlobals mg) (c : SaysH w K) : DefAt (⟨P, w, K, mg, base⟩ : Wd) "_law_tool" s_law_tool ["_law_box_here"] := defAt (factn c 74 (d := ⟨fun K => He.ga K "_law_tool", "_law_tool", "_law_tool", defArgs s_law_tool, defBody s_law_tool, defScope s_law_tool, [], []⟩) rfl) (He.glo_ok X G (fact c 74 (f := .glo "_law_tool") rfl)) (fun _ _ _ _ _ _ us hl => match us, hl with | [_], _ => rfl)
theorem ha_cal_law_text (X : K.In h) (G : h.Ns mainGlobals mg) (c : SaysH w K) : DefAt (⟨P, w, K, mg, base⟩ : Wd) "_law_tool_text" s_law_tool_text ["_law_tool_here"] := defAt (factn c 75 (d := ⟨fun K => He.ga K "_law_tool_text", "_law_tool_text", "_law_tool_text", defArgs s_law_tool_text, defBody s_law_tool_text, defScope s_law_tool_text, [], []⟩) rfl) (He.glo_ok X G (fact c 75 (f := .glo "_law_tool_text") rfl)) (fun _ _ _ _ _ _ us hl => match us, hl with | [_], _ => rfl)
theorem ha_cal_law_fw (X : K.In h) (G : h.Ns mainGlobals mg) (c : SaysH w K) : DefAt (⟨P, w, K, mg, base⟩ : Wd) "_law_words_of_faults" s_law_words_of_faults [] := defAt (factn c 76 (d := ⟨fun K => He.ga K "_law_words_of_faults", "_law_words_of_faults", "_law_words_of_faults", defArgs s_law_words_of_faults, defBody s_law_words_of_faults, defScope s_law_words_of_faults, [], []⟩) rfl) (He.glo_ok X G (fact c 76 (f := .glo "_law_words_of_faults") rfl)) (fun _ _ _ _ _ _ us hl => match us, hl with | [], _ => rfl)
theorem ha_cal_law_made (X : K.In h) (G : h.Ns mainGlobals mg) (c : SaysH w K) : DefAt (⟨P, w, K, mg, base⟩ : Wd) "_law_made" s_law_made ["_law_tool_here"] := defAt (factn c 77 (d := ⟨fun K => He.ga K "_law_made", "_law_made", "_law_made", defArgs s_law_made, defBody s_law_made, defScope s_law_made, [], []⟩) rfl) (He.glo_ok X G (fact c 77 (f := .glo "_law_made") rfl)) (fun _ _ _ _ _ _ us hl => match us, hl with | [_], _ => rfl)
theorem ha_cal_law_wider (X : K.In h) (G : h.Ns mainGlobals mg) (c : SaysH w K) : DefAt (⟨P, w, K, mg, base⟩ : Wd) "_law_wider" s_law_wider ["_law_box_here", "_law_tool_here"] := defAt (factn c 78 (d := ⟨fun K => He.ga K "_law_wider", "_law_wider", "_law_wider", defArgs s_law_wider, defBody s_law_wider, defScope s_law_wider, [], []⟩) rfl) (He.glo_ok X G (fact c 78 (f := .glo "_law_wider") rfl)) (fun _ _ _ _ _ _ us hl => match us, hl with | [_, _], _ => rfl)
theorem ha_cal_lists (X : K.In h) (G : h.Ns mainGlobals mg) (c : SaysH w K) : DefAt (⟨P, w, K, mg, base⟩ : Wd) "lists" s_lists ["tool"] := defAt (factn c 25 (d := ⟨fun K => He.ga K "lists", "lists", "lists", defArgs s_lists, defBody s_lists, defScope s_lists, [], []⟩) rfl) (He.glo_ok X G (fact c 47 (f := .glo "lists") rfl)) (fun _ _ _ _ _ _ us hl => match us, hl with | [_], _ => rfl)
theorem ha_cal_law_box (X : K.In h) (G : h.Ns mainGlobals mg) (c : SaysH w K) : DefAt (⟨P, w, K, mg, base⟩ : Wd) "_law_box" s_law_box ["_law_script", "_law_k"] := defAt (factn c 69 (d := ⟨fun K => He.ga K "_law_box", "_law_box", "_law_box", defArgs s_law_box, defBody s_law_box, defScope s_law_box, [], []⟩) rfl) (He.glo_ok X G (fact c 69 (f := .glo "_law_box") rfl)) (fun _ _ _ _ _ _ us hl => match us, hl with | [_, _], _ => rfl)
theorem ha_cal_row_in (X : K.In h) (G : h.Ns mainGlobals mg) (c : SaysH w K) : DefAt (⟨P, w, K, mg, base⟩ : Wd) "row_in" s_row_in ["words"] := defAt (factn c 37 (d := ⟨fun K => He.ga K "row_in", "row_in", "row_in", defArgs s_row_in, defBody s_row_in, defScope s_row_in, [], []⟩) rfl) (He.glo_ok X G (fact c 52 (f := .glo "row_in") rfl)) (fun _ _ _ _ _ _ us hl => match us, hl with | [_], _ => rfl)
theorem ha_cm_row_read (X : K.In h) (G : h.Ns mainGlobals mg) (c : SaysH w K) : CMethAt (⟨P, w, K, mg, base⟩ : Wd) (cRow ⟨P, w, K, mg, base⟩) "read" "Row.read" s_Row_read ["cls", "text"] := cmethAt (factn c 30 (d := ⟨fun K => He5.wf K (He.ga K "Row") "classmethod" "read", "read", "Row.read", defArgs s_Row_read, defBody s_Row_read, defScope s_Row_read, [], []⟩) rfl) (factx c 24 (f := readB "Row") rfl) (factx c 25 (f := wrapR "Row") rfl) (fun _ _ _ _ _ _ us hl => match us, hl with | [_, _], _ => rfl)
theorem ha_cal_are_names (X : K.In h) (G : h.Ns mainGlobals mg) (c : SaysH w K) : DefAt (⟨P, w, K, mg, base⟩ : Wd) "are_names" s_are_names ["value"] := defAt (factn c 38 (d := ⟨fun K => He.ga K "are_names", "are_names", "are_names", defArgs s_are_names, defBody s_are_names, defScope s_are_names, [], []⟩) rfl) (He.glo_ok X G (fact c 53 (f := .glo "are_names") rfl)) (fun _ _ _ _ _ _ us hl => match us, hl with | [_], _ => rfl)
theorem ha_cal_are_parts (X : K.In h) (G : h.Ns mainGlobals mg) (c : SaysH w K) : DefAt (⟨P, w, K, mg, base⟩ : Wd) "are_parts" s_are_parts ["value"] := defAt (factn c 39 (d := ⟨fun K => He.ga K "are_parts", "are_parts", "are_parts", defArgs s_are_parts, defBody s_are_parts, defScope s_are_parts, [], []⟩) rfl) (He.glo_ok X G (fact c 54 (f := .glo "are_parts") rfl)) (fun _ _ _ _ _ _ us hl => match us, hl with | [_], _ => rfl)
theorem ha_cal_fault_of (X : K.In h) (G : h.Ns mainGlobals mg) (c : SaysH w K) : DefAt (⟨P, w, K, mg, base⟩ : Wd) "fault_of" s_fault_of ["marks", "told", "parts", "clears", "rows"] := defAt (factn c 40 (d := ⟨fun K => He.ga K "fault_of", "fault_of", "fault_of", defArgs s_fault_of, defBody s_fault_of, defScope s_fault_of, [], []⟩) rfl) (He.glo_ok X G (fact c 55 (f := .glo "fault_of") rfl)) (fun _ _ _ _ _ _ us hl => match us, hl with | [_, _, _, _, _], _ => rfl)
theorem ha_mak_tool (X : K.In h) (G : h.Ns mainGlobals mg) (c : SaysH w K) : MakAt (⟨P, w, K, mg, base⟩ : Wd) "Tool" (cTool ⟨P, w, K, mg, base⟩) "Tool.__init__" s_Tool_init ["self", "marks", "told", "parts", "clears", "rows"] := makAt (factn c 44 (d := ⟨fun K => He.ma K (He.ga K "Tool") "__init__", "__init__", "Tool.__init__", defArgs s_Tool_init, defBody s_Tool_init, defScope s_Tool_init, [], []⟩) rfl) (He.mkr_ok (fact c 98 (f := .mkr "Tool") rfl)) (He.glo_ok X G (fact c 29 (f := .glo "Tool") rfl)) (fun _ _ _ _ _ _ us hl => match us, hl with | [_, _, _, _, _, _], _ => rfl)
theorem ha_cal_holds (X : K.In h) (G : h.Ns mainGlobals mg) (c : SaysH w K) : DefAt (⟨P, w, K, mg, base⟩ : Wd) "holds" s_holds ["test", "same"] := defAt (factn c 41 (d := ⟨fun K => He.ga K "holds", "holds", "holds", defArgs s_holds, defBody s_holds, defScope s_holds, [], []⟩) rfl) (He.glo_ok X G (fact c 56 (f := .glo "holds") rfl)) (fun _ _ _ _ _ _ us hl => match us, hl with | [_, _], _ => rfl)
theorem ha_met_told (X : K.In h) (G : h.Ns mainGlobals mg) (c : SaysH w K) : MethAt (⟨P, w, K, mg, base⟩ : Wd) (cTool ⟨P, w, K, mg, base⟩) "is_told" "Tool.is_told" s_Tool_is_told ["self", "mark"] := methAt (factn c 47 (d := ⟨fun K => He.ma K (He.ga K "Tool") "is_told", "is_told", "Tool.is_told", defArgs s_Tool_is_told, defBody s_Tool_is_told, defScope s_Tool_is_told, [], []⟩) rfl) (He.cls_ok (fact c 97 (f := .cls "Tool") rfl)) (He.meth_ok (fact c 138 (f := .meth "Tool" "is_told") rfl)) (fun _ _ _ _ _ _ us hl => match us, hl with | [_, _], _ => rfl)
theorem ha_met_need_mark (X : K.In h) (G : h.Ns mainGlobals mg) (c : SaysH w K) : MethAt (⟨P, w, K, mg, base⟩ : Wd) (cTool ⟨P, w, K, mg, base⟩) "need_mark" "Tool.need_mark" s_Tool_need_mark ["self", "mark"] := methAt (factn c 46 (d := ⟨fun K => He.ma K (He.ga K "Tool") "need_mark", "need_mark", "Tool.need_mark", defArgs s_Tool_need_mark, defBody s_Tool_need_mark, defScope s_Tool_need_mark, [], []⟩) rfl) (He.cls_ok (fact c 97 (f := .cls "Tool") rfl)) (He.meth_ok (fact c 137 (f := .meth "Tool" "need_mark") rfl)) (fun _ _ _ _ _ _ us hl => match us, hl with | [_, _], _ => rfl)
theorem ha_met_ran (X : K.In h) (G : h.Ns mainGlobals mg) (c : SaysH w K) : MethAt (⟨P, w, K, mg, base⟩ : Wd) (cTool ⟨P, w, K, mg, base⟩) "ran" "Tool.ran" s_Tool_ran ["self", "mark"] := methAt (factn c 48 (d := ⟨fun K => He.ma K (He.ga K "Tool") "ran", "ran", "Tool.ran", defArgs s_Tool_ran, defBody s_Tool_ran, defScope s_Tool_ran, [], []⟩) rfl) (He.cls_ok (fact c 97 (f := .cls "Tool") rfl)) (He.meth_ok (fact c 139 (f := .meth "Tool" "ran") rfl)) (fun _ _ _ _ _ _ us hl => match us, hl with | [_, _], _ => rfl)
theorem ha_met_led (X : K.In h) (G : h.Ns mainGlobals mg) (c : SaysH w K) : MethAt (⟨P, w, K, mg, base⟩ : Wd) (cTool ⟨P, w, K, mg, base⟩) "led" "Tool.led" s_Tool_led ["self", "mark", "same"] := methAt (factn c 49 (d := ⟨fun K => He.ma K (He.ga K "Tool") "led", "led", "Tool.led", defArgs s_Tool_led, defBody s_Tool_led, defScope s_Tool_led, [], []⟩) rfl) (He.cls_ok (fact c 97 (f := .cls "Tool") rfl)) (He.meth_ok (fact c 140 (f := .meth "Tool" "led") rfl)) (fun _ _ _ _ _ _ us hl => match us, hl with | [_, _, _], _ => rfl)
theorem ha_met_joined (X : K.In h) (G : h.Ns mainGlobals mg) (c : SaysH w K) : MethAt (⟨P, w, K, mg, base⟩ : Wd) (cTool ⟨P, w, K, mg, base⟩) "joined" "Tool.joined" s_Tool_joined ["self", "here", "came"] := methAt (factn c 50 (d := ⟨fun K => He.ma K (He.ga K "Tool") "joined", "joined", "Tool.joined", defArgs s_Tool_joined, defBody s_Tool_joined, defScope s_Tool_joined, [], []⟩) rfl) (He.cls_ok (fact c 97 (f := .cls "Tool") rfl)) (He.meth_ok (fact c 141 (f := .meth "Tool" "joined") rfl)) (fun _ _ _ _ _ _ us hl => match us, hl with | [_, _, _], _ => rfl)
theorem ha_met_keeps (X : K.In h) (G : h.Ns mainGlobals mg) (c : SaysH w K) : MethAt (⟨P, w, K, mg, base⟩ : Wd) (cTool ⟨P, w, K, mg, base⟩) "keeps" "Tool.keeps" s_Tool_keeps ["self", "same"] := methAt (factn c 51 (d := ⟨fun K => He.ma K (He.ga K "Tool") "keeps", "keeps", "Tool.keeps", defArgs s_Tool_keeps, defBody s_Tool_keeps, defScope s_Tool_keeps, [], []⟩) rfl) (He.cls_ok (fact c 97 (f := .cls "Tool") rfl)) (He.meth_ok (fact c 142 (f := .meth "Tool" "keeps") rfl)) (fun _ _ _ _ _ _ us hl => match us, hl with | [_, _], _ => rfl)
theorem ha_cal_heeding_row (X : K.In h) (G : h.Ns mainGlobals mg) (c : SaysH w K) : DefAt (⟨P, w, K, mg, base⟩ : Wd) "heeding_row" s_heeding_row ["row", "parts"] := defAt (factn c 42 (d := ⟨fun K => He.ga K "heeding_row", "heeding_row", "heeding_row", defArgs s_heeding_row, defBody s_heeding_row, defScope s_heeding_row, [], []⟩) rfl) (He.glo_ok X G (fact c 57 (f := .glo "heeding_row") rfl)) (fun _ _ _ _ _ _ us hl => match us, hl with | [_, _], _ => rfl)
theorem ha_met_need_row (X : K.In h) (G : h.Ns mainGlobals mg) (c : SaysH w K) : MethAt (⟨P, w, K, mg, base⟩ : Wd) (cTool ⟨P, w, K, mg, base⟩) "need_row" "Tool.need_row" s_Tool_need_row ["self", "at"] := methAt (factn c 52 (d := ⟨fun K => He.ma K (He.ga K "Tool") "need_row", "need_row", "Tool.need_row", defArgs s_Tool_need_row, defBody s_Tool_need_row, defScope s_Tool_need_row, [], []⟩) rfl) (He.cls_ok (fact c 97 (f := .cls "Tool") rfl)) (He.meth_ok (fact c 143 (f := .meth "Tool" "need_row") rfl)) (fun _ _ _ _ _ _ us hl => match us, hl with | [_, _], _ => rfl)
theorem ha_met_but (X : K.In h) (G : h.Ns mainGlobals mg) (c : SaysH w K) : MethAt (⟨P, w, K, mg, base⟩ : Wd) (cTool ⟨P, w, K, mg, base⟩) "but" "Tool.but" s_Tool_but ["self", "rows"] := methAt (factn c 53 (d := ⟨fun K => He.ma K (He.ga K "Tool") "but", "but", "Tool.but", defArgs s_Tool_but, defBody s_Tool_but, defScope s_Tool_but, [], []⟩) rfl) (He.cls_ok (fact c 97 (f := .cls "Tool") rfl)) (He.meth_ok (fact c 144 (f := .meth "Tool" "but") rfl)) (fun _ _ _ _ _ _ us hl => match us, hl with | [_, _], _ => rfl)
theorem ha_met_without (X : K.In h) (G : h.Ns mainGlobals mg) (c : SaysH w K) : MethAt (⟨P, w, K, mg, base⟩ : Wd) (cTool ⟨P, w, K, mg, base⟩) "without" "Tool.without" s_Tool_without ["self", "at"] := methAt (factn c 54 (d := ⟨fun K => He.ma K (He.ga K "Tool") "without", "without", "Tool.without", defArgs s_Tool_without, defBody s_Tool_without, defScope s_Tool_without, [], []⟩) rfl) (He.cls_ok (fact c 97 (f := .cls "Tool") rfl)) (He.meth_ok (fact c 145 (f := .meth "Tool" "without") rfl)) (fun _ _ _ _ _ _ us hl => match us, hl with | [_, _], _ => rfl)
theorem ha_met_heeding (X : K.In h) (G : h.Ns mainGlobals mg) (c : SaysH w K) : MethAt (⟨P, w, K, mg, base⟩ : Wd) (cTool ⟨P, w, K, mg, base⟩) "heeding" "Tool.heeding" s_Tool_heeding ["self", "parts"] := methAt (factn c 55 (d := ⟨fun K => He.ma K (He.ga K "Tool") "heeding", "heeding", "Tool.heeding", defArgs s_Tool_heeding, defBody s_Tool_heeding, defScope s_Tool_heeding, [], []⟩) rfl) (He.cls_ok (fact c 97 (f := .cls "Tool") rfl)) (He.meth_ok (fact c 146 (f := .meth "Tool" "heeding") rfl)) (fun _ _ _ _ _ _ us hl => match us, hl with | [_, _], _ => rfl)
theorem ha_met_len (X : K.In h) (G : h.Ns mainGlobals mg) (c : SaysH w K) : MethAt (⟨P, w, K, mg, base⟩ : Wd) (cTool ⟨P, w, K, mg, base⟩) "__len__" "Tool.__len__" s_Tool_len ["self"] := methAt (factn c 56 (d := ⟨fun K => He.ma K (He.ga K "Tool") "__len__", "__len__", "Tool.__len__", defArgs s_Tool_len, defBody s_Tool_len, defScope s_Tool_len, [], []⟩) rfl) (He.cls_ok (fact c 97 (f := .cls "Tool") rfl)) (He.meth_ok (fact c 147 (f := .meth "Tool" "__len__") rfl)) (fun _ _ _ _ _ _ us hl => match us, hl with | [_], _ => rfl)
theorem atC (X : K.In h) (G : h.Ns mainGlobals mg) (c : SaysH w K) : AtC ⟨P, w, K, mg, base⟩ where
  b := hBlt X G c
  wo := hWords X G c
  rc := hRowC X G c
  rk := hRowK X G c
  tc := hToolC X G c
  sc := hSends X G c
  ec := hEight X G c
  si := hSingle X G c
  pc := hPair X G c
  wc := hWays X G c
  mc := hMeet X G c
  ne := hNe X G c
  a_cal_take := ha_cal_take X G c
  a_cal_pick := ha_cal_pick X G c
  a_cal_is_name := ha_cal_is_name X G c
  a_cal_is_sequence := ha_cal_is_sequence X G c
  a_cal_is_word := ha_cal_is_word X G c
  a_cal_are_unlike := ha_cal_are_unlike X G c
  a_met_tool_str := ha_met_tool_str X G c
  a_met_tool_eq := ha_met_tool_eq X G c
  a_cal_is_row := ha_cal_is_row X G c
  a_cal_words_behind := ha_cal_words_behind X G c
  a_cal_is_fit := ha_cal_is_fit X G c
  a_cal_fault_in := ha_cal_fault_in X G c
  a_cm_tool_read := ha_cm_tool_read X G c
  a_cal_machine_elders := ha_cal_machine_elders X G c
  a_met_edited := ha_met_edited X G c
  a_met_heard := ha_met_heard X G c
  a_mak_ways := ha_mak_ways X G c
  a_mak_single := ha_mak_single X G c
  a_met_single_led := ha_met_single_led X G c
  a_met_single_joined := ha_met_single_joined X G c
  a_met_single_steps := ha_met_single_steps X G c
  a_cal_is_old_mark := ha_cal_is_old_mark X G c
  a_cal_part_of := ha_cal_part_of X G c
  a_cal_are_tests := ha_cal_are_tests X G c
  a_cal_names_among := ha_cal_names_among X G c
  a_mak_pair := ha_mak_pair X G c
  a_met_pair_led := ha_met_pair_led X G c
  a_met_pair_joined := ha_met_pair_joined X G c
  a_met_pair_steps := ha_met_pair_steps X G c
  a_cal_falls := ha_cal_falls X G c
  a_cal_disordering := ha_cal_disordering X G c
  a_cal_doubling := ha_cal_doubling X G c
  a_mak_meeting := ha_mak_meeting X G c
  a_cal_met_at := ha_cal_met_at X G c
  a_cal_least := ha_cal_least X G c
  a_cal_faults := ha_cal_faults X G c
  a_cal_need_fault := ha_cal_need_fault X G c
  a_cal_fewest := ha_cal_fewest X G c
  a_cal_least_parting := ha_cal_least_parting X G c
  a_cal_alike := ha_cal_alike X G c
  a_cal_need_all := ha_cal_need_all X G c
  a_cal_happening := ha_cal_happening X G c
  a_cal_choices := ha_cal_choices X G c
  a_cal_least_parts := ha_cal_least_parts X G c
  a_cal_needless := ha_cal_needless X G c
  a_cal_shuffled := ha_cal_shuffled X G c
  a_cal_words := ha_cal_words X G c
  a_mak_run := ha_mak_run X G c
  a_mak_lead := ha_mak_lead X G c
  a_mak_join := ha_mak_join X G c
  a_met_run_str := ha_met_run_str X G c
  a_met_lead_str := ha_met_lead_str X G c
  a_met_join_str := ha_met_join_str X G c
  a_cal_law_tool := ha_cal_law_tool X G c
  a_cal_law_text := ha_cal_law_text X G c
  a_cal_law_fw := ha_cal_law_fw X G c
  a_cal_law_made := ha_cal_law_made X G c
  a_cal_law_wider := ha_cal_law_wider X G c
  a_cal_lists := ha_cal_lists X G c
  a_cal_law_box := ha_cal_law_box X G c
  a_cal_row_in := ha_cal_row_in X G c
  a_cm_row_read := ha_cm_row_read X G c
  a_cal_are_names := ha_cal_are_names X G c
  a_cal_are_parts := ha_cal_are_parts X G c
  a_cal_fault_of := ha_cal_fault_of X G c
  a_mak_tool := ha_mak_tool X G c
  a_cal_holds := ha_cal_holds X G c
  a_met_told := ha_met_told X G c
  a_met_need_mark := ha_met_need_mark X G c
  a_met_ran := ha_met_ran X G c
  a_met_led := ha_met_led X G c
  a_met_joined := ha_met_joined X G c
  a_met_keeps := ha_met_keeps X G c
  a_cal_heeding_row := ha_cal_heeding_row X G c
  a_met_need_row := ha_met_need_row X G c
  a_met_but := ha_met_but X G c
  a_met_without := ha_met_without X G c
  a_met_heeding := ha_met_heeding X G c
  a_met_len := ha_met_len X G c
theorem law_at (X : K.In h) (G : h.Ns mainGlobals mg) {f : Addr} (hfa : mg ("law" : Str) = some (.ref f)) (c : SaysH w K) :
    ∃ fd : FuncData, (∀ (s : Shared) (v : Value), BindsTo s fd ⟨[v], []⟩ [("_law_script", v)]) ∧ ∀ base : Heap, K.In base → base.Ns mainGlobals mg → FnOk P w K mg base CX0 12 f fd ["_law_script"] (Pure (preLaw ⟨P, w, K, mg, base⟩)) := by
  have F0 : FunH K "law" "law" s_law (He.ga K "law") := (factn c 79 (d := ⟨fun K => He.ga K "law", "law", "law", defArgs s_law, defBody s_law, defScope s_law, [], []⟩) rfl)
  obtain ⟨fd, F⟩ := F0
  have e := hfa.symm.trans (He.glo_ok X G (fact c 79 (f := .glo "law") rfl))
  cases e
  have b := FunD.bindsA (ps := ["_law_script"]) F (fun _ _ _ _ _ _ us hl => match us, hl with | [_], _ => rfl)
  exact ⟨fd, fun s v => b s [v] rfl, fun base _ _ => fn_law (W := ⟨P, w, K, mg, base⟩) (He5.fun_of F) (lawC (atC X G c))⟩
end
end LM

set_option maxHeartbeats 0
open PySem PySem.W PySem.Calls PyProof.Rows
theorem PySem.Challenge.cw_ledmarks_k55_whole_rows_that_mean_nothin_holds : PySem.Challenge.rw_ledmarks_k55_whole_rows_that_mean_nothin.Holds := by
  w_on; o_law
  refine HandSHeadRun.head_any (r := OpenLaw.row PySem.Challenge.rw_ledmarks_k55_whole_rows_that_mean_nothin) (q := LM.qvH) (H := LM.hookH) (ob := LM.obH) (M := 8000) (loose := LM.namesH) (d := HandSHeadRun.topDef (OpenLaw.row PySem.Challenge.rw_ledmarks_k55_whole_rows_that_mean_nothin).prog 80) (kwd := []) LM.obH_eq
    (by kernel_rfl) (fun s => by kernel_rfl) LM.runH (by kernel_rfl) (by kernel_rfl) (by kernel_rfl) (by rfl) (by first | assumption | decide +kernel) (by decide +kernel) ⟨rfl, rfl, rfl, rfl, rfl, by decide +kernel⟩ ?hw ?hc
  case hw => w_witness2
  case hc =>
    refine L2.walk_ofE (l := PySem.Challenge.rw_ledmarks_k55_whole_rows_that_mean_nothin) (n := 63) (k := 12) (x := "_law_script") (CX := L2.CX0) rfl (by decide) (by kernel_rfl) ⟨rfl, by decide, by decide⟩ ?F (fun _ _ _ _ z => z)
    intro w mg fa h Y G hmg0
    obtain ⟨K, KX, c⟩ := Y
    have hmg : mg ("law" : PySem.Str) = some (.ref fa) := by
      have e : (HandSHeadRun.topDef (OpenLaw.row PySem.Challenge.rw_ledmarks_k55_whole_rows_that_mean_nothin).prog 80).name = ("law" : PySem.Str) := by kernel_rfl
      rw [← e]
      exact hmg0
    obtain ⟨fd, hb, hF⟩ := LM.law_at (P := (PySem.Challenge.rw_ledmarks_k55_whole_rows_that_mean_nothin).prog) (w := w) KX G hmg c
    exact ⟨K, fd, LM.Pure (LM.preLaw ⟨(PySem.Challenge.rw_ledmarks_k55_whole_rows_that_mean_nothin).prog, w, K, mg, h⟩), KX, hb, fun H a ns hl _ hS => ⟨LM.Is (.bl true), ⟨a, ns, rfl, hS, rfl⟩, fun v H' _ r => r⟩, hF⟩

