import PyProof.Rows.All
import Wide.All
import OpenK.AllK
import Wide.FinOn
import HandS.ForMost
import HandS.Evl
import HandS.IsInst
import HandS.Conv
import HandS.Zip
import HandS.Flow
import HandS.Defaults
import HandS.Star
import HandS.DictComp
import HandS.Style
import HandS.Deep
import HandS.NoneIn
import HandS.WideBits
import KE.SortData
import KE.DatumOrd
import KE.DatumMore
import HandS.TupSets
import HandS.SetFor
import PyProof.ReprRoads
import HandS.Codes
import KE.KStateDown
import HandS.Head0
import HandS.Head1
import HandS.Head2
import HandS.HeadHook1
import HandS.HeadHook2
import KE.KDictPairs
import KE.GoesEnum
import HandS.TupAny
import PyProof.DictUpdate
import PySem.Challenge.RW_lookmade_k63_whole_nothing_to_learn_of_w
section
set_option Elab.async false
set_option linter.all false
set_option maxRecDepth 100000
set_option maxHeartbeats 4000000
/-! The base of this proof: data that never changes (Im), what an expression evaluates to (EvP). -/
namespace Lk
open PySem PySem.Spec PyProof.Rows L2 Evl

/-- a tuple, its object known: it has no dict -/
def Tz (H : Hp) (a : Addr) (xs : List V) : Prop := ∃ o : Obj, o.dict = none ∧ H a = some (.frz o (.tup xs))
theorem Tz.up {H H' : Hp} {a : Addr} {xs : List V} (e : Ex H H') (h : Tz H a xs) : Tz H' a xs := by
  obtain ⟨o, d, z⟩ := h
  exact ⟨o, d, e _ _ z⟩
theorem Tz.sq {K : PySem.W.Frag} {H : Hp} {a : Addr} {xs : List V} (h : Tz H a xs) : SqT K H a xs := by
  obtain ⟨o, _, z⟩ := h
  exact .inl (.inr ⟨o, z⟩)
theorem Tz.new {H : Hp} {p : Addr} {o : Obj} {xs : List V} (h : o.dict = none) : Tz (upd H p (.frz o (.tup xs))) p xs := ⟨o, h, upd_same⟩
theorem Tz.ty {K : PySem.W.Frag} {H : Hp} {a : Addr} {xs : List V} (h : Tz H a xs) : TyX K H (.ref a) (.type "tuple") := by
  obtain ⟨o, _, z⟩ := h
  exact .fTuple z
def Tx (H H' : Hp) : Prop := ∀ a xs, Tz H a xs → Tz H' a xs
theorem Tx.refl (H : Hp) : Tx H H := fun _ _ h => h
theorem Tx.trans {H H1 H2 : Hp} (a : Tx H H1) (b : Tx H1 H2) : Tx H H2 := fun x o h => b x o (a x o h)
theorem Tx.of {H H' : Hp} (e : Ex H H') : Tx H H' := fun _ _ h => h.up e
/-- a new object, or one that is no tuple, is written -/
theorem Tx.upd {H : Hp} {p : Addr} {o : HO} (h : ∀ xs, ¬ Tz H p xs) : Tx H (upd H p o) := fun a xs e => by
  have n : a ≠ p := fun z => h xs (z ▸ e)
  obtain ⟨ob, d, z⟩ := e
  exact ⟨ob, d, by rw [upd_ne n]; exact z⟩
theorem Tx.lst {H : Hp} {p : Addr} {o : HO} {ys : List V} (h : H p = some (.lst ys)) : Tx H (L2.upd H p o) := Tx.upd fun xs ⟨_, _, z⟩ => by
  rw [h] at z
  cases z
theorem Tx.dic {H : Hp} {p : Addr} {o : HO} {ys : List (Key × V)} (h : H p = some (.dK ys)) : Tx H (L2.upd H p o) := Tx.upd fun xs ⟨_, _, z⟩ => by
  rw [h] at z
  cases z
theorem Tx.new {H : Hp} {p : Addr} {o : HO} (h : H p = none) : Tx H (L2.upd H p o) := Tx.upd fun xs ⟨_, _, z⟩ => by
  rw [h] at z
  cases z

mutual
/-- data that never changes: ints, bools, texts, tuples of such -/
inductive Im (H : Hp) : V → PyData → Prop
  | non : Im H .non .none
  | bl (b : Bool) : Im H (.bl b) (.bool b)
  | int (i : Int) : Im H (.int i) (.int i)
  | str (x : Str) : Im H (.str x) (.str x)
  | tup {a : Addr} {xs : List V} {ds : List PyData} : Tz H a xs → ImAll H xs ds → Im H (.ref a) (.tuple ds)
inductive ImAll (H : Hp) : List V → List PyData → Prop
  | nil : ImAll H [] []
  | cons {v : V} {vs : List V} {d : PyData} {ds : List PyData} : Im H v d → ImAll H vs ds → ImAll H (v :: vs) (d :: ds)
end
mutual
theorem Im.mv {H H' : Hp} (e : Tx H H') : ∀ {v : V} {d : PyData}, Im H v d → Im H' v d
  | _, _, .non => .non
  | _, _, .bl b => .bl b
  | _, _, .int i => .int i
  | _, _, .str x => .str x
  | _, _, .tup h r => .tup (e _ _ h) (ImAll.mv e r)
theorem ImAll.mv {H H' : Hp} (e : Tx H H') : ∀ {vs : List V} {ds : List PyData}, ImAll H vs ds → ImAll H' vs ds
  | _, _, .nil => .nil
  | _, _, .cons h r => .cons (Im.mv e h) (ImAll.mv e r)
end
mutual
theorem Im.dp {K : PySem.W.Frag} {H : Hp} : ∀ {v : V} {d : PyData}, Im H v d → Dp K H v d
  | _, _, .non => .non
  | _, _, .bl b => .bl b
  | _, _, .int i => .int i
  | _, _, .str x => .str x
  | _, _, .tup h r => .tup h.sq (ImAll.dp r)
theorem ImAll.dp {K : PySem.W.Frag} {H : Hp} : ∀ {vs : List V} {ds : List PyData}, ImAll H vs ds → DpAll K H vs ds
  | _, _, .nil => .nil
  | _, _, .cons h r => .cons (Im.dp h) (ImAll.dp r)
end
theorem Im.up {H H' : Hp} {v : V} {d : PyData} (h : Im H v d) (e : Ex H H') : Im H' v d := h.mv (Tx.of e)
theorem ImAll.up {H H' : Hp} {vs : List V} {ds : List PyData} (h : ImAll H vs ds) (e : Ex H H') : ImAll H' vs ds := h.mv (Tx.of e)
section
variable {H : Hp} {v : V} {vs ws : List V} {ds es : List PyData}
theorem ImAll.len : ∀ {vs : List V} {ds : List PyData}, ImAll H vs ds → vs.length = ds.length
  | _, _, .nil => rfl
  | _, _, .cons _ r => by rw [List.length_cons, List.length_cons, ImAll.len r]
theorem ImAll.app : ∀ {vs : List V} {ds : List PyData}, ImAll H vs ds → ImAll H ws es → ImAll H (vs ++ ws) (ds ++ es)
  | _, _, .nil, q => q
  | _, _, .cons h r, q => .cons h (ImAll.app r q)
theorem ImAll.get : ∀ {vs : List V} {ds : List PyData} {i : Nat} {x : V}, ImAll H vs ds → vs[i]? = some x → ∃ d, ds[i]? = some d ∧ Im H x d
  | _, _, _, _, .nil, e => by simp at e
  | _, _, 0, _, .cons h _, e => by simp at e; subst e; exact ⟨_, rfl, h⟩
  | _, _, i + 1, x, .cons _ t, e => by
    obtain ⟨d, h1, h2⟩ := ImAll.get (i := i) (x := x) t (by simpa using e)
    exact ⟨d, by simpa using h1, h2⟩
theorem ImAll.got : ∀ {vs : List V} {ds : List PyData} {i : Nat} {d : PyData}, ImAll H vs ds → ds[i]? = some d → ∃ x, vs[i]? = some x ∧ Im H x d
  | _, _, _, _, .nil, e => by simp at e
  | _, _, 0, _, .cons h _, e => by simp at e; subst e; exact ⟨_, rfl, h⟩
  | _, _, i + 1, x, .cons _ t, e => by
    obtain ⟨d, h1, h2⟩ := ImAll.got (i := i) (d := x) t (by simpa using e)
    exact ⟨d, by simpa using h1, h2⟩
theorem ImAll.take : ∀ {vs : List V} {ds : List PyData} (n : Nat), ImAll H vs ds → ImAll H (vs.take n) (ds.take n)
  | _, _, 0, _ => by simp only [List.take_zero]; exact .nil
  | _, _, _ + 1, .nil => .nil
  | _, _, n + 1, .cons h r => .cons h (ImAll.take n r)
theorem ImAll.drop : ∀ {vs : List V} {ds : List PyData} (n : Nat), ImAll H vs ds → ImAll H (vs.drop n) (ds.drop n)
  | _, _, 0, r => r
  | _, _, _ + 1, .nil => .nil
  | _, _, n + 1, .cons _ r => ImAll.drop n r
theorem ImAll.rev : ∀ {vs : List V} {ds : List PyData}, ImAll H vs ds → ImAll H vs.reverse ds.reverse
  | _, _, .nil => .nil
  | _, _, .cons h r => by
    rw [List.reverse_cons, List.reverse_cons]
    exact (ImAll.rev r).app (.cons h .nil)
theorem Im.isInt {i : Int} (h : Im H v (.int i)) : v = .int i := by cases h; rfl
theorem Im.isBl {b : Bool} (h : Im H v (.bool b)) : v = .bl b := by cases h; rfl
theorem Im.isStr {x : Str} (h : Im H v (.str x)) : v = .str x := by cases h; rfl
theorem Im.isTup (h : Im H v (.tuple ds)) : ∃ a xs, v = .ref a ∧ Tz H a xs ∧ ImAll H xs ds := by
  cases h with
  | tup h r => exact ⟨_, _, rfl, h, r⟩
theorem ImAll.ints : ∀ {vs : List V} {ns : List Int}, ImAll H vs (ns.map .int) → vs = ns.map V.int
  | [], [], _ => rfl
  | [], _ :: _, h => nomatch h
  | _ :: _, [], h => nomatch h
  | _ :: _, _ :: _, h => by
    cases h with
    | cons h r => rw [List.map_cons, Im.isInt h, ImAll.ints r]
theorem imInts : ∀ ns : List Int, ImAll H (ns.map V.int) (ns.map .int)
  | [] => .nil
  | n :: r => .cons (.int n) (imInts r)
theorem ImAll.bls : ∀ {vs : List V} {bs : List Bool}, ImAll H vs (bs.map .bool) → vs = bs.map V.bl
  | [], [], _ => rfl
  | [], _ :: _, h => nomatch h
  | _ :: _, [], h => nomatch h
  | _ :: _, _ :: _, h => by
    cases h with
    | cons h r => rw [List.map_cons, Im.isBl h, ImAll.bls r]
theorem ImAll.one {d : PyData} (h : ImAll H vs [d]) : ∃ v, vs = [v] ∧ Im H v d := by
  cases h with
  | cons h r => cases r; exact ⟨_, rfl, h⟩
theorem ImAll.two {d e : PyData} (h : ImAll H vs [d, e]) : ∃ v w, vs = [v, w] ∧ Im H v d ∧ Im H w e := by
  cases h with
  | cons h r => obtain ⟨w, rfl, q⟩ := ImAll.one r; exact ⟨_, w, rfl, h, q⟩
end

/-- a pair, of data -/
def Pr (K : PySem.W.Frag) (H : Hp) (x : V) (d e : PyData) : Prop := ∃ p u w, x = .ref p ∧ SqT K H p [u, w] ∧ Im H u d ∧ Im H w e
theorem Pr.of {K : PySem.W.Frag} {H : Hp} {x : V} {d e : PyData} (h : Im H x (.tuple [d, e])) : Pr K H x d e := by
  obtain ⟨p, xs, rfl, t, im⟩ := h.isTup
  obtain ⟨u, w, rfl, i1, i2⟩ := im.two
  exact ⟨p, u, w, rfl, t.sq, i1, i2⟩
/-! ### what an expression evaluates to: P is to stay when the heap grows -/
abbrev VP := V → Hp → Prop
def Mono (P : VP) : Prop := ∀ v H H', Ex H H' → P v H → P v H'
def EvP (te : TE) (σ : L2.St) (H : Hp) (P : VP) : Prop := ∀ H1, Ex H H1 → ∀ Q : VK, (∀ v H2, Ex H1 H2 → P v H2 → Q v H2) → te σ H1 Q
/-- data; a list of data; a list or tuple of data -/
abbrev vI (d : PyData) : VP := fun v H => Im H v d
def vL (ds : List PyData) : VP := fun v H => ∃ p xs, v = .ref p ∧ H p = some (.lst xs) ∧ ImAll H xs ds
def vS (ds : List PyData) : VP := fun v H => ∃ p xs, v = .ref p ∧ (H p = some (.lst xs) ∨ Tz H p xs) ∧ ImAll H xs ds
def vE (v0 : V) : VP := fun v _ => v = v0
theorem mI (d : PyData) : Mono (vI d) := fun _ _ _ e h => Im.up h e
theorem mL (ds : List PyData) : Mono (vL ds) := fun _ _ _ e h => by
  obtain ⟨p, xs, a, b, c⟩ := h
  exact ⟨p, xs, a, e _ _ b, c.up e⟩
theorem mS (ds : List PyData) : Mono (vS ds) := fun _ _ _ e h => by
  obtain ⟨p, xs, a, b, c⟩ := h
  exact ⟨p, xs, a, b.imp (e _ _) (Tz.up e), c.up e⟩
theorem vS_I {v : V} {H : Hp} {ds : List PyData} (h : vI (.tuple ds) v H) : vS ds v H := by
  obtain ⟨a, xs, rfl, b, c⟩ := Im.isTup h
  exact ⟨a, xs, rfl, .inr b, c⟩
theorem vS_L {v : V} {H : Hp} {ds : List PyData} (h : vL ds v H) : vS ds v H := by
  obtain ⟨a, xs, rfl, b, c⟩ := h
  exact ⟨a, xs, rfl, .inl b, c⟩
section
variable {σ : L2.St} {H H' : Hp} {te ta tb : TE} {tt tu : TT} {P R : VP} {d e : PyData} {i j : Int}
theorem EvP.up (h : EvP te σ H P) (x : Ex H H') : EvP te σ H' P := fun H1 e Q q => h H1 (x.trans e) Q q
theorem EvP.imp (h : EvP te σ H P) (f : ∀ v H1, Ex H H1 → P v H1 → R v H1) : EvP te σ H R := fun H1 e Q q => h H1 e Q fun v H2 e2 p => q v H2 e2 (f v H2 (e.trans e2) p)
theorem EvP.ev {v : V} (h : EvP te σ H (vE v)) : Ev te σ H v := fun H1 e Q q => h H1 e Q fun v H2 e2 p => by
  cases p
  exact q H2 e2
theorem epE {v : V} (h : Ev te σ H v) : EvP te σ H (vE v) := fun H1 e Q q => h H1 e Q fun H2 e2 => q v H2 e2 rfl
theorem ep_of {v : V} (h : Ev te σ H v) (m : Mono P) (p : P v H) : EvP te σ H P := fun H1 e Q q => h H1 e Q fun H2 e2 => q v H2 e2 (m _ _ _ (e.trans e2) p)
theorem ep_var {k : Nat} {v : V} (h : σ[k]? = some (some v)) (m : Mono P) (p : P v H) : EvP (tVar k) σ H P := ep_of (ev_var h) m p
theorem ei_var {k : Nat} {v : V} (h : σ[k]? = some (some v)) (p : Im H v d) : EvP (tVar k) σ H (vI d) := ep_var h (mI d) p
theorem ei_int (h : EvP te σ H (vI (.int i))) : Ev te σ H (.int i) := fun H1 e Q q => h H1 e Q fun v H2 e2 p => by
  cases Im.isInt p
  exact q H2 e2
theorem ei_bl {b : Bool} (h : EvP te σ H (vI (.bool b))) : Ev te σ H (.bl b) := fun H1 e Q q => h H1 e Q fun v H2 e2 p => by
  cases Im.isBl p
  exact q H2 e2
theorem ei_str {b : Str} (h : EvP te σ H (vI (.str b))) : Ev te σ H (.str b) := fun H1 e Q q => h H1 e Q fun v H2 e2 p => by
  cases Im.isStr p
  exact q H2 e2
theorem eiI (h : Ev te σ H (.int i)) : EvP te σ H (vI (.int i)) := ep_of h (mI _) (.int i)
theorem eiB {b : Bool} (h : Ev te σ H (.bl b)) : EvP te σ H (vI (.bool b)) := ep_of h (mI _) (.bl b)
/-- arguments -/
abbrev AV := List V → Hp → Prop
def EvAs (ta : TA) (σ : L2.St) (H : Hp) (P : AV) : Prop := ∀ H1, Ex H H1 → ∀ Q : List V → Hp → Prop, (∀ vs H2, Ex H1 H2 → P vs H2 → Q vs H2) → ta σ H1 Q
def aN : AV := fun vs _ => vs = []
def aC (P : VP) (A : AV) : AV := fun vs H => ∃ v ws, vs = v :: ws ∧ P v H ∧ A ws H
theorem ea0 : EvAs tNil σ H aN := fun H1 _ Q q => q [] H1 (Ex.refl _) rfl
theorem ea1 {tr : TA} {A : AV} (m : Mono P) (h : EvP te σ H P) (hr : EvAs tr σ H A) : EvAs (tCons te tr) σ H (aC P A) := fun H1 e Q q =>
  h H1 e _ fun v H2 e2 p => hr H2 (e.trans e2) _ fun vs H3 e3 a => q _ H3 (e2.trans e3) ⟨v, vs, rfl, m _ _ _ e3 p, a⟩
/-- a call of an own def, by its promise -/
def SpP (sp : Sp) (vs : List V) (H : Hp) (P : VP) : Prop := ∀ Q : VK, (∀ v H2, Ex H H2 → P v H2 → Q v H2) → ∀ E : XK, sp vs H Q E
theorem ep_call {sp : Sp} {A : AV} {E : XK} {ta : TA} (h : EvAs ta σ H A) (hs : ∀ vs H1, Ex H H1 → A vs H1 → SpP sp vs H1 P) : EvP (tCall sp [] E ta) σ H P := fun H1 e Q q =>
  h H1 e _ fun vs H2 e2 a => by
    show sp (vs ++ []) H2 Q E
    rw [List.append_nil]
    exact hs vs H2 (e.trans e2) a Q (fun v H3 e3 p => q v H3 (e2.trans e3) p) E
def tTupZ (t : TA) : TE := fun σ H Q => t σ H fun xs H1 => xs.length ≤ sizeLine ∧ ∀ (p : Addr) (o : Obj), o.dict = none → H1 p = none → Q (.ref p) (upd H1 p (.frz o (.tup xs)))
theorem pe_tupZ {X : Cx} {es : List Expr} {t : TA} {x1 pos} (h : PA X es t) : PE X (.Tuple es x1 pos) (tTupZ t) := by
  constructor
  intro pins s σ H Q I want
  refine wpAny_Tuple_spliced (thn (h.run pos pins s σ H _ I want) fun us s1 w => ?_)
  obtain ⟨xs, H1, I1, r, z, q⟩ := w
  have free : H1 s1.heap.objs.size = none := I1.hok.fresh (Nat.le_refl _)
  refine ⟨by rw [← r.length]; exact z, ?_⟩
  have hg := Heap.get?_push_size s1.heap (o := ({ cls := .type "tuple", data := .seq us.toArray } : Obj)) rfl
  refine ⟨.ref s1.heap.objs.size, upd H1 s1.heap.objs.size (.frz { cls := .type "tuple", data := .seq us.toArray } (.tup xs)), I1.laid (t' := s1.toks) (fun b u e => Heap.get?_push_of_some _ e) (Nat.le_refl _) ?_, rfl, q _ _ rfl free⟩
  exact ⟨hg, z, us, r, ⟨_, hg, rfl, _, rfl⟩⟩
theorem ep_tup {ta : TA} {ds : List PyData} (h : EvAs ta σ H (fun vs H => ImAll H vs ds)) (hl : ds.length ≤ 100000) : EvP (tTupZ ta) σ H (vI (.tuple ds)) := fun H1 e Q q =>
  h H1 e _ fun vs H2 e2 a => ⟨by rw [a.len]; exact sz_of hl, fun p o d hp => q _ _ (e2.trans (Ex.new hp)) (.tup (Tz.new d) (a.mv (Tx.new hp)))⟩
theorem ep_lst {ta : TA} {ds : List PyData} (h : EvAs ta σ H (fun vs H => ImAll H vs ds)) (hl : ds.length ≤ 100000) : EvP (tLst ta) σ H (vL ds) := fun H1 e Q q =>
  h H1 e _ fun vs H2 e2 a => ⟨by rw [a.len]; exact sz_of hl, fun p hp => q _ _ (e2.trans (Ex.new hp)) ⟨p, _, rfl, upd_same, a.mv (Tx.new hp)⟩⟩
theorem ea_nil : EvAs tNil σ H (fun vs H => ImAll H vs []) := fun H1 _ Q q => q [] H1 (Ex.refl _) .nil
theorem ea_cons {tr : TA} {ds : List PyData} (h : EvP te σ H (vI d)) (hr : EvAs tr σ H (fun vs H => ImAll H vs ds)) : EvAs (tCons te tr) σ H (fun vs H => ImAll H vs (d :: ds)) := fun H1 e Q q =>
  h H1 e _ fun v H2 e2 p => hr H2 (e.trans e2) _ fun vs H3 e3 a => q _ H3 (e2.trans e3) (.cons (Im.up p e3) a)
/-- a test by a value -/
theorem et_v {b : Bool} (h : EvP te σ H (vI (.bool b))) : EvT (tB te) σ H b := et_B (ei_bl h)
theorem et_t {b : Bool} (h : EvP te σ H (vI (.bool b))) : EvT (tTest te) σ H b := et_test (ei_bl h)
theorem ep_if {b : Bool} (h : EvT tt σ H b) (h1 : b = true → EvP ta σ H P) (h2 : b = false → EvP tb σ H P) : EvP (tIf tt ta tb) σ H P := fun H1 e Q q => h H1 e _ fun H2 e2 => by
  cases b with
  | true =>
    show ta σ H2 Q
    exact h1 rfl H2 (e.trans e2) Q fun v H3 e3 p => q v H3 (e2.trans e3) p
  | false =>
    show tb σ H2 Q
    exact h2 rfl H2 (e.trans e2) Q fun v H3 e3 p => q v H3 (e2.trans e3) p
end
/-! ### statements -/
section
variable {σ : L2.St} {H : Hp} {te ta tb : TE} {t : TT} {P : VP} {D : Ends} {tu tw : TS}
theorem s_set {i : Nat} (h : EvP te σ H P) (k : ∀ v H1, Ex H H1 → P v H1 → D.nx (σ.set i (some v)) H1) : tAsg te (gName i) D σ H := h H (Ex.refl H) _ k
theorem s_retP (h : EvP te σ H P) (k : ∀ v H1, Ex H H1 → P v H1 → D.rt v H1) : tRet te D σ H := h H (Ex.refl H) _ k
theorem s_dropP (h : EvP te σ H P) (k : ∀ v H1, Ex H H1 → P v H1 → D.nx σ H1) : tDrop te D σ H := h H (Ex.refl H) _ k
end
end Lk
end

section
set_option Elab.async false
set_option linter.all false
set_option maxRecDepth 100000
set_option maxHeartbeats 4000000
/-! Comprehensions, built-ins and operators over data. -/
namespace Lk
open PySem PySem.Spec PyProof.Rows L2 Evl

/-! ### one of two rules -/
theorem peOr {X : Cx} {e : Expr} {t1 t2 : TE} (a : PE X e t1) (b : PE X e t2) : PE X e (fun σ H Q => t1 σ H Q ∨ t2 σ H Q) := ⟨fun pins s σ H Q I h => h.elim (a.run pins s σ H Q I) (b.run pins s σ H Q I)⟩
theorem piOr {X : Cx} {tg it : Expr} {t1 t2 : TI} (a : PI X tg it t1) (b : PI X tg it t2) : PI X tg it (fun σ H Q => t1 σ H Q ∨ t2 σ H Q) := ⟨fun pins s σ H Q I h => h.elim (a.run pins s σ H Q I) (b.run pins s σ H Q I)⟩
def iSeq (K : PySem.W.Frag) (tl : TE) : TI := fun σ H R => tl σ H fun x H1 => ∃ a, x = .ref a ∧ (((∃ xs, SqL K H1 a xs) ∧ R (Itl K a) H1) ∨ ((∃ xs, SqT K H1 a xs) ∧ R (Itt K a) H1))
theorem pi_seq {X : Cx} {tg l : Expr} {tl : TE} (hl : PE X l tl) : PI X tg l (iSeq X.K tl) := by
  refine ⟨fun pins s σ H R I h => thn (hl.run pins s σ H _ I h) fun v z ⟨x, G, J, r, q1⟩ => ?_⟩
  obtain ⟨a, rfl, q⟩ := q1
  cases r
  have fp : ∀ b ∈ [z.heap.objs.size], FpOk X pins G b := fun b hb => by
    obtain rfl : b = z.heap.objs.size := by simpa using hb
    exact J.fpOk (Nat.le_refl _) (J.hok.fresh (Nat.le_refl _))
  rcases q with ⟨⟨xs, hx⟩, q⟩ | ⟨⟨xs, hx⟩, q⟩
  · obtain ⟨its, _, p, _⟩ := J.list hx
    exact wpAny_pyIter_list p.isList ⟨_, [z.heap.objs.size], _, _, G, rfl, J.kept (t' := z.toks) fun _ _ e => Heap.get?_push_of_some _ e, turn_list a _, ⟨_, Heap.get?_push_size _ rfl, rfl, rfl⟩, fp, q⟩
  · obtain ⟨its, _, p, _⟩ := J.tuple hx
    exact wpAny_pyIter_tuple (show z.heap.IsTuple a its.toArray from p) ⟨_, [z.heap.objs.size], _, _, G, rfl, J.kept (t' := z.toks) fun _ _ e => Heap.get?_push_of_some _ e, turn_tuple a _, ⟨_, Heap.get?_push_size _ rfl, rfl, rfl⟩, fp, q⟩

/-! ### comprehensions, whatever they walk: n turns; Y what a turn's item is; Z what the slots are behind the target -/
theorem lc_any {σ : L2.St} {H : Hp} {wi : TI} {g : TG} {tt : TT} {te : TE} {vs : List Nat} {R : VP} (n : Nat) (hn : n ≤ 50000) (f : Nat → Bool) (o : Nat → PyData) (Y : Nat → V → Hp → Prop) (Z : Nat → L2.St → Hp → Prop)
    (src : ∀ H1, Ex H H1 → ∀ K : It → Hp → Prop, (∀ J H2, Ex H1 H2 → (∀ i H', Ex H2 H' → i < n → J.go i H' ∧ ∀ x G, J.yld i H' x G → Ex H' G ∧ Tx H' G ∧ Y i x G) → (∀ H', Ex H2 H' → J.stop n H') → K J H2) → wi σ H1 K)
    (yld_keeps : True)
    (hg : ∀ i x G, i < n → Ex H G → Y i x G → ∀ k : L2.St → Hp → Prop, (∀ σ', Z i σ' G → wipe σ' vs = wipe σ vs → k σ' G) → g x (wipe σ vs) G k)
    (ht : ∀ i σ' G, i < n → Ex H G → Z i σ' G → EvT tt σ' G (f i))
    (he : ∀ i σ' G, i < n → f i = true → Ex H G → Z i σ' G → EvP te σ' G (vI (o i)))
    (hz : ∀ i σ' G G', Ex G G' → Z i σ' G → Z i σ' G')
    (fin : ∀ p xs G, Ex H G → G p = some (.lst xs) → ImAll G xs (((List.range n).filter f).map o) → R (.ref p) G) :
    EvP (tLc wi g tt te vs) σ H R := by
  intro H1 e1 Q q
  refine src H1 e1 _ fun J H2 e2 hJ hS => ?_
  intro Dl hD
  have base : Ex H H2 := e1.trans e2
  refine ⟨fun i m G => m = n - i ∧ i ≤ n ∧ Ex H2 G ∧ ∃ xs, G Dl = some (.lst xs) ∧ ImAll G xs (((List.range i).filter f).map o), ⟨n, rfl, Nat.zero_le _, Ex.new hD, [], upd_same, .nil⟩, ?_⟩
  rintro i m G ⟨rfl, hi, eG, xs, hx, im⟩
  by_cases hlt : i < n
  · obtain ⟨go, yl⟩ := hJ i G eG hlt
    refine .inr ⟨go, fun G' => Ex H2 G' ∧ ∃ ys, G' Dl = some (.lst ys) ∧ ImAll G' ys (((List.range (i + 1)).filter f).map o), fun G' p => ⟨n - (i + 1), by omega, rfl, hlt, p.1, p.2⟩, fun x G1 hy => ?_⟩
    obtain ⟨eY, _, y⟩ := yl x G1 hy
    have b1 : Ex H G1 := base.trans (eG.trans eY)
    refine hg i x G1 hlt b1 y _ fun σ' z w => ⟨w, ?_⟩
    refine ht i σ' G1 hlt b1 z G1 (Ex.refl _) _ fun G2 e3 => ?_
    have len : xs.length ≤ i := by
      rw [im.len, List.length_map]
      exact Nat.le_trans (List.length_filter_le _ _) (by rw [List.length_range]; exact Nat.le_refl _)
    cases hf : f i with
    | true =>
      show te σ' G2 _
      refine he i σ' G2 hlt hf (b1.trans e3) (hz _ _ _ _ e3 z) G2 (Ex.refl _) _ fun v G3 e4 p => ⟨xs, e4 _ _ (e3 _ _ (eY _ _ hx)), sz_lt (by omega), ?_⟩
      have hD3 : G3 Dl = some (.lst xs) := e4 _ _ (e3 _ _ (eY _ _ hx))
      refine ⟨Ex.mut (((eG.trans eY).trans e3).trans e4) hD, xs ++ [v], upd_same, ?_⟩
      rw [List.range_succ, List.filter_append, List.map_append]
      have e5 : ([i].filter f).map o = [o i] := by rw [List.filter_cons, if_pos hf]; rfl
      rw [e5]
      exact (((im.up eY).up e3).up e4 |>.mv (Tx.lst hD3)).app (.cons (Im.mv (Tx.lst hD3) p) .nil)
    | false =>
      show Ex H2 G2 ∧ _
      refine ⟨(eG.trans eY).trans e3, xs, e3 _ _ (eY _ _ hx), ?_⟩
      rw [List.range_succ, List.filter_append, List.map_append]
      have e5 : ([i].filter f).map o = [] := by rw [List.filter_cons, if_neg (by rw [hf]; decide)]; rfl
      rw [e5, List.append_nil]
      exact ((im.up eY).up e3)
  · have e : i = n := by omega
    subst e
    exact .inl ⟨hS G eG, q _ _ (e2.trans eG) (fin Dl xs G (base.trans eG) hx im)⟩
end Lk
end

section
set_option Elab.async false
set_option linter.all false
set_option maxRecDepth 100000
set_option maxHeartbeats 4000000
namespace Lk
open PySem PySem.Spec PyProof.Rows L2 Evl
theorem rfm {α β : Type} (F : α → Bool) (G : α → β) (z : β) : ∀ xs : List α, ((List.range xs.length).filter fun i => (xs[i]?.map F).getD false).map (fun i => (xs[i]?.map G).getD z) = (xs.filter F).map G
  | [] => rfl
  | a :: r => by
    have ih := rfm F G z r
    rw [List.length_cons, List.range_succ_eq_map, List.filter_cons, List.filter_cons]
    have e : (((List.range r.length).map Nat.succ).filter fun i => (((a :: r)[i]?).map F).getD false).map (fun i => (((a :: r)[i]?).map G).getD z) = (r.filter F).map G := by
      rw [List.filter_map, List.map_map, ← ih]
      rfl
    show List.map _ (if ((some a).map F).getD false = true then _ else _) = _
    cases hF : F a with
    | true =>
      rw [if_pos (show ((some a).map F).getD false = true from hF), if_pos rfl, List.map_cons, e]
      rfl
    | false =>
      rw [if_neg (show ¬ ((some a).map F).getD false = true by rw [show ((some a).map F).getD false = F a from rfl, hF]; decide), if_neg (by decide), e]

/-- what walks gives the items of ds, one a turn -/
def Src (wi : TI) (σ : L2.St) (H : Hp) (n : Nat) (Y : Nat → V → Hp → Prop) : Prop := ∀ H1, Ex H H1 → ∀ K : It → Hp → Prop, (∀ J H2, Ex H1 H2 → (∀ i H', Ex H2 H' → i < n → J.go i H' ∧ ∀ x G, J.yld i H' x G → Ex H' G ∧ Tx H' G ∧ Y i x G) → (∀ H', Ex H2 H' → J.stop n H') → K J H2) → wi σ H1 K
section
variable {K : PySem.W.Frag} {σ : L2.St} {H : Hp} {tl te ta : TE} {tt : TT} {tas : TA} {vs : List Nat} {j j2 : Nat} {α : Type} {enc : α → PyData} {xs : List α}
theorem sqL_inj {H : Hp} {a : Addr} {xs : List V} (h : H a = some (.lst xs)) : SqL K H a xs := .inl (.inl h)
theorem sqT_inj {H : Hp} {a : Addr} {xs : List V} (h : Tz H a xs) : SqT K H a xs := h.sq
theorem src_S (h : EvP tl σ H (vS (xs.map enc))) : Src (iSeq K tl) σ H xs.length (fun i x G => ∃ a, xs[i]? = some a ∧ Im G x (enc a)) := fun H1 e K' q =>
  h H1 e _ fun v H2 e2 p => by
    obtain ⟨a, ws, rfl, hp, im⟩ := p
    have len : ws.length = xs.length := by rw [im.len, List.length_map]
    rcases hp with hp | hp
    · refine ⟨a, rfl, .inl ⟨⟨ws, sqL_inj hp⟩, q _ H2 e2 (fun i H' e3 hi => ?_) fun H' e3 => ⟨ws, sqL_inj (e3 _ _ hp), by omega⟩⟩⟩
      have hi' : i < ws.length := by omega
      refine ⟨⟨ws, ws[i], sqL_inj (e3 _ _ hp), List.getElem?_eq_getElem hi'⟩, fun x G hy => ?_⟩
      obtain ⟨rfl, fx⟩ := hy
      refine ⟨Ex.refl _, Tx.refl _, ?_⟩
      obtain ⟨d, hd, him⟩ := im.get (fx ws (sqL_inj (e3 _ _ hp)))
      rw [List.getElem?_map] at hd
      obtain ⟨b, hb, rfl⟩ := Option.map_eq_some_iff.mp hd
      exact ⟨b, hb, him.up e3⟩
    · refine ⟨a, rfl, .inr ⟨⟨ws, sqT_inj hp⟩, q _ H2 e2 (fun i H' e3 hi => ?_) fun H' e3 => ⟨ws, sqT_inj (hp.up e3), by omega⟩⟩⟩
      have hi' : i < ws.length := by omega
      refine ⟨⟨ws, ws[i], sqT_inj (hp.up e3), List.getElem?_eq_getElem hi'⟩, fun x G hy => ?_⟩
      obtain ⟨rfl, fx⟩ := hy
      refine ⟨Ex.refl _, Tx.refl _, ?_⟩
      obtain ⟨d, hd, him⟩ := im.get (fx ws (sqT_inj (hp.up e3)))
      rw [List.getElem?_map] at hd
      obtain ⟨b, hb, rfl⟩ := Option.map_eq_some_iff.mp hd
      exact ⟨b, hb, him.up e3⟩
theorem src_R1 {n : Nat} (h : EvAs tas σ H (aC (vI (.int (n : Int))) aN)) (hn : n ≤ 50000) : Src (iRng1 tas) σ H n (fun i x G => x = .int (i : Int)) := fun H1 e K' q =>
  h H1 e _ fun vs H2 e2 p => by
    obtain ⟨v, ws, rfl, hv, rfl⟩ := p
    cases Im.isInt hv
    refine ⟨(n : Int), rfl, by omega, by omega, ?_⟩
    rw [Int.toNat_natCast]
    refine q _ H2 e2 (fun i H' e3 hi => ⟨hi, fun x G hy => ?_⟩) fun H' e3 => Nat.le_refl _
    obtain ⟨rfl, rfl⟩ := hy
    exact ⟨Ex.refl _, Tx.refl _, show V.int (0 + (i : Int)) = V.int (i : Int) by rw [Int.zero_add]⟩
theorem src_R2 {lo n : Nat} (h : EvAs tas σ H (aC (vI (.int (lo : Int))) (aC (vI (.int (n : Int))) aN))) (hn : n ≤ 50000) (hl : lo ≤ 50000) : Src (iRng2 tas) σ H (n - lo) (fun i x G => x = .int ((lo + i : Nat) : Int)) := fun H1 e K' q =>
  h H1 e _ fun vs H2 e2 p => by
    obtain ⟨v, ws, rfl, hv, w, us, rfl, hw, rfl⟩ := p
    cases Im.isInt hv
    cases Im.isInt hw
    refine ⟨(lo : Int), (n : Int), rfl, ⟨by omega, by omega, by omega, by omega⟩, ?_⟩
    have en : ((n : Int) - (lo : Int)).toNat = n - lo := by omega
    rw [en]
    refine q _ H2 e2 (fun i H' e3 hi => ⟨hi, fun x G hy => ?_⟩) fun H' e3 => Nat.le_refl _
    obtain ⟨rfl, rfl⟩ := hy
    exact ⟨Ex.refl _, Tx.refl _, show V.int ((lo : Int) + (i : Int)) = V.int ((lo + i : Nat) : Int) by rw [Int.natCast_add]⟩
/-- the elements of a comprehension, target one name -/
theorem lc_N {wi : TI} (F : α → Bool) (G : α → PyData) (h : Src wi σ H xs.length (fun i x G => ∃ a, xs[i]? = some a ∧ Im G x (enc a))) (hz : xs.length ≤ 50000) (hw : ∀ x, wipe ((wipe σ vs).set j (some x)) vs = wipe σ vs)
    (ht : ∀ a x H1, a ∈ xs → Ex H H1 → Im H1 x (enc a) → EvT tt ((wipe σ vs).set j (some x)) H1 (F a))
    (he : ∀ a x H1, a ∈ xs → F a = true → Ex H H1 → Im H1 x (enc a) → EvP te ((wipe σ vs).set j (some x)) H1 (vI (G a))) : EvP (tLc wi (gName j) tt te vs) σ H (vL ((xs.filter F).map G)) := by
  refine lc_any xs.length hz (fun i => (xs[i]?.map F).getD false) (fun i => (xs[i]?.map G).getD .none) _ (fun i σ' G => ∃ a x, xs[i]? = some a ∧ σ' = (wipe σ vs).set j (some x) ∧ Im G x (enc a)) h trivial ?_ ?_ ?_ ?_ ?_
  · rintro i x G hi eG ⟨a, ha, im⟩ k hk
    exact hk _ ⟨a, x, ha, rfl, im⟩ (hw x)
  · rintro i σ' G hi eG ⟨a, x, ha, rfl, im⟩
    rw [show (xs[i]?.map F).getD false = F a by rw [ha]; rfl]
    exact ht a x G (List.mem_of_getElem? ha) eG im
  · rintro i σ' G' hi hf eG ⟨a, x, ha, rfl, im⟩
    rw [show (xs[i]?.map G).getD .none = G a by rw [ha]; rfl]
    rw [show (xs[i]?.map F).getD false = F a by rw [ha]; rfl] at hf
    exact he a x G' (List.mem_of_getElem? ha) hf eG im
  · rintro i σ' G G' e ⟨a, x, ha, rfl, im⟩
    exact ⟨a, x, ha, rfl, im.up e⟩
  · intro p ys G' e hp im
    rw [rfm F G PyData.none xs] at im
    exact ⟨p, ys, rfl, hp, im⟩
theorem et_yes : EvT tYes σ H true := fun H1 _ Q q => q H1 (Ex.refl _)
/-- .. without a test -/
theorem lc_N1 {wi : TI} (G : α → PyData) (h : Src wi σ H xs.length (fun i x G => ∃ a, xs[i]? = some a ∧ Im G x (enc a))) (hz : xs.length ≤ 50000) (hw : ∀ x, wipe ((wipe σ vs).set j (some x)) vs = wipe σ vs)
    (he : ∀ a x H1, a ∈ xs → Ex H H1 → Im H1 x (enc a) → EvP te ((wipe σ vs).set j (some x)) H1 (vI (G a))) : EvP (tLc wi (gName j) tYes te vs) σ H (vL (xs.map G)) := by
  have q := lc_N (te := te) (tt := tYes) (fun _ => true) G h hz hw (fun _ _ _ _ _ _ => et_yes) (fun a x H1 m _ e i => he a x H1 m e i)
  rw [List.filter_eq_self.mpr (fun _ _ => rfl)] at q
  exact q
theorem src_rng {wi : TI} {n : Nat} (h : Src wi σ H n (fun i x G => x = .int (i : Int))) : Src wi σ H (List.range n).length (fun i x G => ∃ a, (List.range n)[i]? = some a ∧ Im G x (.int (a : Int))) := fun H1 e K' q =>
  h H1 e K' fun J H2 e2 hJ hS => q J H2 e2 (fun i H' e3 hi => by
    rw [List.length_range] at hi
    obtain ⟨go, y⟩ := hJ i H' e3 hi
    refine ⟨go, fun x G hy => ?_⟩
    obtain ⟨a, b, rfl⟩ := y x G hy
    exact ⟨a, b, i, List.getElem?_range hi, .int _⟩) (fun H' e3 => by
      rw [List.length_range]
      exact hS H' e3)
/-- target a pair of names -/
theorem lc_PZ {wi : TI} {e1 e2 : α → PyData} (F : α → Bool) (G : α → PyData) (h : Src wi σ H xs.length (fun i x G => ∃ a, xs[i]? = some a ∧ Pr K G x (e1 a) (e2 a))) (hz : xs.length ≤ 50000) (hw : ∀ x y, wipe (((wipe σ vs).set j (some x)).set j2 (some y)) vs = wipe σ vs)
    (ht : ∀ a x y H1, a ∈ xs → Ex H H1 → Im H1 x (e1 a) → Im H1 y (e2 a) → EvT tt (((wipe σ vs).set j (some x)).set j2 (some y)) H1 (F a))
    (he : ∀ a x y H1, a ∈ xs → F a = true → Ex H H1 → Im H1 x (e1 a) → Im H1 y (e2 a) → EvP te (((wipe σ vs).set j (some x)).set j2 (some y)) H1 (vI (G a))) : EvP (tLc wi (gTup K 2 (gCons (gName j) (gCons (gName j2) gNil))) tt te vs) σ H (vL ((xs.filter F).map G)) := by
  refine lc_any xs.length hz (fun i => (xs[i]?.map F).getD false) (fun i => (xs[i]?.map G).getD .none) _ (fun i σ' G => ∃ a x y, xs[i]? = some a ∧ σ' = ((wipe σ vs).set j (some x)).set j2 (some y) ∧ Im G x (e1 a) ∧ Im G y (e2 a)) h trivial ?_ ?_ ?_ ?_ ?_
  · rintro i x G hi eG ⟨a, ha, im⟩ k hk
    obtain ⟨p, u, w, rfl, hp, q1, q2⟩ := im
    exact ⟨p, [u, w], rfl, hp, rfl, u, [w], rfl, w, [], rfl, rfl, hk _ ⟨a, u, w, ha, rfl, q1, q2⟩ (hw u w)⟩
  · rintro i σ' G hi eG ⟨a, x, y, ha, rfl, im1, im2⟩
    rw [show (xs[i]?.map F).getD false = F a by rw [ha]; rfl]
    exact ht a x y G (List.mem_of_getElem? ha) eG im1 im2
  · rintro i σ' G' hi hf eG ⟨a, x, y, ha, rfl, im1, im2⟩
    rw [show (xs[i]?.map G).getD .none = G a by rw [ha]; rfl]
    rw [show (xs[i]?.map F).getD false = F a by rw [ha]; rfl] at hf
    exact he a x y G' (List.mem_of_getElem? ha) hf eG im1 im2
  · rintro i σ' G G' e ⟨a, x, y, ha, rfl, im1, im2⟩
    exact ⟨a, x, y, ha, rfl, im1.up e, im2.up e⟩
  · intro p ys G' e hp im
    rw [rfm F G PyData.none xs] at im
    exact ⟨p, ys, rfl, hp, im⟩
theorem src_pr {wi : TI} {e1 e2 : α → PyData} (h : Src wi σ H xs.length (fun i x G => ∃ a, xs[i]? = some a ∧ Im G x (.tuple [e1 a, e2 a]))) : Src wi σ H xs.length (fun i x G => ∃ a, xs[i]? = some a ∧ Pr K G x (e1 a) (e2 a)) := fun H1 e K' q =>
  h H1 e K' fun J H2 e2 hJ hS => q J H2 e2 (fun i H' e3 hi => by
    obtain ⟨go, y⟩ := hJ i H' e3 hi
    refine ⟨go, fun x G hy => ?_⟩
    obtain ⟨a, b, c, hc, im⟩ := y x G hy
    exact ⟨a, b, c, hc, Pr.of im⟩) hS
theorem lc_P {wi : TI} {e1 e2 : α → PyData} (F : α → Bool) (G : α → PyData) (h : Src wi σ H xs.length (fun i x G => ∃ a, xs[i]? = some a ∧ Im G x (.tuple [e1 a, e2 a]))) (hz : xs.length ≤ 50000) (hw : ∀ x y, wipe (((wipe σ vs).set j (some x)).set j2 (some y)) vs = wipe σ vs)
    (ht : ∀ a x y H1, a ∈ xs → Ex H H1 → Im H1 x (e1 a) → Im H1 y (e2 a) → EvT tt (((wipe σ vs).set j (some x)).set j2 (some y)) H1 (F a))
    (he : ∀ a x y H1, a ∈ xs → F a = true → Ex H H1 → Im H1 x (e1 a) → Im H1 y (e2 a) → EvP te (((wipe σ vs).set j (some x)).set j2 (some y)) H1 (vI (G a))) : EvP (tLc wi (gTup K 2 (gCons (gName j) (gCons (gName j2) gNil))) tt te vs) σ H (vL ((xs.filter F).map G)) := lc_PZ F G (src_pr h) hz hw ht he
theorem lc_P1 {wi : TI} {e1 e2 : α → PyData} (G : α → PyData) (h : Src wi σ H xs.length (fun i x G => ∃ a, xs[i]? = some a ∧ Im G x (.tuple [e1 a, e2 a]))) (hz : xs.length ≤ 50000) (hw : ∀ x y, wipe (((wipe σ vs).set j (some x)).set j2 (some y)) vs = wipe σ vs)
    (he : ∀ a x y H1, a ∈ xs → Ex H H1 → Im H1 x (e1 a) → Im H1 y (e2 a) → EvP te (((wipe σ vs).set j (some x)).set j2 (some y)) H1 (vI (G a))) : EvP (tLc wi (gTup K 2 (gCons (gName j) (gCons (gName j2) gNil))) tYes te vs) σ H (vL (xs.map G)) := by
  have q := lc_P (K := K) (te := te) (tt := tYes) (fun _ => true) G h hz hw (fun _ _ _ _ _ _ _ _ => et_yes) (fun a x y H1 m _ e i k => he a x y H1 m e i k)
  rw [List.filter_eq_self.mpr (fun _ _ => rfl)] at q
  exact q
/-- without a test, of pairs -/
theorem lc_PZ1 {wi : TI} {e1 e2 : α → PyData} (G : α → PyData) (h : Src wi σ H xs.length (fun i x G => ∃ a, xs[i]? = some a ∧ Pr K G x (e1 a) (e2 a))) (hz : xs.length ≤ 50000) (hw : ∀ x y, wipe (((wipe σ vs).set j (some x)).set j2 (some y)) vs = wipe σ vs)
    (he : ∀ a x y H1, a ∈ xs → Ex H H1 → Im H1 x (e1 a) → Im H1 y (e2 a) → EvP te (((wipe σ vs).set j (some x)).set j2 (some y)) H1 (vI (G a))) : EvP (tLc wi (gTup K 2 (gCons (gName j) (gCons (gName j2) gNil))) tYes te vs) σ H (vL (xs.map G)) := by
  have q := lc_PZ (K := K) (te := te) (tt := tYes) (fun _ => true) G h hz hw (fun _ _ _ _ _ _ _ _ => et_yes) (fun a x y H1 m _ e i k => he a x y H1 m e i k)
  rw [List.filter_eq_self.mpr (fun _ _ => rfl)] at q
  exact q
theorem ex_sqT {H H' : Hp} {a : Addr} {xs : List V} (e : Ex H H') (h : SqT K H a xs) : SqT K H' a xs := ex_t e h
/-- zip of two sequences, the second not longer -/
theorem src_Z {β : Type} {enc2 : β → PyData} {ys : List β} {A : AV} (hl : ys.length ≤ xs.length)
    (h : EvAs tas σ H A) (hA : ∀ vs H1, A vs H1 → ∃ a b us ws, vs = [.ref a, .ref b] ∧ ((SqL K H1 a us ∧ SqL K H1 b ws) ∨ (SqT K H1 a us ∧ SqT K H1 b ws)) ∧ ImAll H1 us (xs.map enc) ∧ ImAll H1 ws (ys.map enc2)) :
    Src (RZ.iZipA K tas) σ H (xs.zip ys).length (fun i x G => ∃ a, (xs.zip ys)[i]? = some a ∧ Pr K G x (enc a.1) (enc2 a.2)) := fun H1 e K' q =>
  h H1 e _ fun vs H2 e2 p => by
    obtain ⟨a, b, us, ws, rfl, hab, imu, imw⟩ := hA _ _ p
    have lu : us.length = xs.length := by rw [imu.len, List.length_map]
    have lw : ws.length = ys.length := by rw [imw.len, List.length_map]
    have lz : (xs.zip ys).length = ys.length := by rw [List.length_zip]; omega
    have item : ∀ (i : Nat) (H' : Hp) (x y : V), Ex H2 H' → us[i]? = some x → ws[i]? = some y → ∃ c, (xs.zip ys)[i]? = some c ∧ Im H' x (enc c.1) ∧ Im H' y (enc2 c.2) := fun i H' x y e3 hx hy => by
      obtain ⟨d1, hd1, i1⟩ := imu.get hx
      obtain ⟨d2, hd2, i2⟩ := imw.get hy
      rw [List.getElem?_map] at hd1 hd2
      obtain ⟨b1, hb1, rfl⟩ := Option.map_eq_some_iff.mp hd1
      obtain ⟨b2, hb2, rfl⟩ := Option.map_eq_some_iff.mp hd2
      exact ⟨(b1, b2), List.getElem?_zip_eq_some.mpr ⟨hb1, hb2⟩, i1.up e3, i2.up e3⟩
    rcases hab with ⟨ha, hb⟩ | ⟨ha, hb⟩
    · refine ⟨a, b, us, ws, rfl, .inl ⟨ha, hb, q _ H2 e2 (fun i H' e3 hi => ?_) fun H' e3 => ⟨us, ws, ex_l e3 ha, ex_l e3 hb, .inr (by omega)⟩⟩⟩
      have h1 : i < us.length := by omega
      have h2 : i < ws.length := by omega
      refine ⟨⟨us, ws, us[i], ws[i], ex_l e3 ha, ex_l e3 hb, List.getElem?_eq_getElem h1, List.getElem?_eq_getElem h2⟩, fun v G hy => ?_⟩
      obtain ⟨T, x, y, rfl, hT, rfl, f1, f2⟩ := hy
      obtain ⟨c, hc, i1, i2⟩ := item i H' x y e3 (f1 us (ex_l e3 ha)) (f2 ws (ex_l e3 hb))
      exact ⟨Ex.new hT, Tx.new hT, c, hc, T, x, y, rfl, SqT.of upd_same, i1.mv (Tx.new hT), i2.mv (Tx.new hT)⟩
    · refine ⟨a, b, us, ws, rfl, .inr ⟨ha, hb, q _ H2 e2 (fun i H' e3 hi => ?_) fun H' e3 => ⟨us, ws, ex_t e3 ha, ex_t e3 hb, .inr (by omega)⟩⟩⟩
      have h1 : i < us.length := by omega
      have h2 : i < ws.length := by omega
      refine ⟨⟨us, ws, us[i], ws[i], ex_t e3 ha, ex_t e3 hb, List.getElem?_eq_getElem h1, List.getElem?_eq_getElem h2⟩, fun v G hy => ?_⟩
      obtain ⟨T, x, y, rfl, hT, rfl, f1, f2⟩ := hy
      obtain ⟨c, hc, i1, i2⟩ := item i H' x y e3 (f1 us (ex_t e3 ha)) (f2 ws (ex_t e3 hb))
      exact ⟨Ex.new hT, Tx.new hT, c, hc, T, x, y, rfl, SqT.of upd_same, i1.mv (Tx.new hT), i2.mv (Tx.new hT)⟩
end
end Lk
end

section
set_option Elab.async false
set_option linter.all false
set_option maxRecDepth 100000
set_option maxHeartbeats 4000000
/-! sorted of data, of lists and of tuples. -/
namespace Lk
open PySem PySem.Spec PyProof.Rows L2 Evl PySem.W

section
variable {prog : Program} {w : World} {A : Around} {E : Value → Shared → Prop} {s : Shared}
/-- the items of a tuple, gathered -/
theorem gather_tup {t : Addr} {us : List Value} {Q : List Value → Shared → Prop} (ht : s.heap.IsTuple t us.toArray) (z : us.length ≤ sizeLine)
    (k : Q us { s with heap := (s.heap.push (seqObj "list" #[] 0)).update s.heap.objs.size (Obj.mapSeq (· ++ us.toArray)) }) : wpAny (model prog w) A (collect (.ref t)) Q E s := by
  obtain ⟨ob, at_, cl, n, dt⟩ := id ht
  have at2 : (s.heap.push (seqObj "list" #[] 0)).get? t = some ob := Heap.get?_push_of_some _ at_
  have hn : (s.heap.push (seqObj "list" #[] 0)).get? s.heap.objs.size = some (seqObj "list" #[] 0) := Heap.get?_push_size _ rfl
  unfold collect
  refine wpAny_bind (wpAny_runValue (codeAny_builtin PyProof.Rows.entry_proto_collect' (wpAny_bind (wpAny_newList (wpAny_pure ⟨Code.quiet_builtin _ (by decide +kernel), codeAny_builtin PyProof.Rows.entry_list_iadd' ?_⟩)))))
  show wpAny (model prog w) _ (Builtin.List.listExtendWith (.ref s.heap.objs.size) (.ref t) (.ref s.heap.objs.size)) _ _ { heap := s.heap.push (seqObj "list" #[] 0), gens := s.gens, drawn := s.drawn, toks := s.toks, os := s.os }
  unfold Builtin.List.listExtendWith
  refine wpAny_bind (wpAny_typeOf (T := "tuple") ⟨ob, at2, cl⟩ ?_)
  have yes : (Value.type "tuple" == Value.type "tuple") = true := by rfl
  rw [if_pos (by rw [yes, Bool.or_true])]
  refine wpAny_bind (listItems_at at2 dt (wpAny_bind (listItems_at (xs := #[]) (n := 0) hn rfl ?_)))
  rw [if_neg (by simp)]
  refine wpAny_bind (listUpdate_at (xs := #[]) (n := 0) hn rfl (wpAny_pure ?_) (Nat.zero_le _) (by show (#[] ++ us.toArray).size ≤ sizeLine + 1; rw [Array.size_append, List.size_toArray]; show 0 + us.length ≤ _; omega))
  show wpAny (model prog w) A (do
    let ob ← load s.heap.objs.size
    match ob.data with
    | .seq ys _ => pure ys.toList
    | _ => unsupported "internal:collect") Q E { s with heap := (s.heap.push (seqObj "list" #[] 0)).update s.heap.objs.size (Obj.mapSeq (· ++ us.toArray)) }
  refine wpAny_bind (wpAny_load (get?_update_seq hn _) (wpAny_pure ?_))
  have e : ((#[] : Array Value) ++ us.toArray).toList = us := by simp
  rw [e]
  exact k
/-- sorted of a tuple that reads as data -/
theorem sorted_tup_data {β : Type} {us : List Value} {bs : List β} {enc : β → PyData} {R : Value → β → Prop} {t : Addr} {Q : Value → Shared → Prop} (ht : s.heap.IsTuple t us.toArray) (e : EachIs R us bs) (er : EachIs (fun v b => ∃ as, Reads s.heap v (enc b) as ∧ (s.heap.objs.size + 1) ∉ as) us bs)
    (hal : AllAlike (bs.map enc)) (hk : Sortable (bs.map enc)) (hL : bs.length ≤ sizeLine) (hu : ∀ b, b ∈ bs → A.units + 3 + (enc b).depth < cLine)
    (h : ∀ out, out.length = bs.length → EachIs R out (bs.mergeSort (dataLe false enc)) → Q (.ref (s.heap.objs.size + 1)) { s with heap := sortedAll s.heap us (List.toArray out) }) :
    wpAny (model prog w) A (call (.builtin "sorted") [.ref t]) Q E s := by
  have hz : us.length ≤ sizeLine := by rw [e.length]; exact hL
  refine call_function_entry_kw kind_sorted plain_sorted entry_sorted (args_sorted1 _) ?_
  unfold Builtin.«sorted»
  refine wpAny_bind (m := checkCount "sorted" 1 1 _) (wpAny_pure (wpAny_bind (gather_tup ht hz (wpAny_bind (wpAny_newList ?_ hz)))))
  have sz : ((s.heap.push (seqObj "list" #[] 0)).update s.heap.objs.size (Obj.mapSeq (· ++ us.toArray))).objs.size = s.heap.objs.size + 1 := by rw [Heap.size_update, size_push']
  show wpAny (model prog w) _ _ _ _ { heap := copyHeap s.heap us, gens := s.gens, drawn := s.drawn, toks := s.toks, os := s.os }
  rw [sz]
  have er2 : EachIs (fun v b => ∃ as, Reads (copyHeap s.heap us) v (enc b) as ∧ (s.heap.objs.size + 1) ∉ as) us bs := er.mono fun _ _ ⟨as, r, n⟩ => ⟨as, PyProof.Rows.Reads.keeps (fun _ _ q => copyHeap_old q) r, n⟩
  refine wpAny_bind (wpAny_holding (wpAny_mono (list_sort_data (s := { s with heap := copyHeap s.heap us }) (R := R) (bs := bs) (enc := enc) (Q := fun v s' => v = .none ∧ Q (.ref (s.heap.objs.size + 1)) s') (copyHeap_at s.heap us) e er2 hal hk hL (fun b m => by have := hu b m; show A.units + 1 + 1 + (enc b).depth < cLine; omega) fun out h1 h2 => ⟨rfl, h out h1 h2⟩) (fun v s' q => ?_) fun _ _ z => z))
  obtain ⟨rfl, q⟩ := q
  exact wpAny_pure ⟨_, rfl, q⟩
end
end Lk
end

section
set_option Elab.async false
set_option linter.all false
set_option maxRecDepth 100000
set_option maxHeartbeats 4000000
/-! Rules of our own: sorted of data, repr of data, len(set(..)). -/
namespace Lk
open PySem PySem.Spec PyProof.Rows L2 Evl PySem.W

section
variable {X : Cx} {pins : List (Addr × Obj)} {σ : L2.St} {H : Hp} {s : Shared}
mutual
theorem Im.reads (I : Inv X pins σ H s) : ∀ {v : V} {d : PyData} {u : Value}, Im H v d → RelV v u → Reads s.heap u d []
  | _, _, _, .non, r => by cases r; exact .none
  | _, _, _, .bl b, r => by cases r; exact .bool b
  | _, _, _, .int i, r => by obtain ⟨t, rfl⟩ := r; exact .int i t
  | _, _, _, .str x, r => by obtain ⟨t, rfl⟩ := r; exact .str x t
  | _, _, _, .tup h a, r => by
    cases r
    obtain ⟨its, rv, ht, _⟩ := I.tuple h.sq
    obtain ⟨o, ho, hc, n, hd⟩ := ht
    exact .tuple ho hc hd (ImAll.reads I a rv)
theorem ImAll.reads (I : Inv X pins σ H s) : ∀ {vs : List V} {ds : List PyData} {us : List Value}, ImAll H vs ds → Vals vs us → ReadsAll s.heap us ds []
  | _, _, _, .nil, .nil => .nil
  | _, _, _, .cons h a, .cons r t => .cons (as := []) (bs := []) (Im.reads I h r) (ImAll.reads I a t)
end
theorem im_each : ∀ {vs : List V} {ds : List PyData} {us : List Value}, ImAll H vs ds → Vals vs us → EachIs (fun u d => ∃ v, RelV v u ∧ Im H v d) us ds
  | _, _, _, .nil, .nil => .nil
  | _, _, _, .cons h a, .cons r t => .cons ⟨_, r, h⟩ (im_each a t)
theorem each_im : ∀ {us : List Value} {ds : List PyData}, EachIs (fun u d => ∃ v, RelV v u ∧ Im H v d) us ds → ∃ vs, Vals vs us ∧ ImAll H vs ds
  | _, _, .nil => ⟨[], .nil, .nil⟩
  | _, _, .cons ⟨v, r, h⟩ t => by
    obtain ⟨vs, a, b⟩ := each_im t
    exact ⟨v :: vs, .cons r a, .cons h b⟩
end
/-- sorted(xs), xs a list or a tuple of data -/
def rSortD : List V → Hp → VK → Prop := fun vs H Q => ∃ (a : Addr) (xs : List V) (ds : List PyData), vs = [.ref a] ∧ (H a = some (.lst xs) ∨ Tz H a xs) ∧ ImAll H xs ds ∧ AllAlike ds ∧ Sortable ds ∧ ds.length ≤ 1000 ∧ (∀ d ∈ ds, d.depth ≤ 8) ∧
  ∀ p ys, H p = none → ImAll H ys (ds.mergeSort (dataLe false fun d => d)) → Q (.ref p) (upd H p (.lst ys))
theorem cr_sortD {X : Cx} {k : Nat} (hr : Room k X.A) : CallR X (.builtin "sorted") rSortD := by
  intro pins s σ H vs us Q I r h
  obtain ⟨a, xs, ds, rfl, ha, im, al, so, hl, hd, q⟩ := h
  rw [Vals.ref1 r]
  have hu := hr.un
  have fin : ∀ (its : List Value) (out : List Value), Vals xs its → out.length = ds.length → EachIs (fun u d => ∃ v, RelV v u ∧ Im H v d) out (ds.mergeSort (dataLe false fun d => d)) →
      EP X pins σ Q (.ref (s.heap.objs.size + 1)) { s with heap := sortedAll s.heap its (List.toArray out) } := fun its out rv hlen ho => by
    obtain ⟨ys, rw2, im2⟩ := each_im ho
    obtain ⟨ep, he⟩ := sortedAll_at s.heap its (List.toArray out)
    have yl : ys.length ≤ sizeLine := by rw [rw2.length, hlen]; exact Nat.le_trans hl (by decide)
    exact ⟨.ref _, upd H (s.heap.objs.size + 1) (.lst ys), I.laid (t' := s.toks) (fun _ _ => sortedAll_old) (Nat.le_succ _) ⟨yl, out, ep, rw2, he⟩, rfl, q _ _ (I.hok.fresh (Nat.le_succ _)) im2⟩
  have mp : ds.map (fun d : PyData => d) = ds := by simp
  rcases ha with ha | ha
  · obtain ⟨its, rv, pl, hz⟩ := I.list (X := X) (SqL.of ha)
    have e := im_each im rv
    refine sorted_data (R := fun u d => ∃ v, RelV v u ∧ Im H v d) (bs := ds) (enc := fun d : PyData => d) pl.isList e (e.mono fun u d ⟨v, r1, i1⟩ => ⟨[], Im.reads I i1 r1⟩) (by rw [mp]; exact al) (by rw [mp]; exact so) (Nat.le_trans hl (by decide)) (fun d m => by have := hd d m; show X.A.units + 2 + d.depth < cLine; omega) (fun out h1 h2 => fin its out rv h1 h2)
  · obtain ⟨its, rv, ht, hz⟩ := I.tuple (X := X) ha.sq
    have e := im_each im rv
    refine sorted_tup_data (R := fun u d => ∃ v, RelV v u ∧ Im H v d) (bs := ds) (enc := fun d : PyData => d) (show s.heap.IsTuple a its.toArray from ht) e (e.mono fun u d ⟨v, r1, i1⟩ => ⟨[], Im.reads I i1 r1, by simp⟩) (by rw [mp]; exact al) (by rw [mp]; exact so) (Nat.le_trans hl (by decide)) (fun d m => by have := hd d m; show X.A.units + 3 + d.depth < cLine; omega) (fun out h1 h2 => fin its out rv h1 h2)
/-- repr of a tuple of data, where no repr runs -/
def rRepr : List V → Hp → VK → Prop := fun vs H Q => ∃ (a : Addr) (d : PyData), vs = [.ref a] ∧ Im H (.ref a) d ∧ d.showable = true ∧ d.hasDict = false ∧ d.depth ≤ 8 ∧ d.shown.length ≤ sizeLine ∧ Q (.str d.shown) H
theorem cr_repr {X : Cx} {k : Nat} (hr : Room k X.A) (hg : X.A.guards = some []) : CallR X (.builtin "repr") rRepr := by
  intro pins s σ H vs us Q I r h
  obtain ⟨a, d, rfl, im, sh, nd, dp, sz, q⟩ := h
  rw [Vals.ref1 r]
  have hu := hr.un
  exact repr_of_reads' (Im.reads I im rfl) sh (fun z => by rw [nd] at z; cases z) hg (by omega) (fun _ _ e => e) (fun h' u tk hk => ⟨.str d.shown, H, I.kept hk, ⟨_, rfl⟩, q⟩) sz

/-! ### len(set(..)) of unlike things -/
theorem nodup_len {α : Type} {ks ns : List α} (h1 : ks.Nodup) (h2 : ns.Nodup) (h : ∀ k, k ∈ ns ↔ k ∈ ks) : ks.length = ns.length :=
  ((List.perm_ext_iff_of_nodup h1 h2).mpr fun k => (h k).symm).length_eq
def tLenSetA (ta : TE) : TE := fun σ H Q => ta σ H fun x H1 => (∃ (l : Addr) (ns : List Int), x = .ref l ∧ (H1 l = some (.lst (ns.map V.int)) ∨ Tz H1 l (ns.map V.int)) ∧ ns.length < 64 ∧ ns.Nodup ∧ Q (.int (ns.length : Nat)) H1) ∨
  ∃ (l : Addr) (ks : List (Addr × List Int)), x = .ref l ∧ H1 l = some (.lst (ks.map fun p => V.ref p.1)) ∧ (∀ p ∈ ks, Tz H1 p.1 (p.2.map V.int)) ∧ ks.length < 64 ∧ (ks.map (·.2)).Nodup ∧ Q (.int (ks.length : Nat)) H1
theorem pe_lenSet {X : Cx} {a : Expr} {ta : TE} {p p2 q pos : Pos} (hr : X.A.units + 64 < cLine) (hc : X.calm = true) (hg : Gl X "len") (hm : X.mg "len" = none) (hg2 : Gl X "set") (hm2 : X.mg "set" = none) (ha : PE X a ta)
    (na : starEach [a] X.env = (false, eval a X.env) :: starEach [] X.env := by rfl) : PE X (.Call (.Name "len" p) [.Call (.Name "set" p2) [a] [] q] [] pos) (tLenSetA ta) := by
  refine ⟨fun pins s σ H Q I h => Call_ (ld_blt I hg hm PySem.boot_len (PyProof.Rows.callWith_builtin1 (PyProof.Rows.args_cons (Call_ (ld_blt I hg2 hm2 PyProof.Rows.boot_set ?_)) rfl) rfl rfl))⟩
  refine PyProof.Rows.callWith_type1 (PyProof.Rows.args_cons (thn (ha.run pins s σ H _ I h) fun v z ⟨x, G, J, r, w⟩ => PyProof.Rows.args_nil ?_) na) na rfl
  have nohd := J.ok.hd hc
  rcases w with ⟨l, ns, rfl, hl, few, nd, w⟩ | ⟨l, ks, rfl, hl, hk, few, nd, w⟩
  · cases r
    rcases hl with hl | hl
    · obtain ⟨its, rv, pl, _⟩ := J.list (SqL.of hl)
      have sz : its.toArray.size = ns.length := by rw [List.size_toArray, ← rv.length, List.length_map]
      refine call_set_list nohd pl.isList (ns := ns) (by simpa using rv.ints) (by unfold scanBound; omega) fun g tk hS hkp => ?_
      rw [sz, L2.firstMet_nodup ns nd ns.length (Nat.le_refl _), List.take_length] at hS
      obtain ⟨o, es, ep, t, ho, hex, hd, _, _, _, hf, hn⟩ := hS
      have J2 : Inv X pins σ G { z with heap := g, toks := tk } := J.kept fun b o e => hkp b o (Heap.lt_size e) e
      exact PyProof.Rows.args_nil (call_len_set ho hex hd hf (by rw [hn] <;> omega) ⟨.int ns.length, G, J2.tok _, ⟨_, by rw [hn]⟩, w⟩)
    · obtain ⟨its, rv, pl, _⟩ := J.tuple hl.sq
      refine call_set_tupI ns nohd (show z.heap.IsTuple l its.toArray from pl) (by simpa using rv.ints) (by unfold scanBound; omega) fun g tk c hS _ hkp => ?_
      obtain ⟨o, es, ep, t, ho, hex, hd, good, dis, mem, _, hf, hn, _⟩ := hS
      have el : es.size = ns.length := by
        have e2 := nodup_len dis nd fun k => by rw [← mem k]; exact (decide_eq_true_iff).symm
        rw [List.length_map, Array.length_toList] at e2
        exact e2
      have J2 : Inv X pins σ G { z with heap := g, toks := tk } := J.kept hkp
      exact PyProof.Rows.args_nil (call_len_set ho hex hd hf (by rw [el] <;> omega) ⟨.int ns.length, G, J2.tok _, ⟨_, by rw [el]⟩, w⟩)
  · cases r
    obtain ⟨its, rv, pl, _⟩ := J.list (SqL.of hl)
    refine call_set_tups (P := X.prog) (w := X.w) ks nohd pl.isList (by simpa using refs_of_vals rv) (fun p hp => J.isT (hk p hp).sq) few (by omega) fun g tk L es ep t R got hkp => ?_
    obtain ⟨o, ho, hex, hd⟩ := R.ob
    have el : es.size = ks.length := by
      have e1 : es.size = L.length := by
        have q := congrArg List.length R.rows
        unfold L2.rowsOf at q
        rw [Array.length_toList, List.length_map] at q
        exact q
      have e2 := nodup_len R.nd nd fun k => by
        constructor
        · intro m
          obtain ⟨p, hp, rfl⟩ := List.mem_map.mp m
          exact got.all p (by rw [List.take_length]; exact hp)
        · intro m
          obtain ⟨p, hp, rfl⟩ := List.mem_map.mp m
          exact List.mem_map.mpr ⟨p, List.mem_of_mem_take (got.sub p hp), rfl⟩
      rw [List.length_map, List.length_map] at e2
      omega
    have J2 : Inv X pins σ G { z with heap := g, toks := tk } := J.kept hkp
    exact PyProof.Rows.args_nil (call_len_set ho hex hd (SetTR.fits (s := { z with heap := g, toks := tk }) R) (by rw [el] <;> omega) ⟨.int ks.length, G, J2.tok _, ⟨_, by rw [el]⟩, w⟩)
end Lk
end

section
set_option Elab.async false
set_option linter.all false
set_option maxRecDepth 100000
set_option maxHeartbeats 4000000
/-! What operators, built-ins, subscripts and fields evaluate to. -/
namespace Lk
open PySem PySem.Spec PyProof.Rows L2 Evl PySem.W

instance datumNat : Datum Nat where
  toD n := .int (n : Int)
  plain _ := rfl
  eqv a b := by
    simp only [PyData.eqv]
    rw [Bool.eq_iff_iff, beq_iff_eq, decide_eq_true_eq]
    exact Int.ofNat_inj
  depth := 0
  depth_le _ := Nat.le_refl _
abbrev dN (n : Nat) : PyData := .int (n : Int)
def sortD (ds : List PyData) : List PyData := ds.mergeSort (dataLe false fun d => d)
section
variable {K : PySem.W.Frag} {σ : L2.St} {H : Hp} {te ta tb tc : TE} {tt tu : TT} {P R S : VP} {d e : PyData} {ds es : List PyData} {i j : Int} {a b : Bool}
theorem ec_i : EvP (tC (.int i)) σ H (vI (.int i)) := eiI ev_c
theorem ec_b : EvP (tC (.bl b)) σ H (vI (.bool b)) := eiB ev_c
theorem ec_s {x : Str} : EvP (tC (.str x)) σ H (vI (.str x)) := ep_of ev_c (mI _) (.str x)
theorem ec_n : EvP (tC .non) σ H (vI .none) := ep_of ev_c (mI _) .non
theorem EvP.is (h : EvP te σ H (vI d)) (x : d = e) : EvP te σ H (vI e) := x ▸ h
theorem EvP.isL (h : EvP te σ H (vL ds)) (x : ds = es) : EvP te σ H (vL es) := x ▸ h
/-- two operands, one behind the other -/
theorem ep_op {r : R2} (ha : EvP ta σ H P) (m : Mono P) (hb : EvP tb σ H R) (k : ∀ x y H1, Ex H H1 → P x H1 → R y H1 → ∀ Q : VK, (∀ w H2, Ex H1 H2 → S w H2 → Q w H2) → r x y H1 Q) : EvP (tOp r ta tb) σ H S := fun H1 e Q q =>
  ha H1 e _ fun x H2 e2 p => hb H2 (e.trans e2) _ fun y H3 e3 p2 => k x y H3 ((e.trans e2).trans e3) (m _ _ _ e3 p) p2 Q fun w H4 e4 s => q w H4 ((e2.trans e3).trans e4) s
theorem eo {g : Int → Int → Int} (ha : EvP ta σ H (vI (.int i))) (hb : EvP tb σ H (vI (.int j))) : EvP (tOp (rI0 fun i j => .int (g i j)) ta tb) σ H (vI (.int (g i j))) :=
  ep_op ha (mI _) hb fun x y H1 _ p1 p2 Q q => ⟨i, j, Im.isInt p1, Im.isInt p2, q _ _ (Ex.refl _) (.int _)⟩
theorem eoC {C : Int → Int → Prop} {g : Int → Int → Int} (ha : EvP ta σ H (vI (.int i))) (hb : EvP tb σ H (vI (.int j))) (hc : C i j) : EvP (tOp (rI C fun i j => .int (g i j)) ta tb) σ H (vI (.int (g i j))) :=
  ep_op ha (mI _) hb fun x y H1 _ p1 p2 Q q => ⟨i, j, Im.isInt p1, Im.isInt p2, hc, q _ _ (Ex.refl _) (.int _)⟩
theorem eoB {g : Int → Int → Bool} (ha : EvP ta σ H (vI (.int i))) (hb : EvP tb σ H (vI (.int j))) : EvP (tOp (rI0 fun i j => .bl (g i j)) ta tb) σ H (vI (.bool (g i j))) :=
  ep_op ha (mI _) hb fun x y H1 _ p1 p2 Q q => ⟨i, j, Im.isInt p1, Im.isInt p2, q _ _ (Ex.refl _) (.bl _)⟩
theorem eu {g : Int → Int} (ha : EvP ta σ H (vI (.int i))) : EvP (tUn (rU fun i => .int (g i)) ta) σ H (vI (.int (g i))) := fun H1 e Q q =>
  ha H1 e _ fun x H2 e2 p => ⟨i, Im.isInt p, q _ _ e2 (.int _)⟩
theorem e_eqI (ha : EvP ta σ H (vI (.int i))) (hb : EvP tb σ H (vI (.int j))) : EvP (tOp rEq ta tb) σ H (vI (.bool (decide (i = j)))) :=
  ep_op ha (mI _) hb fun x y H1 _ p1 p2 Q q => by
    cases Im.isInt p1
    cases Im.isInt p2
    refine ⟨rfl, ?_⟩
    rw [dec_int, show (i == j) = decide (i = j) from by rw [Bool.eq_iff_iff, beq_iff_eq, decide_eq_true_eq]]
    exact q _ _ (Ex.refl _) (.bl _)
theorem e_neI (ha : EvP ta σ H (vI (.int i))) (hb : EvP tb σ H (vI (.int j))) : EvP (tOp rNe ta tb) σ H (vI (.bool (!decide (i = j)))) :=
  ep_op ha (mI _) hb fun x y H1 _ p1 p2 Q q => by
    cases Im.isInt p1
    cases Im.isInt p2
    refine ⟨rfl, ?_⟩
    rw [dec_int, show (i == j) = decide (i = j) from by rw [Bool.eq_iff_iff, beq_iff_eq, decide_eq_true_eq]]
    exact q _ _ (Ex.refl _) (.bl _)
theorem e_eqS {x y : Str} (ha : EvP ta σ H (vI (.str x))) (hb : EvP tb σ H (vI (.str y))) : EvP (tOp rEq ta tb) σ H (vI (.bool (decide (x = y)))) :=
  ep_op ha (mI _) hb fun u v H1 _ p1 p2 Q q => by
    cases Im.isStr p1
    cases Im.isStr p2
    refine ⟨rfl, ?_⟩
    rw [dec_str, show (x == y) = decide (x = y) from by rw [Bool.eq_iff_iff, beq_iff_eq, decide_eq_true_eq]]
    exact q _ _ (Ex.refl _) (.bl _)
theorem e_neS {x y : Str} (ha : EvP ta σ H (vI (.str x))) (hb : EvP tb σ H (vI (.str y))) : EvP (tOp rNe ta tb) σ H (vI (.bool (!decide (x = y)))) :=
  ep_op ha (mI _) hb fun u v H1 _ p1 p2 Q q => by
    cases Im.isStr p1
    cases Im.isStr p2
    refine ⟨rfl, ?_⟩
    rw [dec_str, show (x == y) = decide (x = y) from by rw [Bool.eq_iff_iff, beq_iff_eq, decide_eq_true_eq]]
    exact q _ _ (Ex.refl _) (.bl _)
/-- x is None; x is not None -/
theorem e_isN {c : Bool} (ha : EvP ta σ H P) (m : Mono P) (h : ∀ v H1, P v H1 → decide (v = .non) = c) : EvP (tOp (fun x y H Q => y = .non ∧ Q (.bl (decide (x = .non))) H) ta (tC .non)) σ H (vI (.bool c)) :=
  ep_op ha m ec_n fun x y H1 _ p1 p2 Q q => by
    refine ⟨by cases p2; rfl, ?_⟩
    rw [h x H1 p1]
    exact q _ _ (Ex.refl _) (.bl _)
theorem e_notN {c : Bool} (ha : EvP ta σ H P) (m : Mono P) (h : ∀ v H1, P v H1 → decide (v = .non) = c) : EvP (tOp (fun x y H Q => y = .non ∧ Q (.bl (!decide (x = .non))) H) ta (tC .non)) σ H (vI (.bool (!c))) :=
  ep_op ha m ec_n fun x y H1 _ p1 p2 Q q => by
    refine ⟨by cases p2; rfl, ?_⟩
    rw [h x H1 p1]
    exact q _ _ (Ex.refl _) (.bl _)
theorem non_int {v : V} {H1 : Hp} (h : vI (.int i) v H1) : decide (v = .non) = false := by cases Im.isInt h; rfl
theorem non_non {v : V} {H1 : Hp} (h : vI .none v H1) : decide (v = .non) = true := by cases h; rfl
theorem e_and (h1 : EvP ta σ H (vI (.bool a))) (h2 : a = true → EvP tb σ H (vI (.bool b))) : EvP (tAndV ta tb) σ H (vI (.bool (a && b))) := eiB (ev_andV (ei_bl h1) fun z => ei_bl (h2 z))
theorem e_or (h1 : EvP ta σ H (vI (.bool a))) (h2 : a = false → EvP tb σ H (vI (.bool b))) : EvP (tOrV ta tb) σ H (vI (.bool (a || b))) := eiB (ev_orV (ei_bl h1) fun z => ei_bl (h2 z))
theorem e_not (h1 : EvP ta σ H (vI (.bool a))) : EvP (tNotV ta) σ H (vI (.bool (!a))) := eiB (ev_notV (ei_bl h1))
/-- a built-in of one argument -/
theorem ep_cb1 {r : List V → Hp → VK → Prop} (h : EvP te σ H P) (k : ∀ v H1, Ex H H1 → P v H1 → ∀ Q : VK, (∀ w H2, Ex H1 H2 → R w H2 → Q w H2) → r [v] H1 Q) : EvP (tCB r (tCons te tNil)) σ H R := fun H1 e Q q =>
  h H1 e _ fun v H2 e2 p => k v H2 (e.trans e2) p Q fun w H3 e3 s => q w H3 (e2.trans e3) s
theorem e_allB {bs : List Bool} (h : EvP te σ H (vL (bs.map .bool))) : EvP (tCB (rAll K) (tCons te tNil)) σ H (vI (.bool (bs.all id))) := ep_cb1 h fun v H1 _ p Q q => by
  obtain ⟨l, xs, rfl, hl, im⟩ := p
  rw [im.bls] at hl
  exact ⟨l, bs, rfl, SqL.of hl, q _ _ (Ex.refl _) (.bl _)⟩
theorem e_all {α : Type} {xs : List α} {p : α → Bool} (h : EvP te σ H (vL (xs.map fun a => .bool (p a)))) : EvP (tCB (rAll K) (tCons te tNil)) σ H (vI (.bool (xs.all p))) := by
  have q := e_allB (K := K) (bs := xs.map p) (by rw [List.map_map]; exact h)
  rw [List.all_map] at q
  exact q
theorem e_sum {α : Type} {xs : List α} {f : α → Int} (h : EvP te σ H (vL (xs.map fun a => .int (f a)))) : EvP (tCB (rSum K) (tCons te tNil)) σ H (vI (.int (xs.map f).sum)) := ep_cb1 h fun v H1 _ p Q q => by
  obtain ⟨l, ys, rfl, hl, im⟩ := p
  have im' : ImAll H1 ys ((xs.map f).map .int) := by rw [List.map_map]; exact im
  rw [im'.ints] at hl
  exact ⟨l, xs.map f, rfl, SqL.of hl, q _ _ (Ex.refl _) (.int _)⟩
theorem e_len (h : EvP te σ H (vS ds)) : EvP (tCB (fun xs H Q => ∃ p ys, xs = [.ref p] ∧ (SqL K H p ys ∨ SqT K H p ys) ∧ Q (.int ys.length) H) (tCons te tNil)) σ H (vI (.int (ds.length : Nat))) := ep_cb1 h fun v H1 _ p Q q => by
  obtain ⟨l, ys, rfl, hl, im⟩ := p
  refine ⟨l, ys, rfl, hl.imp SqL.of Tz.sq, ?_⟩
  rw [im.len]
  exact q _ _ (Ex.refl _) (.int _)
theorem e_tuple (h : EvP te σ H (vS ds)) : EvP (tCB (fun xs H Q => ∃ p ys, xs = [.ref p] ∧ ((SqL K H p ys ∧ ∀ (l : Addr) (o : Obj), o.dict = none → H l = none → Q (.ref l) (upd H l (.frz o (.tup ys)))) ∨ (SqT K H p ys ∧ Q (.ref p) H))) (tCons te tNil)) σ H (vI (.tuple ds)) := ep_cb1 h fun v H1 _ p Q q => by
  obtain ⟨l, ys, rfl, hl, im⟩ := p
  rcases hl with hl | hl
  · exact ⟨l, ys, rfl, .inl ⟨SqL.of hl, fun t o d ht => q _ _ (Ex.new ht) (.tup (Tz.new d) (im.mv (Tx.new ht)))⟩⟩
  · exact ⟨l, ys, rfl, .inr ⟨hl.sq, q _ _ (Ex.refl _) (.tup hl im)⟩⟩
theorem e_list (h : EvP te σ H (vS ds)) : EvP (tCB (fun xs H Q => ∃ p ys, xs = [.ref p] ∧ (SqL K H p ys ∨ SqT K H p ys) ∧ ∀ l, H l = none → Q (.ref l) (upd H l (.lst ys))) (tCons te tNil)) σ H (vL ds) := ep_cb1 h fun v H1 _ p Q q => by
  obtain ⟨l, ys, rfl, hl, im⟩ := p
  exact ⟨l, ys, rfl, hl.imp SqL.of Tz.sq, fun t ht => q _ _ (Ex.new ht) ⟨t, ys, rfl, upd_same, im.mv (Tx.new ht)⟩⟩
theorem e_sorted (h : EvP te σ H (vS ds)) (al : AllAlike ds) (so : Sortable ds) (hl : ds.length ≤ 1000) (hd : ∀ d ∈ ds, d.depth ≤ 8) : EvP (tCB rSortD (tCons te tNil)) σ H (vL (sortD ds)) := ep_cb1 h fun v H1 _ p Q q => by
  obtain ⟨l, ys, rfl, hx, im⟩ := p
  exact ⟨l, ys, ds, rfl, hx, im, al, so, hl, hd, fun t zs ht im2 => q _ _ (Ex.new ht) ⟨t, zs, rfl, upd_same, im2.mv (Tx.new ht)⟩⟩
abbrev rInt1 : List V → Hp → VK → Prop := fun xs H Q => (∃ i, xs = [.int i] ∧ Q (.int i) H) ∨ ∃ k, xs = [.bl k] ∧ Q (.int (if k then 1 else 0)) H
theorem e_int (h : EvP te σ H (vI (.int i))) : EvP (tCB rInt1 (tCons te tNil)) σ H (vI (.int i)) := ep_cb1 h fun v H1 _ p Q q => by
  cases Im.isInt p
  exact .inl ⟨i, rfl, q _ _ (Ex.refl _) (.int _)⟩
theorem e_intB (h : EvP te σ H (vI (.bool b))) : EvP (tCB rInt1 (tCons te tNil)) σ H (vI (.int (if b then 1 else 0))) := ep_cb1 h fun v H1 _ p Q q => by
  cases Im.isBl p
  exact .inr ⟨b, rfl, q _ _ (Ex.refl _) (.int _)⟩
/-- isinstance -/
theorem e_isi {n : String} {c : Bool} (h : EvP te σ H P) (m : Mono P) (ht : ∀ v H1, P v H1 → ∃ t, TyX K H1 v t ∧ PySem.W.kitOne K t (.type n) = some c) : EvP (tCB (rIsi K) (tCons te (tCons (tC (.ty n)) tNil))) σ H (vI (.bool c)) := fun H1 e Q q =>
  h H1 e _ fun v H2 e2 p => by
    obtain ⟨t, h1, h2⟩ := ht v H2 p
    exact ⟨v, .ty n, t, .type n, c, rfl, .ty n, h1, h2, q _ _ e2 (.bl _)⟩
theorem e_isiC {C : Addr} {c : Bool} (h : EvP te σ H P) (m : Mono P) (ht : ∀ v H1, P v H1 → ∃ t, TyX K H1 v t ∧ PySem.W.kitOne K t (.ref C) = some c) : EvP (tCB (rIsi K) (tCons te (tCons (tC (.ref C)) tNil))) σ H (vI (.bool c)) := fun H1 e Q q =>
  h H1 e _ fun v H2 e2 p => by
    obtain ⟨t, h1, h2⟩ := ht v H2 p
    exact ⟨v, .ref C, t, .ref C, c, rfl, .own C, h1, h2, q _ _ e2 (.bl _)⟩
theorem e_isi2 {n1 n2 : String} {c : Bool} (h : EvP te σ H P) (m : Mono P) (ht : ∀ v H1, P v H1 → ∃ t, TyX K H1 v t ∧ PySem.W.kitAny K t [.type n1, .type n2] = some c) :
    EvP (tCB (rIsiT K) (tCons te (tCons (tTup (tCons (tC (.ty n1)) (tCons (tC (.ty n2)) tNil))) tNil))) σ H (vI (.bool c)) := fun H1 e Q q =>
  h H1 e _ fun v H2 e2 p => ⟨by show 2 ≤ sizeLine; decide, fun T hT => by
    obtain ⟨t, h1, h2⟩ := ht v _ (m _ _ _ (Ex.new hT) p)
    exact ⟨v, T, [.ty n1, .ty n2], t, [.type n1, .type n2], c, rfl, upd_same, .cons (.ty n1) (.cons (.ty n2) .nil), h1, h2, q _ _ (e2.trans (Ex.new hT)) (.bl _)⟩⟩
theorem k_int_int : PySem.W.kitOne K (.type "int") (.type "int") = some true := kit_ty (by decide +kernel)
theorem k_int_bool : PySem.W.kitOne K (.type "int") (.type "bool") = some false := kit_ty (by decide +kernel)
theorem k_list_dict : PySem.W.kitOne K (.type "list") (.type "dict") = some false := kit_ty (by decide +kernel)
theorem k_tuple_dict : PySem.W.kitOne K (.type "tuple") (.type "dict") = some false := kit_ty (by decide +kernel)
theorem k_tuple_tuple : PySem.W.kitOne K (.type "tuple") (.type "tuple") = some true := kit_ty (by decide +kernel)
theorem k_list_list : PySem.W.kitOne K (.type "list") (.type "list") = some true := kit_ty (by decide +kernel)
theorem k_tuple_list : PySem.W.kitOne K (.type "tuple") (.type "list") = some false := kit_ty (by decide +kernel)
theorem k_int_list : PySem.W.kitOne K (.type "int") (.type "list") = some false := kit_ty (by decide +kernel)
theorem k_int_tuple : PySem.W.kitOne K (.type "int") (.type "tuple") = some false := kit_ty (by decide +kernel)
theorem k2_list : PySem.W.kitAny K (.type "list") [.type "list", .type "tuple"] = some true := kitAny_cons k_list_list (fun z => nomatch z) fun _ => rfl
theorem k2_tuple : PySem.W.kitAny K (.type "tuple") [.type "list", .type "tuple"] = some true := kitAny_cons k_tuple_list (fun _ => kitAny_cons k_tuple_tuple (fun z => nomatch z) fun _ => rfl) fun z => nomatch z
theorem k2_int : PySem.W.kitAny K (.type "int") [.type "list", .type "tuple"] = some false := kitAny_cons k_int_list (fun _ => kitAny_cons k_int_tuple (fun _ => kitAny_nil) fun z => nomatch z) fun z => nomatch z
theorem ty_int {v : V} {H1 : Hp} (h : vI (.int i) v H1) : TyX K H1 v (.type "int") := by cases Im.isInt h; exact .base (.int i)
theorem ty_seq {v : V} {H1 : Hp} (h : vS ds v H1) : TyX K H1 v (.type "list") ∨ TyX K H1 v (.type "tuple") := by
  obtain ⟨p, xs, rfl, h, _⟩ := h
  exact h.imp (fun h => .base (.lst h)) fun h => h.ty
theorem ty_tup {v : V} {H1 : Hp} (h : vI (.tuple ds) v H1) : TyX K H1 v (.type "tuple") := by
  obtain ⟨p, xs, rfl, h, _⟩ := Im.isTup h
  exact h.ty
theorem ty_lst {v : V} {H1 : Hp} (h : vL ds v H1) : TyX K H1 v (.type "list") := by
  obtain ⟨p, xs, rfl, h, _⟩ := h
  exact .base (.lst h)
/-- isinstance(x, (list, tuple)) -/
theorem e_isLT (h : EvP te σ H (vS ds)) : EvP (tCB (rIsiT K) (tCons te (tCons (tTup (tCons (tC (.ty "list")) (tCons (tC (.ty "tuple")) tNil))) tNil))) σ H (vI (.bool true)) :=
  e_isi2 h (mS _) fun v H1 p => (ty_seq (K := K) p).elim (fun t => ⟨_, t, k2_list⟩) fun t => ⟨_, t, k2_tuple⟩
theorem e_isLTi (h : EvP te σ H (vI (.int i))) : EvP (tCB (rIsiT K) (tCons te (tCons (tTup (tCons (tC (.ty "list")) (tCons (tC (.ty "tuple")) tNil))) tNil))) σ H (vI (.bool false)) :=
  e_isi2 h (mI _) fun v H1 p => ⟨_, ty_int p, k2_int⟩
/-- == of data -/
theorem e_eqD (ha : EvP ta σ H P) (m : Mono P) (hb : EvP tb σ H R) (h1 : ∀ v H1, P v H1 → Dp K H1 v d) (h2 : ∀ v H1, R v H1 → Dp K H1 v e) (s1 : SeqAt.shaped d = true) (s2 : SeqAt.shaped e = true) : EvP (tOp (rEqD K) ta tb) σ H (vI (.bool (PyData.eqv d e))) :=
  ep_op ha m hb fun x y H1 _ p1 p2 Q q => ⟨d, e, h1 x H1 p1, h2 y H1 p2, s1, s2, q _ _ (Ex.refl _) (.bl _)⟩
theorem e_neD (ha : EvP ta σ H P) (m : Mono P) (hb : EvP tb σ H R) (h1 : ∀ v H1, P v H1 → Dp K H1 v d) (h2 : ∀ v H1, R v H1 → Dp K H1 v e) (s1 : SeqAt.shaped d = true) (s2 : SeqAt.shaped e = true) : EvP (tOp (rNeD K) ta tb) σ H (vI (.bool (!PyData.eqv d e))) :=
  ep_op ha m hb fun x y H1 _ p1 p2 Q q => ⟨d, e, h1 x H1 p1, h2 y H1 p2, s1, s2, q _ _ (Ex.refl _) (.bl _)⟩
theorem dpI {v : V} {H1 : Hp} (h : vI d v H1) : Dp K H1 v d := Im.dp h
theorem dpL {v : V} {H1 : Hp} (h : vL ds v H1) : Dp K H1 v (.list ds) := by
  obtain ⟨p, xs, rfl, h, im⟩ := h
  exact .lst (SqL.of h) im.dp
theorem sh_of {α : Type} [DecidableEq α] [Datum α] (x : α) (h : Datum.depth α ≤ 64 := by decide) (hc : ∀ x : α, (Datum.toD x).canLay0 = true) : SeqAt.shaped (Datum.toD x) = true := by
  unfold SeqAt.shaped
  rw [hc x, Bool.true_and]
  exact decide_eq_true (Nat.le_trans (Datum.depth_le x) h)
/-- an item of a tuple or list -/
theorem e_ix {n : Nat} (ha : EvP ta σ H (vS ds)) (hb : EvP tb σ H (vI (.int (n : Int)))) (h : ds[n]? = some d) : EvP (tOp (rIx K) ta tb) σ H (vI d) :=
  ep_op ha (mS _) hb fun x y H1 _ p1 p2 Q q => by
    obtain ⟨p, xs, rfl, hp, im⟩ := p1
    obtain ⟨z, hz, iz⟩ := im.got h
    cases Im.isInt p2
    rcases hp with hp | hp
    · exact .inl ⟨p, xs, _, z, rfl, rfl, SqL.of hp, atI_nat hz, q _ _ (Ex.refl _) iz⟩
    · exact .inr (.inl ⟨p, xs, _, z, rfl, rfl, hp.sq, atI_nat hz, q _ _ (Ex.refl _) iz⟩)
/-- a field -/
theorem e_fld {f : Str} (h : EvP te σ H P) (mr : Mono R) (hf : ∀ v H1, P v H1 → ∃ a C dx fs w, v = .ref a ∧ H1 a = some (.ins C dx fs) ∧ Cls K C ∧ NoAttr K C f ∧ fs.lookup f = some w ∧ R w H1) : EvP (tFld K te f) σ H R := fun H1 e Q q =>
  h H1 e _ fun v H2 e2 p => by
    obtain ⟨a, C, dx, fs, w, h1, h2, h3, h4, h5, h6⟩ := hf v H2 p
    exact ⟨a, C, dx, fs, w, h1, h2, h3, h4, h5, q _ _ e2 h6⟩
/-- in, not in, a sequence of ints -/
theorem inV_ints (n : Int) (ns : List Int) : inV (.int n) (ns.map V.int) = decide (n ∈ ns) := by
  unfold inV
  rw [List.any_map, Bool.eq_iff_iff, List.any_eq_true, decide_eq_true_eq]
  constructor
  · rintro ⟨x, hx, e⟩
    have e' : (x == n) = true := e
    rw [beq_iff_eq] at e'
    rw [← e']
    exact hx
  · intro h
    exact ⟨n, h, (beq_iff_eq (α := Int)).mpr rfl⟩
theorem flat_ints : ∀ ns : List Int, (ns.map V.int).all flatV = true
  | [] => rfl
  | n :: r => by rw [List.map_cons, List.all_cons, flat_ints r]; rfl
theorem e_in {neg : Bool} {n : Int} {ns : List Int} (ha : EvP ta σ H (vI (.int n))) (hb : EvP tb σ H (vS (ns.map .int))) : EvP (tOp (rIn K neg) ta tb) σ H (vI (.bool (if neg then !decide (n ∈ ns) else decide (n ∈ ns)))) :=
  ep_op ha (mI _) hb fun x y H1 _ p1 p2 Q q => by
    obtain ⟨p, xs, rfl, hp, im⟩ := p2
    cases Im.isInt p1
    rw [im.ints] at hp
    refine ⟨p, _, rfl, hp.imp SqL.of Tz.sq, rfl, flat_ints ns, ?_⟩
    rw [inV_ints]
    exact q _ _ (Ex.refl _) (.bl _)
theorem e_lenSet {ns : List Int} (h : EvP te σ H (vS (ns.map .int))) (few : ns.length < 64) (nd : ns.Nodup) : EvP (tLenSetA te) σ H (vI (.int (ns.length : Nat))) := fun H1 e Q q =>
  h H1 e _ fun v H2 e2 p => by
    obtain ⟨l, xs, rfl, hp, im⟩ := p
    rw [im.ints] at hp
    exact .inl ⟨l, ns, rfl, hp, few, nd, q _ _ e2 (.int _)⟩
end
end Lk
end

section
set_option Elab.async false
set_option linter.all false
set_option maxRecDepth 100000
set_option maxHeartbeats 4000000
/-! The text by places; what the top leaves of it. -/
namespace Lk
open PySem PySem.Spec PyProof.Rows L2 Evl PySem.W C8
def topS (i : Nat) : Stmt := PySem.Challenge.pw_lookmade_k63_whole_nothing_to_learn_of_w.main.body.getD i (.Pass ⟨0, 0, 0, 0⟩)

abbrev s_is_integer : Stmt := topS 13
abbrev N_is_integer : List Str := ["value"]
theorem sc_is_integer : FnScope N_is_integer ["value"] (defScope s_is_integer) := ⟨rfl, rfl, rfl, by decide +kernel, rfl, by decide +kernel, by decide +kernel⟩
abbrev s_is_within : Stmt := topS 14
abbrev N_is_within : List Str := ["value", "least", "most"]
theorem sc_is_within : FnScope N_is_within ["value", "least", "most"] (defScope s_is_within) := ⟨rfl, rfl, rfl, by decide +kernel, rfl, by decide +kernel, by decide +kernel⟩
abbrev s_is_bit : Stmt := topS 15
abbrev N_is_bit : List Str := ["value"]
theorem sc_is_bit : FnScope N_is_bit ["value"] (defScope s_is_bit) := ⟨rfl, rfl, rfl, by decide +kernel, rfl, by decide +kernel, by decide +kernel⟩
abbrev s_is_turn : Stmt := topS 16
abbrev N_is_turn : List Str := ["value"]
theorem sc_is_turn : FnScope N_is_turn ["value"] (defScope s_is_turn) := ⟨rfl, rfl, rfl, by decide +kernel, rfl, by decide +kernel, by decide +kernel⟩
abbrev s_is_amount : Stmt := topS 17
abbrev N_is_amount : List Str := ["value", "number"]
theorem sc_is_amount : FnScope N_is_amount ["value"] (defScope s_is_amount) := ⟨rfl, rfl, rfl, by decide +kernel, rfl, by decide +kernel, by decide +kernel⟩
abbrev s_is_lot : Stmt := topS 18
abbrev N_is_lot : List Str := ["value", "each"]
theorem sc_is_lot : FnScope N_is_lot ["value"] (defScope s_is_lot) := ⟨rfl, rfl, rfl, by decide +kernel, rfl, by decide +kernel, by decide +kernel⟩
abbrev s_need_amount : Stmt := topS 19
abbrev N_need_amount : List Str := ["value", "part"]
theorem sc_need_amount : FnScope N_need_amount ["value", "part"] (defScope s_need_amount) := ⟨rfl, rfl, rfl, by decide +kernel, rfl, by decide +kernel, by decide +kernel⟩
abbrev s_pairs_in : Stmt := topS 20
abbrev N_pairs_in : List Str := ["value", "each"]
theorem sc_pairs_in : FnScope N_pairs_in ["value"] (defScope s_pairs_in) := ⟨rfl, rfl, rfl, by decide +kernel, rfl, by decide +kernel, by decide +kernel⟩
abbrev s_is_things : Stmt := topS 31
abbrev N_is_things : List Str := ["value", "things", "thing"]
theorem sc_is_things : FnScope N_is_things ["value", "things"] (defScope s_is_things) := ⟨rfl, rfl, rfl, by decide +kernel, rfl, by decide +kernel, by decide +kernel⟩
abbrev s_is_string : Stmt := topS 32
abbrev N_is_string : List Str := ["value", "things"]
theorem sc_is_string : FnScope N_is_string ["value", "things"] (defScope s_is_string) := ⟨rfl, rfl, rfl, by decide +kernel, rfl, by decide +kernel, by decide +kernel⟩
abbrev s_strings_from : Stmt := topS 33
abbrev N_strings_from : List Str := ["value", "things", "found", "each"]
theorem sc_strings_from : FnScope N_strings_from ["value", "things"] (defScope s_strings_from) := ⟨rfl, rfl, rfl, by decide +kernel, rfl, by decide +kernel, by decide +kernel⟩
abbrev s_things_from : Stmt := topS 34
abbrev N_things_from : List Str := ["value", "things", "part"]
theorem sc_things_from : FnScope N_things_from ["value", "things", "part"] (defScope s_things_from) := ⟨rfl, rfl, rfl, by decide +kernel, rfl, by decide +kernel, by decide +kernel⟩
abbrev s_turns_from : Stmt := topS 35
abbrev N_turns_from : List Str := ["value", "looked", "pairs", "thing", "_", "turn"]
theorem sc_turns_from : FnScope N_turns_from ["value", "looked"] (defScope s_turns_from) := ⟨rfl, rfl, rfl, by decide +kernel, rfl, by decide +kernel, by decide +kernel⟩
abbrev s_need_net : Stmt := topS 40
abbrev N_need_net : List Str := ["value", "part"]
theorem sc_need_net : FnScope N_need_net ["value", "part"] (defScope s_need_net) := ⟨rfl, rfl, rfl, by decide +kernel, rfl, by decide +kernel, by decide +kernel⟩
abbrev s_near_in : Stmt := topS 41
abbrev N_near_in : List Str := ["net", "found", "one", "other", "_", "row"]
theorem sc_near_in : FnScope N_near_in ["net"] (defScope s_near_in) := ⟨rfl, rfl, rfl, by decide +kernel, rfl, by decide +kernel, by decide +kernel⟩
abbrev s_met_by_nets : Stmt := topS 42
abbrev N_met_by_nets : List Str := ["near", "lot", "found", "thing", "other"]
theorem sc_met_by_nets : FnScope N_met_by_nets ["near", "lot"] (defScope s_met_by_nets) := ⟨rfl, rfl, rfl, by decide +kernel, rfl, by decide +kernel, by decide +kernel⟩
abbrev s_fixed : Stmt := topS 45
abbrev N_fixed : List Str := ["value", "each"]
theorem sc_fixed : FnScope N_fixed ["value"] (defScope s_fixed) := ⟨rfl, rfl, rfl, by decide +kernel, rfl, by decide +kernel, by decide +kernel⟩
abbrev s_masks_of : Stmt := topS 51
abbrev N_masks_of : List Str := ["net", "found", "one", "other"]
theorem sc_masks_of : FnScope N_masks_of ["net"] (defScope s_masks_of) := ⟨rfl, rfl, rfl, by decide +kernel, rfl, by decide +kernel, by decide +kernel⟩
abbrev s_mask_of : Stmt := topS 52
abbrev N_mask_of : List Str := ["things", "thing"]
theorem sc_mask_of : FnScope N_mask_of ["things"] (defScope s_mask_of) := ⟨rfl, rfl, rfl, by decide +kernel, rfl, by decide +kernel, by decide +kernel⟩
abbrev s_things_of : Stmt := topS 53
abbrev N_things_of : List Str := ["mask", "thing"]
theorem sc_things_of : FnScope N_things_of ["mask"] (defScope s_things_of) := ⟨rfl, rfl, rfl, by decide +kernel, rfl, by decide +kernel, by decide +kernel⟩
abbrev s_cleared : Stmt := topS 54
abbrev N_cleared : List Str := ["rows", "vector", "made", "its", "more"]
theorem sc_cleared : FnScope N_cleared ["rows", "vector", "made"] (defScope s_cleared) := ⟨rfl, rfl, rfl, by decide +kernel, rfl, by decide +kernel, by decide +kernel⟩
abbrev s_rows_of : Stmt := topS 55
abbrev N_rows_of : List Str := ["pairs", "rows", "nothing", "vector", "made"]
theorem sc_rows_of : FnScope N_rows_of ["pairs"] (defScope s_rows_of) := ⟨rfl, rfl, rfl, by decide +kernel, rfl, by decide +kernel, by decide +kernel⟩
abbrev s_met_alone : Stmt := topS 56
abbrev N_met_alone : List Str := ["masks", "left", "done", "whole", "found", "thing", "rows", "vector", "made"]
theorem sc_met_alone : FnScope N_met_alone ["masks", "left", "done"] (defScope s_met_alone) := ⟨rfl, rfl, rfl, by decide +kernel, rfl, by decide +kernel, by decide +kernel⟩
abbrev s_showing : Stmt := topS 57
abbrev N_showing : List Str := ["masks", "left", "done", "wanted", "whole", "nothing", "thing", "made"]
theorem sc_showing : FnScope N_showing ["masks", "left", "done", "wanted"] (defScope s_showing) := ⟨rfl, rfl, rfl, by decide +kernel, rfl, by decide +kernel, by decide +kernel⟩
abbrev s_free_of : Stmt := topS 58
abbrev N_free_of : List Str := ["net", "things", "thing"]
theorem sc_free_of : FnScope N_free_of ["net", "things"] (defScope s_free_of) := ⟨rfl, rfl, rfl, by decide +kernel, rfl, by decide +kernel, by decide +kernel⟩
abbrev s_layers_in : Stmt := topS 59
abbrev N_layers_in : List Str := ["net", "masks", "done", "left", "layers", "lots", "found", "thing"]
theorem sc_layers_in : FnScope N_layers_in ["net"] (defScope s_layers_in) := ⟨rfl, rfl, rfl, by decide +kernel, rfl, by decide +kernel, by decide +kernel⟩
abbrev s_lots_of : Stmt := topS 60
abbrev N_lots_of : List Str := ["net", "layers", "lots", "left", "done", "thing"]
theorem sc_lots_of : FnScope N_lots_of ["net"] (defScope s_lots_of) := ⟨rfl, rfl, rfl, by decide +kernel, rfl, by decide +kernel, by decide +kernel⟩
abbrev s_is_row : Stmt := topS 62
abbrev N_is_row : List Str := ["value", "things", "one", "other", "each"]
theorem sc_is_row : FnScope N_is_row ["value", "things"] (defScope s_is_row) := ⟨rfl, rfl, rfl, by decide +kernel, rfl, by decide +kernel, by decide +kernel⟩
abbrev s_are_rows : Stmt := topS 63
abbrev N_are_rows : List Str := ["value", "wanted", "things", "thing", "_", "row", "each"]
theorem sc_are_rows : FnScope N_are_rows ["value", "wanted", "things"] (defScope s_are_rows) := ⟨rfl, rfl, rfl, by decide +kernel, rfl, by decide +kernel, by decide +kernel⟩
abbrev s_are_layers : Stmt := topS 64
abbrev N_are_layers : List Str := ["net", "value", "layer", "thing"]
theorem sc_are_layers : FnScope N_are_layers ["net", "value"] (defScope s_are_layers) := ⟨rfl, rfl, rfl, by decide +kernel, rfl, by decide +kernel, by decide +kernel⟩
abbrev s_met_by_check_lots : Stmt := topS 65
abbrev N_met_by_check_lots : List Str := ["masks", "lot", "found", "thing"]
theorem sc_met_by_check_lots : FnScope N_met_by_check_lots ["masks", "lot"] (defScope s_met_by_check_lots) := ⟨rfl, rfl, rfl, by decide +kernel, rfl, by decide +kernel, by decide +kernel⟩
abbrev s_are_right : Stmt := topS 67
abbrev N_are_right : List Str := ["net", "value", "masks", "lots", "later", "free", "layer", "thing", "met"]
theorem sc_are_right : FnScope N_are_right ["net", "value"] (defScope s_are_right) := ⟨rfl, rfl, rfl, by decide +kernel, rfl, by decide +kernel, by decide +kernel⟩
abbrev s_need_lots : Stmt := topS 68
abbrev N_need_lots : List Str := ["net", "value", "part"]
theorem sc_need_lots : FnScope N_need_lots ["net", "value", "part"] (defScope s_need_lots) := ⟨rfl, rfl, rfl, by decide +kernel, rfl, by decide +kernel, by decide +kernel⟩
abbrev s_need_nothing_given : Stmt := topS 72
abbrev N_need_nothing_given : List Str := ["net"]
theorem sc_need_nothing_given : FnScope N_need_nothing_given ["net"] (defScope s_need_nothing_given) := ⟨rfl, rfl, rfl, by decide +kernel, rfl, by decide +kernel, by decide +kernel⟩
abbrev s_times : Stmt := topS 75
abbrev N_times : List Str := ["one", "other", "a", "b", "c", "d", "e", "f", "g", "h"]
theorem sc_times : FnScope N_times ["one", "other"] (defScope s_times) := ⟨rfl, rfl, rfl, by decide +kernel, rfl, by decide +kernel, by decide +kernel⟩
abbrev s_mirror : Stmt := topS 76
abbrev N_mirror : List Str := ["amount", "a", "b", "c", "d"]
theorem sc_mirror : FnScope N_mirror ["amount"] (defScope s_mirror) := ⟨rfl, rfl, rfl, by decide +kernel, rfl, by decide +kernel, by decide +kernel⟩
abbrev s_multiplied : Stmt := topS 77
abbrev N_multiplied : List Str := ["one", "other"]
theorem sc_multiplied : FnScope N_multiplied ["one", "other"] (defScope s_multiplied) := ⟨rfl, rfl, rfl, by decide +kernel, rfl, by decide +kernel, by decide +kernel⟩
abbrev s_mirrored : Stmt := topS 78
abbrev N_mirrored : List Str := ["amount"]
theorem sc_mirrored : FnScope N_mirrored ["amount"] (defScope s_mirrored) := ⟨rfl, rfl, rfl, by decide +kernel, rfl, by decide +kernel, by decide +kernel⟩
abbrev s_need_falls : Stmt := topS 80
abbrev N_need_falls : List Str := ["falls", "many", "fall"]
theorem sc_need_falls : FnScope N_need_falls ["falls", "many"] (defScope s_need_falls) := ⟨rfl, rfl, rfl, by decide +kernel, rfl, by decide +kernel, by decide +kernel⟩
abbrev s_need_told : Stmt := topS 83
abbrev N_need_told : List Str := ["value", "things", "turn"]
theorem sc_need_told : FnScope N_need_told ["value", "things"] (defScope s_need_told) := ⟨rfl, rfl, rfl, by decide +kernel, rfl, by decide +kernel, by decide +kernel⟩
abbrev s_secrets_for : Stmt := topS 84
abbrev N_secrets_for : List Str := ["waiting", "told", "falls", "bits", "bit", "truths", "found", "thing", "fall"]
theorem sc_secrets_for : FnScope N_secrets_for ["waiting", "told", "falls", "bits"] (defScope s_secrets_for) := ⟨rfl, rfl, rfl, by decide +kernel, rfl, by decide +kernel, by decide +kernel⟩
abbrev s_ways_to : Stmt := topS 85
abbrev N_ways_to : List Str := ["net", "paper", "told", "falls", "turns", "heard", "waiting", "things", "rows", "number", "thing", "bits"]
theorem sc_ways_to : FnScope N_ways_to ["net", "paper", "told", "falls"] (defScope s_ways_to) := ⟨rfl, rfl, rfl, by decide +kernel, rfl, by decide +kernel, by decide +kernel⟩
abbrev s_law_heap : Stmt := topS 87
abbrev N_law_heap : List Str := ["_law_script", "_law_cell"]
theorem sc_law_heap : FnScope N_law_heap ["_law_script"] (defScope s_law_heap) := ⟨rfl, rfl, rfl, by decide +kernel, rfl, by decide +kernel, by decide +kernel⟩
abbrev s_law_sift : Stmt := topS 88
abbrev N_law_sift : List Str := ["_law_heap_here", "_law_many", "_law_sand", "_law_lap", "_law_cell", "_law_dust"]
theorem sc_law_sift : FnScope N_law_sift ["_law_heap_here", "_law_many"] (defScope s_law_sift) := ⟨rfl, rfl, rfl, by decide +kernel, rfl, by decide +kernel, by decide +kernel⟩
abbrev s_law_any_of : Stmt := topS 89
abbrev N_law_any_of : List Str := ["_law_heap_here", "_law_some"]
theorem sc_law_any_of : FnScope N_law_any_of ["_law_heap_here", "_law_some"] (defScope s_law_any_of) := ⟨rfl, rfl, rfl, by decide +kernel, rfl, by decide +kernel, by decide +kernel⟩
abbrev s_law_mixed : Stmt := topS 90
abbrev N_law_mixed : List Str := ["_law_heap_here", "_law_some", "_law_left", "_law_found"]
theorem sc_law_mixed : FnScope N_law_mixed ["_law_heap_here", "_law_some"] (defScope s_law_mixed) := ⟨rfl, rfl, rfl, by decide +kernel, rfl, by decide +kernel, by decide +kernel⟩
abbrev s_law_turned : Stmt := topS 91
abbrev N_law_turned : List Str := ["_law_amount", "_law_turn", "_law_a", "_law_b", "_law_c", "_law_d", "_law_lap"]
theorem sc_law_turned : FnScope N_law_turned ["_law_amount", "_law_turn"] (defScope s_law_turned) := ⟨rfl, rfl, rfl, by decide +kernel, rfl, by decide +kernel, by decide +kernel⟩
abbrev s_law_sum : Stmt := topS 92
abbrev N_law_sum : List Str := ["_law_one", "_law_other", "_law_mine", "_law_its"]
theorem sc_law_sum : FnScope N_law_sum ["_law_one", "_law_other"] (defScope s_law_sum) := ⟨rfl, rfl, rfl, by decide +kernel, rfl, by decide +kernel, by decide +kernel⟩
abbrev s_law_deeds : Stmt := topS 95
abbrev N_law_deeds : List Str := ["_law_heap_here", "_law_wires", "_law_many", "_law_found", "_law_turn", "_law_way", "_law_wire"]
theorem sc_law_deeds : FnScope N_law_deeds ["_law_heap_here", "_law_wires", "_law_many"] (defScope s_law_deeds) := ⟨rfl, rfl, rfl, by decide +kernel, rfl, by decide +kernel, by decide +kernel⟩
abbrev s_law_asked : Stmt := topS 96
abbrev N_law_asked : List Str := ["_law_wires", "_law_deeds_here", "_law_now_here", "_law_gathered", "_law_things", "_law_strings", "_law_turns", "_law_lots", "_law_wire", "_law_deed", "_law_pair", "_law_other"]
theorem sc_law_asked : FnScope N_law_asked ["_law_wires", "_law_deeds_here"] (defScope s_law_asked) := ⟨rfl, rfl, rfl, by decide +kernel, rfl, by decide +kernel, by decide +kernel⟩
abbrev s_law_waits : Stmt := topS 97
abbrev N_law_waits : List Str := ["_law_things", "_law_strings", "_law_lots", "_law_thing", "_law_signers", "_law_other", "_law_lot", "_law_met", "_law_pair"]
theorem sc_law_waits : FnScope N_law_waits ["_law_things", "_law_strings", "_law_lots", "_law_thing"] (defScope s_law_waits) := ⟨rfl, rfl, rfl, by decide +kernel, rfl, by decide +kernel, by decide +kernel⟩
abbrev s_law_now : Stmt := topS 98
abbrev N_law_now : List Str := ["_law_parts_here", "_law_lots", "_law_thing", "_law_falls", "_law_things", "_law_strings", "_law_kept", "_law_turns", "_law_exchangers", "_law_signers", "_law_turn", "_law_other"]
theorem sc_law_now : FnScope N_law_now ["_law_parts_here", "_law_lots", "_law_thing", "_law_falls"] (defScope s_law_now) := ⟨rfl, rfl, rfl, by decide +kernel, rfl, by decide +kernel, by decide +kernel⟩
abbrev s_law_parts : Stmt := topS 100
abbrev N_law_parts : List Str := ["_law_heap_here", "_law_most", "_law_wires", "_law_things", "_law_strings", "_law_kept", "_law_turns", "_law_lots", "_law_turn", "_law_one", "_law_paper", "_law_thing", "_law_other", "_law_lot"]
theorem sc_law_parts : FnScope N_law_parts ["_law_heap_here", "_law_most"] (defScope s_law_parts) := ⟨rfl, rfl, rfl, by decide +kernel, rfl, by decide +kernel, by decide +kernel⟩
abbrev s_law_ways : Stmt := topS 101
abbrev N_law_ways : List Str := ["_law_parts_here", "_law_lots", "_law_told", "_law_falls", "_law_things", "_law_found", "_law_row", "_law_bits", "_law_truths", "_law_thing", "_law_fall", "_law_bit"]
theorem sc_law_ways : FnScope N_law_ways ["_law_parts_here", "_law_lots", "_law_told", "_law_falls"] (defScope s_law_ways) := ⟨rfl, rfl, rfl, by decide +kernel, rfl, by decide +kernel, by decide +kernel⟩
abbrev s_law_products : Stmt := topS 102
abbrev N_law_products : List Str := ["_law_ways_here", "_law_things", "_law_one", "_law_other", "_law_whole", "_law_way", "_law_turns", "_law_number", "_law_thing"]
theorem sc_law_products : FnScope N_law_products ["_law_ways_here", "_law_things", "_law_one", "_law_other"] (defScope s_law_products) := ⟨rfl, rfl, rfl, by decide +kernel, rfl, by decide +kernel, by decide +kernel⟩
abbrev s_law_right : Stmt := topS 103
abbrev N_law_right : List Str := ["_law_heap_here", "_law_parts_here", "_law_lots", "_law_paper", "_law_things", "_law_strings", "_law_kept", "_law_turns", "_law_net", "_law_told", "_law_falls", "_law_ways_here", "_law_given", "_law_lap", "_law_one", "_law_other", "_law_due", "_law_thing"]
theorem sc_law_right : FnScope N_law_right ["_law_heap_here", "_law_parts_here", "_law_lots", "_law_paper"] (defScope s_law_right) := ⟨rfl, rfl, rfl, by decide +kernel, rfl, by decide +kernel, by decide +kernel⟩
abbrev s_law : Stmt := topS 104
abbrev N_law : List Str := ["_law_script", "_law_heap_here", "_law_turn", "_law_parts_here", "_law_lots", "_law_paper", "_law_lone"]
theorem sc_law : FnScope N_law ["_law_script"] (defScope s_law) := ⟨rfl, rfl, rfl, by decide +kernel, rfl, by decide +kernel, by decide +kernel⟩
abbrev s_Net_init : Stmt := inClass (topS 39) 0
abbrev N_Net_init : List Str := ["self", "things", "strings", "given", "kept", "turns", "thing"]
theorem sc_Net_init : FnScope N_Net_init ["self", "things", "strings", "given", "kept", "turns"] (defScope s_Net_init) := ⟨rfl, rfl, rfl, by decide +kernel, rfl, by decide +kernel, by decide +kernel⟩
abbrev s_Paper_init : Stmt := inClass (topS 46) 0
abbrev N_Paper_init : List Str := ["self", "word", "parts"]
theorem sc_Paper_init : FnScope N_Paper_init ["self", "word", "parts"] (defScope s_Paper_init) := ⟨rfl, rfl, rfl, by decide +kernel, rfl, by decide +kernel, by decide +kernel⟩
abbrev s_Lots_init : Stmt := inClass (topS 49) 0
abbrev N_Lots_init : List Str := ["self", "layers", "lots"]
abbrev s_Stuck_init : Stmt := inClass (topS 50) 0
abbrev N_Stuck_init : List Str := ["self", "left", "shows"]
abbrev s_Waiting_init : Stmt := inClass (topS 73) 0
abbrev N_Waiting_init : List Str := ["self", "net", "paper", "near", "thing", "lot", "other"]
theorem sc_Waiting_init : FnScope N_Waiting_init ["self", "net", "paper"] (defScope s_Waiting_init) := ⟨rfl, rfl, rfl, by decide +kernel, rfl, by decide +kernel, by decide +kernel⟩
abbrev s_Waiting_now : Stmt := inClass (topS 73) 2
abbrev N_Waiting_now : List Str := ["self", "thing", "falls", "turn", "other"]
theorem sc_Waiting_now : FnScope N_Waiting_now ["self", "thing", "falls"] (defScope s_Waiting_now) := ⟨rfl, rfl, rfl, by decide +kernel, rfl, by decide +kernel, by decide +kernel⟩

/-- a def as the top leaves it, by a name -/
structure Df (K : PySem.W.Frag) (mg : Str → Option Value) (x name : Str) (st : Stmt) (dvs : List V) : Prop where
  ex : ∃ f fd, FunD K name name (defArgs st) (defBody st) (defScope st) dvs [] f fd ∧ mg x = some (.ref f)
/-- what stands of such a def behind the top -/
structure SupD (K : PySem.W.Frag) (prog : Program) (C f f2 : Addr) (qual : Str) (st : Stmt) : Prop where
  ex : ∃ (oc : Value) (od : Option Addr) (kV doc pm : Value) (an : Option Addr) (cda : Addr) (ct : Value) (cc : Addr) (osl : Array (Option Value)) (vs : Array Value) (file : Str) (tf : Tok) (ccl : Value) (cdd : Option Addr) (ccs : Array (Option Value)) (cl : Value) (cld : Option Addr) (csl : Array (Option Value)),
    K.lookup f = some ⟨oc, od, .func (PySem.W.ksFn "__init__" qual (defArgs st) (defBody st) (defScope st) .none kV doc pm an (.ref cda) ct cc), osl⟩ ∧ PySem.W.codeIn K (.ref cda) qual = true ∧ K.lookup cda = some ⟨ccl, cdd, .fields vs, ccs⟩ ∧ vs[2]? = some (.str file tf) ∧ ((prog.main.file : Str) == file) = true ∧ K.lookup cc = some ⟨cl, cld, .cell (some (.ref C)), csl⟩
  cls : ∃ cd, PySem.W.clsIn K C = some cd
  sub : PySem.W.mroIn K C (.ref C) = some true
  sup : PySem.W.ks_superIn K C C "__init__" = some (some (.ref f2))
  ty : PySem.W.typeIn K (.ref f2) = some (.type "function")
  fn : PySem.W.fnIn K f2 = true
  nt : PySem.W.nsIn K cStatics "thirdparty.any" = some none
  top : (prog.main.scope.names.lookup ("super" : Str)).isSome = false
structure Cs where
  net : Addr
  lots : Addr
  stuck : Addr
  waiting : Addr
  paper : Addr
  prog : Program
structure Txt (K : PySem.W.Frag) (mg : Str → Option Value) (c : Cs) : Prop where
  d_is_integer : Df K mg "is_integer" "is_integer" s_is_integer []
  d_is_within : Df K mg "is_within" "is_within" s_is_within []
  d_is_bit : Df K mg "is_bit" "is_bit" s_is_bit []
  d_is_turn : Df K mg "is_turn" "is_turn" s_is_turn []
  d_is_amount : Df K mg "is_amount" "is_amount" s_is_amount []
  d_is_lot : Df K mg "is_lot" "is_lot" s_is_lot []
  d_need_amount : Df K mg "need_amount" "need_amount" s_need_amount []
  d_pairs_in : Df K mg "pairs_in" "pairs_in" s_pairs_in []
  d_is_things : Df K mg "is_things" "is_things" s_is_things []
  d_is_string : Df K mg "is_string" "is_string" s_is_string []
  d_strings_from : Df K mg "strings_from" "strings_from" s_strings_from []
  d_things_from : Df K mg "things_from" "things_from" s_things_from []
  d_turns_from : Df K mg "turns_from" "turns_from" s_turns_from []
  d_need_net : Df K mg "need_net" "need_net" s_need_net [.str "net"]
  d_near_in : Df K mg "near_in" "near_in" s_near_in []
  d_met_by_nets : Df K mg "met_by_nets" "met_by" s_met_by_nets []
  d_fixed : Df K mg "fixed" "fixed" s_fixed []
  d_masks_of : Df K mg "masks_of" "masks_of" s_masks_of []
  d_mask_of : Df K mg "mask_of" "mask_of" s_mask_of []
  d_things_of : Df K mg "things_of" "things_of" s_things_of []
  d_cleared : Df K mg "cleared" "cleared" s_cleared []
  d_rows_of : Df K mg "rows_of" "rows_of" s_rows_of []
  d_met_alone : Df K mg "met_alone" "met_alone" s_met_alone []
  d_showing : Df K mg "showing" "showing" s_showing []
  d_free_of : Df K mg "free_of" "free_of" s_free_of []
  d_layers_in : Df K mg "layers_in" "layers_in" s_layers_in []
  d_lots_of : Df K mg "lots_of" "lots_of" s_lots_of []
  d_is_row : Df K mg "is_row" "is_row" s_is_row []
  d_are_rows : Df K mg "are_rows" "are_rows" s_are_rows []
  d_are_layers : Df K mg "are_layers" "are_layers" s_are_layers []
  d_met_by_check_lots : Df K mg "met_by_check_lots" "met_by" s_met_by_check_lots []
  d_are_right : Df K mg "are_right" "are_right" s_are_right []
  d_need_lots : Df K mg "need_lots" "need_lots" s_need_lots []
  d_need_nothing_given : Df K mg "need_nothing_given" "need_nothing_given" s_need_nothing_given []
  d_times : Df K mg "times" "times" s_times []
  d_mirror : Df K mg "mirror" "mirror" s_mirror []
  d_multiplied : Df K mg "multiplied" "multiplied" s_multiplied []
  d_mirrored : Df K mg "mirrored" "mirrored" s_mirrored []
  d_need_falls : Df K mg "need_falls" "need_falls" s_need_falls []
  d_need_told : Df K mg "need_told" "need_told" s_need_told []
  d_secrets_for : Df K mg "secrets_for" "secrets_for" s_secrets_for []
  d_ways_to : Df K mg "ways_to" "ways_to" s_ways_to []
  d_law_heap : Df K mg "_law_heap" "_law_heap" s_law_heap []
  d_law_sift : Df K mg "_law_sift" "_law_sift" s_law_sift []
  d_law_any_of : Df K mg "_law_any_of" "_law_any_of" s_law_any_of []
  d_law_mixed : Df K mg "_law_mixed" "_law_mixed" s_law_mixed []
  d_law_turned : Df K mg "_law_turned" "_law_turned" s_law_turned []
  d_law_sum : Df K mg "_law_sum" "_law_sum" s_law_sum []
  d_law_deeds : Df K mg "_law_deeds" "_law_deeds" s_law_deeds []
  d_law_asked : Df K mg "_law_asked" "_law_asked" s_law_asked []
  d_law_waits : Df K mg "_law_waits" "_law_waits" s_law_waits []
  d_law_now : Df K mg "_law_now" "_law_now" s_law_now []
  d_law_parts : Df K mg "_law_parts" "_law_parts" s_law_parts []
  d_law_ways : Df K mg "_law_ways" "_law_ways" s_law_ways []
  d_law_products : Df K mg "_law_products" "_law_products" s_law_products []
  d_law_right : Df K mg "_law_right" "_law_right" s_law_right []
  d_law : Df K mg "law" "law" s_law []
  m_Net_init : ∃ f fd, Mk K c.net f ∧ FunD K "__init__" "Net.__init__" (defArgs s_Net_init) (defBody s_Net_init) (defScope s_Net_init) [] [] f fd
  m_Lots_init : ∃ f f2 fd2, Mk K c.lots f ∧ SupD K c.prog c.lots f f2 "Lots.__init__" s_Lots_init ∧ FunD K "__init__" "Paper.__init__" (defArgs s_Paper_init) (defBody s_Paper_init) (defScope s_Paper_init) [] [] f2 fd2
  m_Stuck_init : ∃ f f2 fd2, Mk K c.stuck f ∧ SupD K c.prog c.stuck f f2 "Stuck.__init__" s_Stuck_init ∧ FunD K "__init__" "Paper.__init__" (defArgs s_Paper_init) (defBody s_Paper_init) (defScope s_Paper_init) [] [] f2 fd2
  m_Waiting_init : ∃ f fd, Mk K c.waiting f ∧ FunD K "__init__" "Waiting.__init__" (defArgs s_Waiting_init) (defBody s_Waiting_init) (defScope s_Waiting_init) [] [] f fd
  m_Waiting_now : ∃ f fd, Meth K c.waiting "now" f ∧ FunD K "now" "Waiting.now" (defArgs s_Waiting_now) (defBody s_Waiting_now) (defScope s_Waiting_now) [] [] f fd
  b_len : mg "len" = none
  b_all : mg "all" = none
  b_sum : mg "sum" = none
  b_sorted : mg "sorted" = none
  b_tuple : mg "tuple" = none
  b_list : mg "list" = none
  b_int : mg "int" = none
  b_isinstance : mg "isinstance" = none
  b_dict : mg "dict" = none
  b_set : mg "set" = none
  b_abs : mg "abs" = none
  b_repr : mg "repr" = none
  b_range : mg "range" = none
  b_zip : mg "zip" = none
  b_enumerate : mg "enumerate" = none
  b_super : mg "super" = none
  b_bool : mg "bool" = none
  g_TURNS : ∃ u, mg "TURNS" = some u ∧ RelV (.int 8) u
  g_MOST_THINGS_nets : ∃ u, mg "MOST_THINGS_nets" = some u ∧ RelV (.int 120) u
  g_ROUND : ∃ u, mg "ROUND" = some u ∧ RelV (.int 8) u
  g_HALF : ∃ u, mg "HALF" = some u ∧ RelV (.int 4) u
  g_MOST_THINGS_ways : ∃ u, mg "MOST_THINGS_ways" = some u ∧ RelV (.int 6) u
  g_Net : mg "Net" = some (.ref c.net)
  cl_Net : Cls K c.net
  g_Lots : mg "Lots" = some (.ref c.lots)
  cl_Lots : Cls K c.lots
  g_Stuck : mg "Stuck" = some (.ref c.stuck)
  cl_Stuck : Cls K c.stuck
  g_Waiting : mg "Waiting" = some (.ref c.waiting)
  cl_Waiting : Cls K c.waiting
  nNet_things : NoAttr K c.net "things"
  nNet_strings : NoAttr K c.net "strings"
  nNet_given : NoAttr K c.net "given"
  nNet_kept : NoAttr K c.net "kept"
  nNet_looked : NoAttr K c.net "looked"
  nNet_turns : NoAttr K c.net "turns"
  nLots_word : NoAttr K c.lots "word"
  nLots_parts : NoAttr K c.lots "parts"
  nLots_layers : NoAttr K c.lots "layers"
  nLots_lots : NoAttr K c.lots "lots"
  nStuck_word : NoAttr K c.stuck "word"
  nStuck_parts : NoAttr K c.stuck "parts"
  nStuck_left : NoAttr K c.stuck "left"
  nStuck_shows : NoAttr K c.stuck "shows"
  nWaiting_net : NoAttr K c.waiting "net"
  nWaiting_own : NoAttr K c.waiting "own"
  nWaiting_exchangers : NoAttr K c.waiting "exchangers"
  nWaiting_signers : NoAttr K c.waiting "signers"
  i_Net : InsC K c.net
  i_Lots : InsC K c.lots
  i_Stuck : InsC K c.stuck
  k_net : PySem.W.kitOne K (.ref c.net) (.ref c.net) = some true
  k_lots : PySem.W.kitOne K (.ref c.lots) (.ref c.lots) = some true
  k_stuck : PySem.W.kitOne K (.ref c.stuck) (.ref c.lots) = some false
  rest : True

section
variable {P : Program} {w : World} {K : PySem.W.Frag} {mg : Str → Option Value} {base : Heap}
/-- a def keeps its promise -/
theorem mkCal {x name : Str} {st : Stmt} {N ps : List Str} {k : Nat} {sp : Sp} (D : Df K mg x name st []) (S : FnScope N ps (defScope st))
    (hb : ∀ (kV doc pm : Value) (an : Option Addr) (cdv ct : Value) (us : List Value), us.length = ps.length → bindArgs (PySem.W.fnOf name name (defArgs st) (defBody st) (defScope st) .none kV doc pm an cdv ct) ⟨us, []⟩ = pure (ps.zip us))
    (len : ∀ vs H Q E, sp vs H Q E → vs.length = ps.length)
    (body : ∀ (f : Addr) (cdv : Value) (A : Around) (outer : List Env) (s : Shared) (H : Hp) (vs : List V) (Q : VK) (E : XK), Room k (A.deeper (envOfC name (defScope st) s.heap.objs.size f cdv)) → sp vs H Q E →
      ∃ t, PSs (cxOf L2.CX0 P w K mg base N name (defScope st) f cdv A outer s H E).nox (defBody st) t ∧ t { nx := fun _ H' => Q .non H', rt := Q } (start N vs) H) : Cal P w K mg base (k + 1) x sp [] := by
  obtain ⟨f, fd, F, m⟩ := D.ex
  exact ⟨f, fd, ps, [], F.ok S len fun cdv A outer s H vs Q E hr h => by
    obtain ⟨t, a, b⟩ := body f cdv A outer s H vs Q E hr h
    exact ⟨t, a.nox, b⟩, m, F.kp, F.bindsN hb, .nil⟩
end
end Lk
end

section
set_option Elab.async false
set_option linter.all false
set_option maxRecDepth 100000
set_option maxHeartbeats 0
/-! The head: what the top leaves, read by a Hook. -/
namespace Lk
open PySem PySem.Spec PyProof.Rows L2 Evl PySem.W C8
def looseN0 : List Str := ["_wall", "LookError", "BadNumber", "BadAmount", "BadNet", "BadLots", "BadFalls", "Misfit", "TooMany", "BadText", "TURNS", "is_integer"]
def looseN1 : List Str := ["is_within", "is_bit", "is_turn", "is_amount", "is_lot", "need_amount", "pairs_in", "FIGURES", "MOST_FIGURES", "written", "Scan", "scans_of"]
def looseN2 : List Str := ["scan_at", "MOST_THINGS_nets", "LAST_TURN", "is_things", "is_string", "strings_from", "things_from", "turns_from", "taken_things", "taken_string", "taken_turn", "Net"]
def looseN3 : List Str := ["need_net", "near_in", "met_by", "met_by_nets", "fixed", "Paper", "Denial", "Lots", "Stuck", "masks_of", "mask_of", "things_of"]
def looseN4 : List Str := ["cleared", "rows_of", "met_alone", "showing", "free_of", "layers_in", "lots_of", "is_row", "are_rows", "are_layers", "met_by_check_lots", "are_right"]
def looseN5 : List Str := ["need_lots", "ROUND", "HALF", "need_nothing_given", "Waiting", "times", "mirror", "multiplied", "mirrored", "need_falls", "MOST_THINGS_ways", "need_told"]
def looseN6 : List Str := ["secrets_for", "ways_to", "_law_heap", "_law_sift", "_law_any_of", "_law_mixed", "_law_turned", "_law_sum", "_law_times", "_law_size", "_law_deeds", "_law_asked"]
def looseN7 : List Str := ["_law_waits", "_law_now", "_law_before", "_law_parts", "_law_ways", "_law_products", "_law_right"]
def looseN : List Str := looseN0 ++ (looseN1 ++ (looseN2 ++ (looseN3 ++ (looseN4 ++ (looseN5 ++ (looseN6 ++ (looseN7)))))))
abbrev RowO : PySem.W.OpenRow := PySem.W.OpenLaw.row PySem.Challenge.rw_lookmade_k63_whole_nothing_to_learn_of_w
def dAt (x name : Str) (st : Stmt) (dfl : List He.Dv) : He.DefD := ⟨(x, none), name, name, defArgs st, defBody st, defScope st, dfl, []⟩
def mAt (C m qual : Str) (st : Stmt) : He.DefD := ⟨(C, some m), m, qual, defArgs st, defBody st, defScope st, [], []⟩
def fnZ0 : List He.DefD := [dAt "is_integer" "is_integer" s_is_integer [], dAt "is_within" "is_within" s_is_within [], dAt "is_bit" "is_bit" s_is_bit [], dAt "is_turn" "is_turn" s_is_turn [], dAt "is_amount" "is_amount" s_is_amount [], dAt "is_lot" "is_lot" s_is_lot [], dAt "need_amount" "need_amount" s_need_amount [], dAt "pairs_in" "pairs_in" s_pairs_in [], dAt "is_things" "is_things" s_is_things [], dAt "is_string" "is_string" s_is_string []]
def fnZ1 : List He.DefD := [dAt "strings_from" "strings_from" s_strings_from [], dAt "things_from" "things_from" s_things_from [], dAt "turns_from" "turns_from" s_turns_from [], dAt "need_net" "need_net" s_need_net [.str "net"], dAt "near_in" "near_in" s_near_in [], dAt "met_by_nets" "met_by" s_met_by_nets [], dAt "fixed" "fixed" s_fixed [], dAt "masks_of" "masks_of" s_masks_of [], dAt "mask_of" "mask_of" s_mask_of [], dAt "things_of" "things_of" s_things_of []]
def fnZ2 : List He.DefD := [dAt "cleared" "cleared" s_cleared [], dAt "rows_of" "rows_of" s_rows_of [], dAt "met_alone" "met_alone" s_met_alone [], dAt "showing" "showing" s_showing [], dAt "free_of" "free_of" s_free_of [], dAt "layers_in" "layers_in" s_layers_in [], dAt "lots_of" "lots_of" s_lots_of [], dAt "is_row" "is_row" s_is_row [], dAt "are_rows" "are_rows" s_are_rows [], dAt "are_layers" "are_layers" s_are_layers []]
def fnZ3 : List He.DefD := [dAt "met_by_check_lots" "met_by" s_met_by_check_lots [], dAt "are_right" "are_right" s_are_right [], dAt "need_lots" "need_lots" s_need_lots [], dAt "need_nothing_given" "need_nothing_given" s_need_nothing_given [], dAt "times" "times" s_times [], dAt "mirror" "mirror" s_mirror [], dAt "multiplied" "multiplied" s_multiplied [], dAt "mirrored" "mirrored" s_mirrored [], dAt "need_falls" "need_falls" s_need_falls [], dAt "need_told" "need_told" s_need_told []]
def fnZ4 : List He.DefD := [dAt "secrets_for" "secrets_for" s_secrets_for [], dAt "ways_to" "ways_to" s_ways_to [], dAt "_law_heap" "_law_heap" s_law_heap [], dAt "_law_sift" "_law_sift" s_law_sift [], dAt "_law_any_of" "_law_any_of" s_law_any_of [], dAt "_law_mixed" "_law_mixed" s_law_mixed [], dAt "_law_turned" "_law_turned" s_law_turned [], dAt "_law_sum" "_law_sum" s_law_sum [], dAt "_law_deeds" "_law_deeds" s_law_deeds [], dAt "_law_asked" "_law_asked" s_law_asked []]
def fnZ5 : List He.DefD := [dAt "_law_waits" "_law_waits" s_law_waits [], dAt "_law_now" "_law_now" s_law_now [], dAt "_law_parts" "_law_parts" s_law_parts [], dAt "_law_ways" "_law_ways" s_law_ways [], dAt "_law_products" "_law_products" s_law_products [], dAt "_law_right" "_law_right" s_law_right [], dAt "law" "law" s_law [], mAt "Net" "__init__" "Net.__init__" s_Net_init, mAt "Paper" "__init__" "Paper.__init__" s_Paper_init, mAt "Waiting" "__init__" "Waiting.__init__" s_Waiting_init]
def fnZ6 : List He.DefD := [mAt "Waiting" "now" "Waiting.now" s_Waiting_now]
def fnZ : List He.DefD := fnZ0 ++ (fnZ1 ++ (fnZ2 ++ (fnZ3 ++ (fnZ4 ++ (fnZ5 ++ (fnZ6))))))
def faZ0 : List He.Fa := [.glo "is_integer", .glo "is_within", .glo "is_bit", .glo "is_turn", .glo "is_amount", .glo "is_lot", .glo "need_amount", .glo "pairs_in", .glo "is_things", .glo "is_string", .glo "strings_from", .glo "things_from"]
def faZ1 : List He.Fa := [.glo "turns_from", .glo "need_net", .glo "near_in", .glo "met_by_nets", .glo "fixed", .glo "masks_of", .glo "mask_of", .glo "things_of", .glo "cleared", .glo "rows_of", .glo "met_alone", .glo "showing"]
def faZ2 : List He.Fa := [.glo "free_of", .glo "layers_in", .glo "lots_of", .glo "is_row", .glo "are_rows", .glo "are_layers", .glo "met_by_check_lots", .glo "are_right", .glo "need_lots", .glo "need_nothing_given", .glo "times", .glo "mirror"]
def faZ3 : List He.Fa := [.glo "multiplied", .glo "mirrored", .glo "need_falls", .glo "need_told", .glo "secrets_for", .glo "ways_to", .glo "_law_heap", .glo "_law_sift", .glo "_law_any_of", .glo "_law_mixed", .glo "_law_turned", .glo "_law_sum"]
def faZ4 : List He.Fa := [.glo "_law_deeds", .glo "_law_asked", .glo "_law_waits", .glo "_law_now", .glo "_law_parts", .glo "_law_ways", .glo "_law_products", .glo "_law_right", .glo "law", .mkr "Net", .mkr "Lots", .mkr "Stuck"]
def faZ5 : List He.Fa := [.mkr "Waiting", .meth "Waiting" "now", .free "len", .free "all", .free "sum", .free "sorted", .free "tuple", .free "list", .free "int", .free "isinstance", .free "dict", .free "set"]
def faZ6 : List He.Fa := [.free "abs", .free "repr", .free "range", .free "zip", .free "enumerate", .free "super", .free "bool", .int "TURNS" 8, .int "MOST_THINGS_nets" 120, .int "ROUND" 8, .int "HALF" 4, .int "MOST_THINGS_ways" 6]
def faZ7 : List He.Fa := [.glo "Net", .cls "Net", .glo "Lots", .cls "Lots", .glo "Stuck", .cls "Stuck", .glo "Waiting", .cls "Waiting", .noat "Net" "things", .noat "Net" "strings", .noat "Net" "given", .noat "Net" "kept"]
def faZ8 : List He.Fa := [.noat "Net" "looked", .noat "Net" "turns", .noat "Lots" "word", .noat "Lots" "parts", .noat "Lots" "layers", .noat "Lots" "lots", .noat "Stuck" "word", .noat "Stuck" "parts", .noat "Stuck" "left", .noat "Stuck" "shows", .noat "Waiting" "net", .noat "Waiting" "own"]
def faZ9 : List He.Fa := [.noat "Waiting" "exchangers", .noat "Waiting" "signers"]
def faZ : List He.Fa := faZ0 ++ (faZ1 ++ (faZ2 ++ (faZ3 ++ (faZ4 ++ (faZ5 ++ (faZ6 ++ (faZ7 ++ (faZ8 ++ (faZ9)))))))))
/-! what the Hook looks at -/
def refsF (o : Obj) : List Addr := match o.data with
  | .func fd => He.refV fd.code ++ (He.refV fd.defaults ++ fd.closure.map (·.2))
  | .cls cd => cd.ns :: cd.mro.flatMap He.refV
  | .dict es _ => es.toList.flatMap fun e => He.refV e.val
  | _ => []
def nextF (g : Addr → Option Obj) (as : List Addr) : List Addr := as.flatMap fun a => match g a with
  | some o => refsF o
  | none => []
def asF (g : Addr → Option Obj) : Nat → List Addr → List Addr
  | 0, as => as
  | n + 1, as => as ++ asF g n (nextF g as)
def KZ (g : Addr → Option Obj) : PySem.W.Frag := He.frG g (cStatics :: asF g 4 [mainGlobals])
abbrev SupV : Type := Option (Str × Str × Arguments × FuncBody × Scope × Addr × List Str × Addr)
def supW (K : PySem.W.Frag) (C : Str) : SupV := match K.lookup (He.fAd K (C, some "__init__")) with
  | some ⟨_, _, .func fd, _⟩ => some (fd.name, fd.qualname, fd.params, fd.body, fd.scope, fd.globals, fd.closure.map (·.1), fd.builtins)
  | _ => none
def supFn (K : PySem.W.Frag) (C q : Str) (fd : FuncData) : Bool := match fd.defaults, fd.code, fd.closure with
  | .none, .ref cda, [(_, cc)] => PySem.W.codeIn K (.ref cda) q && ((match K.lookup cda with
    | some ⟨_, _, .fields vs, _⟩ => (match (vs[2]? : Option Value) with
      | some (.str f _) => RowO.prog.main.file == f
      | _ => false)
    | _ => false) && (match K.lookup cc with
    | some ⟨_, _, .cell (some (.ref B)), _⟩ => decide (B = He.ga K C)
    | _ => false))
  | _, _, _ => false
def supB (K : PySem.W.Frag) (C q : Str) : Bool := (match K.lookup (He.fAd K (C, some "__init__")) with
  | some ⟨_, _, .func fd, _⟩ => supFn K C q fd
  | _ => false) && ((PySem.W.clsIn K (He.ga K C)).isSome && (decide (PySem.W.mroIn K (He.ga K C) (.ref (He.ga K C)) = some true) && (He.eqO (PySem.W.ks_superIn K (He.ga K C) (He.ga K C) "__init__") (some (some (.ref (He.fAd K ("Paper", some "__init__"))))) && (decide (PySem.W.typeIn K (.ref (He.fAd K ("Paper", some "__init__"))) = some (.type "function")) && (PySem.W.fnIn K (He.fAd K ("Paper", some "__init__")) && He.eqO (PySem.W.nsIn K cStatics "thirdparty.any") (some none))))))
def insB (K : PySem.W.Frag) (C : Addr) : Bool := He.eqO (PySem.W.findIn K (.ref C) "__class__") (some (some (.builtin "object.__class__"))) && (He.eqO (PySem.W.specialIn K (.builtin "object.__class__") "__get__") (some (some (.builtin "getset_descriptor.__get__"))) && (decide (PySem.W.takesIn K (.builtin "object.__class__") = some true) && decide (PySem.W.mroIn K C (.type "object") = some true)))
def exZ (K : PySem.W.Frag) : Bool := insB K (He.ga K "Net") && (insB K (He.ga K "Lots") && (insB K (He.ga K "Stuck") && (decide (PySem.W.kitOne K (.ref (He.ga K "Net")) (.ref (He.ga K "Net")) = some true) && (decide (PySem.W.kitOne K (.ref (He.ga K "Lots")) (.ref (He.ga K "Lots")) = some true) && (decide (PySem.W.kitOne K (.ref (He.ga K "Stuck")) (.ref (He.ga K "Lots")) = some false) && (supB K "Lots" "Lots.__init__" && supB K "Stuck" "Stuck.__init__"))))))
abbrev AlZ : Type := He.AlD × (Bool × (SupV × SupV))
def obsZ (K : PySem.W.Frag) : AlZ := (He.obsD faZ fnZ K, (exZ K, (supW K "Lots", supW K "Stuck")))
def supV (q : Str) (st : Stmt) : SupV := some ("__init__", q, defArgs st, .stmts (defBody st), defScope st, mainGlobals, ["__class__"], builtinsNs)
def valZ : AlZ := (He.valD fnZ, (true, (supV "Lots.__init__" s_Lots_init, supV "Stuck.__init__" s_Stuck_init)))
def hkZ : PySem.W.Hook where
  α := AlZ
  obs := fun s => obsZ (KZ s.heap.get?)
  val := fun _ => valZ
  says := fun _ h => ∃ K : PySem.W.Frag, K.In h ∧ obsZ K = valZ
  of := fun _ _ e => ⟨_, He.frG_in, e⟩
  keeps := fun _ _ _ z k => z.elim fun K y => ⟨K, PySem.W.Frag.In.keeps y.1 k, y.2⟩
def obZ (s : PySem.W.SharedT) : AlZ := obsZ (KZ (HandSHeadRun.getT s))
theorem obZ_eq (s : PySem.W.SharedT) : obZ s = hkZ.obs s.abs := by
  have e : HandSHeadRun.getT s = s.abs.heap.get? := funext (HandSHeadRun.getT_eq s)
  unfold obZ
  rw [e]
  rfl
theorem runZ (w : World) : HandSHeadRun.RunEq RowO (PySem.W.view RowO.prog [104]) hkZ obZ 20000 looseN w := by
  intro os
  kernel_rfl
/-! the facts -/
def csOf (K : PySem.W.Frag) : Cs := ⟨He.ga K "Net", He.ga K "Lots", He.ga K "Stuck", He.ga K "Waiting", He.ga K "Paper", RowO.prog⟩
section
variable {K : PySem.W.Frag} {h : Heap} {mg : Str → Option Value}
theorem saysZ (c : obsZ K = valZ) : He.SaysD faZ fnZ K := congrArg (fun z : AlZ => z.1) c
theorem fact (c : obsZ K = valZ) (i : Nat) {f : He.Fa} (e : faZ[i]? = some f) : f.ok K = true := (saysZ c).fact i e
theorem df_of {x name : Str} {st : Stmt} {dfl : List He.Dv} {dvs : List V} (X : K.In h) (G : h.Ns mainGlobals mg) (c : obsZ K = valZ) (i j : Nat) (e1 : fnZ[i]? = some (dAt x name st dfl)) (e2 : faZ[j]? = some (.glo x)) (e3 : dfl.map (He.Dv.v K) = dvs) : Df K mg x name st dvs := by
  subst e3
  obtain ⟨fd, F⟩ := (saysZ c).def_ i e1
  exact ⟨_, fd, F, He.glo_ok X G (fact c j e2)⟩
theorem mk_of {C q : Str} {st : Stmt} (c : obsZ K = valZ) (j i : Nat) (e2 : faZ[j]? = some (.mkr C)) (e1 : fnZ[i]? = some (mAt C "__init__" q st)) : ∃ f fd, Mk K (He.ga K C) f ∧ FunD K "__init__" q (defArgs st) (defBody st) (defScope st) [] [] f fd := by
  obtain ⟨fd, F⟩ := (saysZ c).def_ i e1
  exact ⟨_, fd, He.mkr_ok (fact c j e2), F⟩
theorem me_of {C m q : Str} {st : Stmt} (c : obsZ K = valZ) (j i : Nat) (e2 : faZ[j]? = some (.meth C m)) (e1 : fnZ[i]? = some (mAt C m q st)) : ∃ f fd, Meth K (He.ga K C) m f ∧ FunD K m q (defArgs st) (defBody st) (defScope st) [] [] f fd := by
  obtain ⟨fd, F⟩ := (saysZ c).def_ i e1
  exact ⟨_, fd, He.meth_ok (fact c j e2), F⟩
theorem int_of {x : Str} {i : Int} (X : K.In h) (G : h.Ns mainGlobals mg) (c : obsZ K = valZ) (j : Nat) (e : faZ[j]? = some (.int x i)) : ∃ u, mg x = some u ∧ RelV (.int i) u := by
  obtain ⟨t, q⟩ := He.int_ok X G (fact c j e)
  exact ⟨_, q, t, rfl⟩
theorem ins_of {C : Addr} (cl : Cls K C) (q : insB K C = true) : InsC K C := by
  obtain ⟨h1, q⟩ := He.ba q
  obtain ⟨h2, q⟩ := He.ba q
  obtain ⟨h3, h4⟩ := He.ba q
  refine ⟨cl, He.eqO_ok h1, He.eqO_ok h2, of_decide_eq_true h3, of_decide_eq_true h4, ?_⟩
  unfold PySem.W.kitOne
  exact if_pos (by simp)
theorem ext (c : obsZ K = valZ) : insB K (He.ga K "Net") = true ∧ insB K (He.ga K "Lots") = true ∧ insB K (He.ga K "Stuck") = true ∧ PySem.W.kitOne K (.ref (He.ga K "Net")) (.ref (He.ga K "Net")) = some true ∧ PySem.W.kitOne K (.ref (He.ga K "Lots")) (.ref (He.ga K "Lots")) = some true ∧ PySem.W.kitOne K (.ref (He.ga K "Stuck")) (.ref (He.ga K "Lots")) = some false ∧ supB K "Lots" "Lots.__init__" = true ∧ supB K "Stuck" "Stuck.__init__" = true := by
  have q : exZ K = true := congrArg (fun z : AlZ => z.2.1) c
  obtain ⟨h1, q⟩ := He.ba q
  obtain ⟨h2, q⟩ := He.ba q
  obtain ⟨h3, q⟩ := He.ba q
  obtain ⟨h4, q⟩ := He.ba q
  obtain ⟨h5, q⟩ := He.ba q
  obtain ⟨h6, q⟩ := He.ba q
  obtain ⟨h7, h8⟩ := He.ba q
  exact ⟨h1, h2, h3, of_decide_eq_true h4, of_decide_eq_true h5, of_decide_eq_true h6, h7, h8⟩
theorem supD_of {C q : Str} {st : Stmt} (e : supW K C = supV q st) (b : supB K C q = true) : SupD K RowO.prog (He.ga K C) (He.fAd K (C, some "__init__")) (He.fAd K ("Paper", some "__init__")) q st := by
  obtain ⟨b1, b⟩ := He.ba b
  obtain ⟨b2, b⟩ := He.ba b
  obtain ⟨b3, b⟩ := He.ba b
  obtain ⟨b4, b⟩ := He.ba b
  obtain ⟨b5, b⟩ := He.ba b
  obtain ⟨b6, b7⟩ := He.ba b
  refine ⟨?_, Option.isSome_iff_exists.mp b2, of_decide_eq_true b3, He.eqO_ok b4, of_decide_eq_true b5, b6, He.eqO_ok b7, by kernel_rfl⟩
  unfold supW at e
  cases z : K.lookup (He.fAd K (C, some "__init__")) with
  | none => rw [z] at e; cases e
  | some o =>
    obtain ⟨oc, od, dt, osl⟩ := o
    rw [z] at e b1
    cases dt with
    | func fd =>
      obtain ⟨n1, n2, n3, n4, n5, n6, n7, n8, n9, n10, n11, n12, n13, n14, n15⟩ := fd
      have e2 : (some (n1, n2, n3, n4, n5, n6, n7.map (·.1), n15) : SupV) = supV q st := e
      unfold supV at e2
      simp only [Option.some.injEq, Prod.mk.injEq] at e2
      obtain ⟨rfl, rfl, rfl, rfl, rfl, rfl, h7, rfl⟩ := e2
      have b1 : supFn K C n2 ⟨"__init__", n2, defArgs st, .stmts (defBody st), defScope st, mainGlobals, n7, n8, n9, n10, n11, n12, n13, n14, builtinsNs⟩ = true := b1
      unfold supFn at b1
      dsimp only at b1
      split at b1
      · rename_i _ _ cda y cc _
        obtain ⟨c1, b1⟩ := He.ba b1
        obtain ⟨c2, c3⟩ := He.ba b1
        have hy : y = "__class__" := by
          have := List.cons.inj h7
          exact this.1
        subst hy
        split at c2
        · rename_i ccl cdd vs ccs lk2
          split at c2
          · rename_i file tf lk3
            split at c3
            · rename_i cl cld B csl lk4
              have hB := of_decide_eq_true c3
              subst hB
              exact ⟨oc, od, n9, n10, n11, n12, cda, n14, cc, osl, vs, file, tf, ccl, cdd, ccs, cl, cld, csl, rfl, c1, lk2, lk3, c2, lk4⟩
            · cases c3
          · cases c2
        · cases c2
      · cases b1
    | _ => cases e
theorem supLots_of (c : obsZ K = valZ) (j i : Nat) (e2 : faZ[j]? = some (.mkr "Lots")) (e1 : fnZ[i]? = some (mAt "Paper" "__init__" "Paper.__init__" s_Paper_init)) : ∃ f f2 fd2, Mk K (He.ga K "Lots") f ∧ SupD K RowO.prog (He.ga K "Lots") f f2 "Lots.__init__" s_Lots_init ∧ FunD K "__init__" "Paper.__init__" (defArgs s_Paper_init) (defBody s_Paper_init) (defScope s_Paper_init) [] [] f2 fd2 := by
  obtain ⟨fd, F⟩ := (saysZ c).def_ i e1
  exact ⟨_, _, fd, He.mkr_ok (fact c j e2), supD_of (congrArg (fun z : AlZ => z.2.2.1) c) (ext c).2.2.2.2.2.2.1, F⟩
theorem supStuck_of (c : obsZ K = valZ) (j i : Nat) (e2 : faZ[j]? = some (.mkr "Stuck")) (e1 : fnZ[i]? = some (mAt "Paper" "__init__" "Paper.__init__" s_Paper_init)) : ∃ f f2 fd2, Mk K (He.ga K "Stuck") f ∧ SupD K RowO.prog (He.ga K "Stuck") f f2 "Stuck.__init__" s_Stuck_init ∧ FunD K "__init__" "Paper.__init__" (defArgs s_Paper_init) (defBody s_Paper_init) (defScope s_Paper_init) [] [] f2 fd2 := by
  obtain ⟨fd, F⟩ := (saysZ c).def_ i e1
  exact ⟨_, _, fd, He.mkr_ok (fact c j e2), supD_of (congrArg (fun z : AlZ => z.2.2.2) c) (ext c).2.2.2.2.2.2.2, F⟩
theorem txt_of (X : K.In h) (G : h.Ns mainGlobals mg) (c : obsZ K = valZ) : Txt K mg (csOf K) where
  d_is_integer := df_of (dvs := []) X G c 0 0 rfl rfl rfl
  d_is_within := df_of (dvs := []) X G c 1 1 rfl rfl rfl
  d_is_bit := df_of (dvs := []) X G c 2 2 rfl rfl rfl
  d_is_turn := df_of (dvs := []) X G c 3 3 rfl rfl rfl
  d_is_amount := df_of (dvs := []) X G c 4 4 rfl rfl rfl
  d_is_lot := df_of (dvs := []) X G c 5 5 rfl rfl rfl
  d_need_amount := df_of (dvs := []) X G c 6 6 rfl rfl rfl
  d_pairs_in := df_of (dvs := []) X G c 7 7 rfl rfl rfl
  d_is_things := df_of (dvs := []) X G c 8 8 rfl rfl rfl
  d_is_string := df_of (dvs := []) X G c 9 9 rfl rfl rfl
  d_strings_from := df_of (dvs := []) X G c 10 10 rfl rfl rfl
  d_things_from := df_of (dvs := []) X G c 11 11 rfl rfl rfl
  d_turns_from := df_of (dvs := []) X G c 12 12 rfl rfl rfl
  d_need_net := df_of (dvs := [.str "net"]) X G c 13 13 rfl rfl rfl
  d_near_in := df_of (dvs := []) X G c 14 14 rfl rfl rfl
  d_met_by_nets := df_of (dvs := []) X G c 15 15 rfl rfl rfl
  d_fixed := df_of (dvs := []) X G c 16 16 rfl rfl rfl
  d_masks_of := df_of (dvs := []) X G c 17 17 rfl rfl rfl
  d_mask_of := df_of (dvs := []) X G c 18 18 rfl rfl rfl
  d_things_of := df_of (dvs := []) X G c 19 19 rfl rfl rfl
  d_cleared := df_of (dvs := []) X G c 20 20 rfl rfl rfl
  d_rows_of := df_of (dvs := []) X G c 21 21 rfl rfl rfl
  d_met_alone := df_of (dvs := []) X G c 22 22 rfl rfl rfl
  d_showing := df_of (dvs := []) X G c 23 23 rfl rfl rfl
  d_free_of := df_of (dvs := []) X G c 24 24 rfl rfl rfl
  d_layers_in := df_of (dvs := []) X G c 25 25 rfl rfl rfl
  d_lots_of := df_of (dvs := []) X G c 26 26 rfl rfl rfl
  d_is_row := df_of (dvs := []) X G c 27 27 rfl rfl rfl
  d_are_rows := df_of (dvs := []) X G c 28 28 rfl rfl rfl
  d_are_layers := df_of (dvs := []) X G c 29 29 rfl rfl rfl
  d_met_by_check_lots := df_of (dvs := []) X G c 30 30 rfl rfl rfl
  d_are_right := df_of (dvs := []) X G c 31 31 rfl rfl rfl
  d_need_lots := df_of (dvs := []) X G c 32 32 rfl rfl rfl
  d_need_nothing_given := df_of (dvs := []) X G c 33 33 rfl rfl rfl
  d_times := df_of (dvs := []) X G c 34 34 rfl rfl rfl
  d_mirror := df_of (dvs := []) X G c 35 35 rfl rfl rfl
  d_multiplied := df_of (dvs := []) X G c 36 36 rfl rfl rfl
  d_mirrored := df_of (dvs := []) X G c 37 37 rfl rfl rfl
  d_need_falls := df_of (dvs := []) X G c 38 38 rfl rfl rfl
  d_need_told := df_of (dvs := []) X G c 39 39 rfl rfl rfl
  d_secrets_for := df_of (dvs := []) X G c 40 40 rfl rfl rfl
  d_ways_to := df_of (dvs := []) X G c 41 41 rfl rfl rfl
  d_law_heap := df_of (dvs := []) X G c 42 42 rfl rfl rfl
  d_law_sift := df_of (dvs := []) X G c 43 43 rfl rfl rfl
  d_law_any_of := df_of (dvs := []) X G c 44 44 rfl rfl rfl
  d_law_mixed := df_of (dvs := []) X G c 45 45 rfl rfl rfl
  d_law_turned := df_of (dvs := []) X G c 46 46 rfl rfl rfl
  d_law_sum := df_of (dvs := []) X G c 47 47 rfl rfl rfl
  d_law_deeds := df_of (dvs := []) X G c 48 48 rfl rfl rfl
  d_law_asked := df_of (dvs := []) X G c 49 49 rfl rfl rfl
  d_law_waits := df_of (dvs := []) X G c 50 50 rfl rfl rfl
  d_law_now := df_of (dvs := []) X G c 51 51 rfl rfl rfl
  d_law_parts := df_of (dvs := []) X G c 52 52 rfl rfl rfl
  d_law_ways := df_of (dvs := []) X G c 53 53 rfl rfl rfl
  d_law_products := df_of (dvs := []) X G c 54 54 rfl rfl rfl
  d_law_right := df_of (dvs := []) X G c 55 55 rfl rfl rfl
  d_law := df_of (dvs := []) X G c 56 56 rfl rfl rfl
  m_Net_init := mk_of c 57 57 rfl rfl
  m_Lots_init := supLots_of c 58 58 rfl rfl
  m_Stuck_init := supStuck_of c 59 58 rfl rfl
  m_Waiting_init := mk_of c 60 59 rfl rfl
  m_Waiting_now := me_of c 61 60 rfl rfl
  b_len := He.free_ok X G (fact c 62 rfl)
  b_all := He.free_ok X G (fact c 63 rfl)
  b_sum := He.free_ok X G (fact c 64 rfl)
  b_sorted := He.free_ok X G (fact c 65 rfl)
  b_tuple := He.free_ok X G (fact c 66 rfl)
  b_list := He.free_ok X G (fact c 67 rfl)
  b_int := He.free_ok X G (fact c 68 rfl)
  b_isinstance := He.free_ok X G (fact c 69 rfl)
  b_dict := He.free_ok X G (fact c 70 rfl)
  b_set := He.free_ok X G (fact c 71 rfl)
  b_abs := He.free_ok X G (fact c 72 rfl)
  b_repr := He.free_ok X G (fact c 73 rfl)
  b_range := He.free_ok X G (fact c 74 rfl)
  b_zip := He.free_ok X G (fact c 75 rfl)
  b_enumerate := He.free_ok X G (fact c 76 rfl)
  b_super := He.free_ok X G (fact c 77 rfl)
  b_bool := He.free_ok X G (fact c 78 rfl)
  g_TURNS := int_of X G c 79 rfl
  g_MOST_THINGS_nets := int_of X G c 80 rfl
  g_ROUND := int_of X G c 81 rfl
  g_HALF := int_of X G c 82 rfl
  g_MOST_THINGS_ways := int_of X G c 83 rfl
  g_Net := He.glo_ok X G (fact c 84 rfl)
  cl_Net := He.cls_ok (fact c 85 rfl)
  g_Lots := He.glo_ok X G (fact c 86 rfl)
  cl_Lots := He.cls_ok (fact c 87 rfl)
  g_Stuck := He.glo_ok X G (fact c 88 rfl)
  cl_Stuck := He.cls_ok (fact c 89 rfl)
  g_Waiting := He.glo_ok X G (fact c 90 rfl)
  cl_Waiting := He.cls_ok (fact c 91 rfl)
  nNet_things := He.noat_ok (fact c 92 rfl)
  nNet_strings := He.noat_ok (fact c 93 rfl)
  nNet_given := He.noat_ok (fact c 94 rfl)
  nNet_kept := He.noat_ok (fact c 95 rfl)
  nNet_looked := He.noat_ok (fact c 96 rfl)
  nNet_turns := He.noat_ok (fact c 97 rfl)
  nLots_word := He.noat_ok (fact c 98 rfl)
  nLots_parts := He.noat_ok (fact c 99 rfl)
  nLots_layers := He.noat_ok (fact c 100 rfl)
  nLots_lots := He.noat_ok (fact c 101 rfl)
  nStuck_word := He.noat_ok (fact c 102 rfl)
  nStuck_parts := He.noat_ok (fact c 103 rfl)
  nStuck_left := He.noat_ok (fact c 104 rfl)
  nStuck_shows := He.noat_ok (fact c 105 rfl)
  nWaiting_net := He.noat_ok (fact c 106 rfl)
  nWaiting_own := He.noat_ok (fact c 107 rfl)
  nWaiting_exchangers := He.noat_ok (fact c 108 rfl)
  nWaiting_signers := He.noat_ok (fact c 109 rfl)
  i_Net := ins_of (He.cls_ok (fact c 85 rfl)) (ext c).1
  i_Lots := ins_of (He.cls_ok (fact c 87 rfl)) (ext c).2.1
  i_Stuck := ins_of (He.cls_ok (fact c 89 rfl)) (ext c).2.2.1
  k_net := (ext c).2.2.2.1
  k_lots := (ext c).2.2.2.2.1
  k_stuck := (ext c).2.2.2.2.2.1
  rest := trivial
end
end Lk
end

section
set_option Elab.async false
set_option linter.all false
set_option maxRecDepth 100000
set_option maxHeartbeats 4000000
/-! Promises in one form; their calls. -/
namespace Lk
open PySem PySem.Spec PyProof.Rows L2 Evl PySem.W C8
/-- a promise: arguments that bear x, an answer that bears res x; all that stood stands -/
def spF {α : Type} (arg : α → AV) (res : α → VP) : Sp := fun vs H Q _ => ∃ x : α, arg x vs H ∧ ∀ v H', Ex H H' → res x v H' → Q v H'
/-- .. for arguments of which pre holds -/
def spP {α : Type} (pre : α → Prop) (arg : α → AV) (res : α → VP) : Sp := fun vs H Q _ => ∃ x : α, pre x ∧ arg x vs H ∧ ∀ v H', Ex H H' → res x v H' → Q v H'
section
variable {σ : L2.St} {H : Hp} {E : XK} {ta : TA} {te : TE} {α : Type} {pre : α → Prop} {arg : α → AV} {res : α → VP} {P R S T5 T6 : VP} {A : AV} {D : Ends} {t : TT} {tu tw : TS}
theorem ep_callF (x : α) (h : EvAs ta σ H (arg x)) : EvP (tCall (spF arg res) [] E ta) σ H (res x) := fun H1 e Q q =>
  h H1 e _ fun vs H2 e2 a => by
    show spF arg res (vs ++ []) H2 Q E
    rw [List.append_nil]
    exact ⟨x, a, fun v H3 e3 r => q v H3 (e2.trans e3) r⟩
theorem ep_callP (x : α) (hp : pre x) (h : EvAs ta σ H (arg x)) : EvP (tCall (spP pre arg res) [] E ta) σ H (res x) := fun H1 e Q q =>
  h H1 e _ fun vs H2 e2 a => by
    show spP pre arg res (vs ++ []) H2 Q E
    rw [List.append_nil]
    exact ⟨x, hp, a, fun v H3 e3 r => q v H3 (e2.trans e3) r⟩
abbrev a1 (P : VP) : AV := aC P aN
abbrev a2 (P R : VP) : AV := aC P (aC R aN)
abbrev a3 (P R S : VP) : AV := aC P (aC R (aC S aN))
abbrev a4 (P R S T : VP) : AV := aC P (aC R (aC S (aC T aN)))
abbrev a5 (P R S T U : VP) : AV := aC P (aC R (aC S (aC T (aC U aN))))
theorem a1o {vs : List V} (h : a1 P vs H) : ∃ v, vs = [v] ∧ P v H := by
  obtain ⟨v, ws, rfl, p, rfl⟩ := h
  exact ⟨v, rfl, p⟩
theorem a2o {vs : List V} (h : a2 P R vs H) : ∃ v w, vs = [v, w] ∧ P v H ∧ R w H := by
  obtain ⟨v, ws, rfl, p, h⟩ := h
  obtain ⟨w, rfl, q⟩ := a1o h
  exact ⟨v, w, rfl, p, q⟩
theorem a3o {vs : List V} (h : a3 P R S vs H) : ∃ v w x, vs = [v, w, x] ∧ P v H ∧ R w H ∧ S x H := by
  obtain ⟨v, ws, rfl, p, h⟩ := h
  obtain ⟨w, x, rfl, q⟩ := a2o h
  exact ⟨v, w, x, rfl, p, q⟩
theorem a4o {vs : List V} (h : a4 P R S T5 vs H) : ∃ v w x y, vs = [v, w, x, y] ∧ P v H ∧ R w H ∧ S x H ∧ T5 y H := by
  obtain ⟨v, ws, rfl, p, h⟩ := h
  obtain ⟨w, x, y, rfl, q⟩ := a3o h
  exact ⟨v, w, x, y, rfl, p, q⟩
theorem a5o {vs : List V} (h : a5 P R S T5 T6 vs H) : ∃ v w x y z, vs = [v, w, x, y, z] ∧ P v H ∧ R w H ∧ S x H ∧ T5 y H ∧ T6 z H := by
  obtain ⟨v, ws, rfl, p, h⟩ := h
  obtain ⟨w, x, y, z, rfl, q⟩ := a4o h
  exact ⟨v, w, x, y, z, rfl, p, q⟩
theorem ea_1 (m1 : Mono P) (h1 : EvP te σ H P) : EvAs (tCons te tNil) σ H (a1 P) := ea1 m1 h1 ea0
/-- if: a test whose answer is known -/
theorem s_ifT {b : Bool} (h : EvT t σ H b) (h1 : b = true → ∀ H1, Ex H H1 → tu D σ H1) (h2 : b = false → ∀ H1, Ex H H1 → tw D σ H1) : tIfS t tu tw D σ H := s_if h h1 h2
theorem s_ifF (h : EvT t σ H false) (h2 : ∀ H1, Ex H H1 → tw D σ H1) : tIfS t tu tw D σ H := s_if h (fun z => nomatch z) fun _ => h2
theorem s_ifY (h : EvT t σ H true) (h2 : ∀ H1, Ex H H1 → tu D σ H1) : tIfS t tu tw D σ H := s_if h (fun _ => h2) fun z => nomatch z
theorem et_isb {a b : Bool} (h : EvT t σ H a) (e : a = b) : EvT t σ H b := e ▸ h
theorem EvP.isB {a b : Bool} (h : EvP te σ H (vI (.bool a))) (x : a = b) : EvP te σ H (vI (.bool b)) := x ▸ h
theorem EvP.isI {a b : Int} (h : EvP te σ H (vI (.int a))) (x : a = b) : EvP te σ H (vI (.int b)) := x ▸ h
theorem q_if {u : TS} (h : EvT t σ H false) (k : ∀ H1, Ex H H1 → u D σ H1) : tSeq (tIfS t tu tNext) u D σ H := s_ifF (D := { D with nx := u D }) h k
theorem q_set {u : TS} {i : Nat} (h : EvP te σ H P) (k : ∀ v H1, Ex H H1 → P v H1 → u D (σ.set i (some v)) H1) : tSeq (tAsg te (gName i)) u D σ H := s_set (D := { D with nx := u D }) h k
theorem q_drop {u : TS} (h : EvP te σ H P) (k : ∀ v H1, Ex H H1 → P v H1 → u D σ H1) : tSeq (tDrop te) u D σ H := s_dropP (D := { D with nx := u D }) h k
theorem st_nx (h : D.nx σ H) : tNext D σ H := h
end
abbrev rTupleOf (K : PySem.W.Frag) : List V → Hp → VK → Prop := fun xs H Q => ∃ p ys, xs = [.ref p] ∧ ((SqL K H p ys ∧ ∀ (l : Addr) (o : Obj), o.dict = none → H l = none → Q (.ref l) (upd H l (.frz o (.tup ys)))) ∨ (SqT K H p ys ∧ Q (.ref p) H))
abbrev rListOf (K : PySem.W.Frag) : List V → Hp → VK → Prop := fun xs H Q => ∃ p ys, xs = [.ref p] ∧ (SqL K H p ys ∨ SqT K H p ys) ∧ ∀ l, H l = none → Q (.ref l) (upd H l (.lst ys))
abbrev rLenOf (K : PySem.W.Frag) : List V → Hp → VK → Prop := fun xs H Q => ∃ p ys, xs = [.ref p] ∧ (SqL K H p ys ∨ SqT K H p ys) ∧ Q (.int ys.length) H
section
variable {X : Cx} (K : PySem.W.Frag)
theorem cr_tupleK (h : X.K = K := by rfl) : CallR X (.type "tuple") (rTupleOf K) := by
  subst h
  intro pins s σ H xs us Q I r h
  obtain ⟨p, ys, rfl, h⟩ := h
  obtain ⟨u, rfl, rx⟩ := vals1 r
  cases rx
  cases h with
  | inr w =>
    obtain ⟨its, _, pl, _⟩ := I.tuple w.1
    exact call_tuple_same pl ⟨.ref p, H, I, rfl, w.2⟩
  | inl w =>
    obtain ⟨hq, q⟩ := w
    obtain ⟨its, r', pl, hz⟩ := I.list hq
    have hlen := r'.length
    refine call_tuple_list pl.isList (fun h' keeps => ?_) (by simp only [List.size_toArray] <;> omega)
    have I1 := I.kept (t' := s.toks) (h' := h') keeps
    have hg := Heap.get?_push_size h' (o := ({ cls := .type "tuple", data := .seq its.toArray } : Obj)) rfl
    have I2 : Inv X pins σ (upd H h'.objs.size (.frz { cls := .type "tuple", data := .seq its.toArray } (.tup ys))) { s with heap := h'.push { cls := .type "tuple", data := .seq its.toArray } } :=
      I1.laid (t' := s.toks) (fun b o e => Heap.get?_push_of_some _ e) (Nat.le_refl _) ⟨hg, hz, its, r', IsTup.new _ _⟩
    exact ⟨.ref h'.objs.size, _, I2, rfl, q _ _ rfl (I1.hok.fresh (Nat.le_refl _))⟩
theorem cr_listK (h : X.K = K := by rfl) : CallR X (.type "list") (rListOf K) := h ▸ call_list_of
theorem cr_lenK (h : X.K = K := by rfl) : CallR X (.builtin "len") (rLenOf K) := h ▸ call_len_seq
theorem cr_allK (hc : X.calm = true) (h : X.K = K := by rfl) : CallR X (.builtin "all") (rAll K) := h ▸ cr_all hc
theorem cr_sumK (hc : X.calm = true) (h : X.K = K := by rfl) : CallR X (.builtin "sum") (rSum K) := h ▸ cr_sum hc
theorem cr_isiK (h : X.K = K := by rfl) : CallR X (.builtin "isinstance") (rIsi K) := h ▸ call_isi
theorem cr_isiTK (h : X.K = K := by rfl) : CallR X (.builtin "isinstance") (rIsiT K) := h ▸ call_isiT
theorem ix_seqK (h : X.K = K := by rfl) : IxR X (rIx K) := h ▸ ix_seq
theorem op_inK (h : X.K = K := by rfl) : OpR X (compareOp .In) (rIn K false) := h ▸ op_in_seq
theorem op_notInK (h : X.K = K := by rfl) : OpR X (compareOp .NotIn) (rIn K true) := h ▸ op_notIn_seq
theorem op_eqDK (hu : X.A.units + 64 < cLine) (h : X.K = K := by rfl) : OpR X (compareOp .Eq) (rEqD K) := h ▸ op_eqD hu
theorem op_neDK (hu : X.A.units + 64 < cLine) (h : X.K = K := by rfl) : OpR X (compareOp .NotEq) (rNeD K) := h ▸ op_neD hu
theorem pi_seqK {tg l : Expr} {tl : TE} (hl : PE X l tl) (h : X.K = K := by rfl) : PI X tg l (iSeq K tl) := h ▸ pi_seq hl
theorem pe_fldK {e : Expr} {f : Str} {pos : Pos} {ta : TE} (he : PE X e ta) (hb : attributeBase e f X.env (eval e X.env) = eval e X.env := by rfl) (h : X.K = K := by rfl) : PE X (.Attribute e f pos) (tFld K ta f) := h ▸ pe_fld he hb
theorem pg_tupK {es : List Expr} {k : Nat} {t : TGs} {n : Nat} {pos : Pos} (hc : X.calm = true) (hg : PGs X es t) (hn : (assignEach es X.env).length = n := by rfl) (hst : (assignEach es X.env).findIdx? (·.1) = none := by rfl) (h : X.K = K := by rfl) : PG X (.Tuple es k pos) (gTup K n t) :=
  h ▸ pg_tup hc hg hn hst
theorem pi_zipK {e e2 : Expr} {ta : TA} {p pos tpos : Pos} {elts : List Expr} {kk : Nat} (hg : Gl X "zip") (hm : X.mg "zip" = none) (ha : PA X [e, e2] ta)
    (hs : starEach [e, e2] X.env = (false, eval e X.env) :: starEach [e2] X.env := by rfl) (hpl : (backTo pos (starEach [e2] X.env)).any (·.1) = false := by rfl) (h : X.K = K := by rfl) : PI X (.Tuple elts kk tpos) (.Call (.Name "zip" p) [e, e2] [] pos) (RZ.iZipA K ta) := h ▸ RZ.pi_zipA hg hm ha hs hpl
end
theorem pe_ty {X : Cx} {x : Str} {n : String} {pos : Pos} (hg : Gl X x) (hm : X.mg x = none) (hv : bootBuiltins x = some (.type n)) (hn : x ≠ "__name__" := by decide) (hd : (x == ("__debug__" : Str)) = false := by decide) : PE X (.Name x pos) (tC (.ty n)) := pe_bltn (v := .ty n) (u := .type n) hg hm hv rfl hn hd
end Lk
end

section
set_option Elab.async false
set_option linter.all false
set_option maxRecDepth 100000
set_option maxHeartbeats 4000000
/-! What sorting gives, in plain words. -/
namespace Lk
open PySem PySem.Spec PyProof.Rows L2 Evl PySem.W C8
theorem sortD_perm (ds : List PyData) : (sortD ds).Perm ds := List.mergeSort_perm _ _
theorem sortD_len (ds : List PyData) : (sortD ds).length = ds.length := (sortD_perm ds).length_eq
section
variable {α : Type} {enc : α → PyData}
theorem sortD_map (enc : α → PyData) (xs : List α) : sortD (xs.map enc) = (xs.mergeSort (dataLe false enc)).map enc := (sort_maps enc fun _ _ _ _ => rfl).symm
theorem sortD_id {xs : List α} (h : xs.Pairwise fun a b => dataLe false enc a b = true) : sortD (xs.map enc) = xs.map enc := by
  rw [sortD_map, List.mergeSort_of_pairwise h]
/-- the one sorted list -/
theorem sortD_typed (enc : α → PyData) (xs : List α) : ∃ ys : List α, sortD (xs.map enc) = ys.map enc ∧ ys.Perm xs := ⟨_, sortD_map enc xs, List.mergeSort_perm _ _⟩
end
/-- pairs of numbers -/
abbrev pD (p : Nat × Nat) : PyData := .tuple [dN p.1, dN p.2]
theorem dle_nat (a b : Nat) : dataLe false dN a b = decide (a ≤ b) := by
  have e := congrFun (congrFun (dataLe_int (β := Nat) fun n => (n : Int)) a) b
  rw [show dataLe false dN a b = _ from e, decide_eq_decide]
  exact Int.ofNat_le
theorem dle_pair (p q : Nat × Nat) : dataLe false pD p q = decide (p.1 < q.1 ∨ (p.1 = q.1 ∧ p.2 ≤ q.2)) := by
  have e := congrFun (congrFun (dataLe_ii (β := Nat × Nat) (fun n => (n.1 : Int)) fun n => (n.2 : Int)) p) q
  rw [show dataLe false pD p q = _ from e, decide_eq_decide]
  omega
theorem sortD_nats {ns : List Nat} (h : ns.Pairwise (· < ·)) : sortD (ns.map dN) = ns.map dN := sortD_id (h.imp fun {a b} h => by
  rw [dle_nat]
  exact decide_eq_true (Nat.le_of_lt h))
theorem sortD_pairs {ps : List (Nat × Nat)} (h : ps.Pairwise fun p q => p.1 < q.1 ∨ (p.1 = q.1 ∧ p.2 < q.2)) : sortD (ps.map pD) = ps.map pD := sortD_id (h.imp fun {a b} h => by
  rw [dle_pair]
  exact decide_eq_true (by omega))
theorem alike_nat (ns : List Nat) : AllAlike (ns.map dN) := AllAlike.of fun a b => by simp [alike]
theorem sortable_nat (ns : List Nat) : Sortable (ns.map dN) := Sortable.others fun a => ⟨(fun e => by cases e), (fun _ e => by cases e)⟩
theorem alike_pairs (ns : List (Nat × Nat)) : AllAlike (ns.map pD) := AllAlike.of fun a b => by simp [alike, alikeAll]
theorem sortable_pairs (ns : List (Nat × Nat)) : Sortable (ns.map pD) := Sortable.tuples fun a => ⟨_, _, rfl⟩
theorem depth_nats (ns : List Nat) : ∀ d ∈ ns.map dN, d.depth ≤ 8 := fun d m => by
  obtain ⟨a, _, rfl⟩ := List.mem_map.mp m
  exact Nat.zero_le _
theorem depth_pairs (ns : List (Nat × Nat)) : ∀ d ∈ ns.map pD, d.depth ≤ 8 := fun d m => by
  obtain ⟨a, _, rfl⟩ := List.mem_map.mp m
  simp [PyData.depth, PyData.depthAll]
/-- of unlike firsts, sorted: ascending -/
theorem ascend_nats {ns : List Nat} (nd : ns.Nodup) : ∃ ys : List Nat, sortD (ns.map dN) = ys.map dN ∧ ys.Perm ns ∧ ys.Pairwise (· < ·) := by
  refine ⟨_, sortD_map dN ns, List.mergeSort_perm _ _, ?_⟩
  have p1 := List.pairwise_mergeSort (le := dataLe false dN) (fun a b c h1 h2 => by
    rw [dle_nat, decide_eq_true_eq] at *
    omega) (fun a b => by
    rw [dle_nat, dle_nat, Bool.or_eq_true, decide_eq_true_eq, decide_eq_true_eq]
    omega) ns
  have p2 : (ns.mergeSort (dataLe false dN)).Nodup := (List.mergeSort_perm _ _).nodup_iff.mpr nd
  exact (List.Pairwise.and p1 p2).imp fun {a b} ⟨h1, h2⟩ => by
    rw [dle_nat, decide_eq_true_eq] at h1
    exact Nat.lt_of_le_of_ne h1 h2
theorem ascend_pairs {ps : List (Nat × Nat)} (nd : ps.Nodup) : ∃ ys : List (Nat × Nat), sortD (ps.map pD) = ys.map pD ∧ ys.Perm ps ∧ ys.Pairwise fun p q => p.1 < q.1 ∨ (p.1 = q.1 ∧ p.2 < q.2) := by
  refine ⟨_, sortD_map pD ps, List.mergeSort_perm _ _, ?_⟩
  have p1 := List.pairwise_mergeSort (le := dataLe false pD) (fun a b c h1 h2 => by
    rw [dle_pair, decide_eq_true_eq] at *
    omega) (fun a b => by
    rw [dle_pair, dle_pair, Bool.or_eq_true, decide_eq_true_eq, decide_eq_true_eq]
    omega) ps
  have p2 : (ps.mergeSort (dataLe false pD)).Nodup := (List.mergeSort_perm _ _).nodup_iff.mpr nd
  exact (List.Pairwise.and p1 p2).imp fun {a b} ⟨h1, h2⟩ => by
    rw [dle_pair, decide_eq_true_eq] at h1
    have h3 : a.1 = b.1 → a.2 ≠ b.2 := fun e1 e2 => h2 (Prod.ext e1 e2)
    omega
section
variable {K : PySem.W.Frag} {σ : L2.St} {H : Hp} {te ta tb : TE}
theorem e_sortN {ns : List Nat} (h : EvP te σ H (vS (ns.map dN))) (hl : ns.length ≤ 1000) : EvP (tCB rSortD (tCons te tNil)) σ H (vL (sortD (ns.map dN))) := e_sorted h (alike_nat ns) (sortable_nat ns) (by rw [List.length_map]; exact hl) (depth_nats ns)
theorem e_sortP {ps : List (Nat × Nat)} (h : EvP te σ H (vS (ps.map pD))) (hl : ps.length ≤ 1000) : EvP (tCB rSortD (tCons te tNil)) σ H (vL (sortD (ps.map pD))) := e_sorted h (alike_pairs ps) (sortable_pairs ps) (by rw [List.length_map]; exact hl) (depth_pairs ps)
theorem nats_ints (ns : List Nat) : ns.map dN = (ns.map Int.ofNat).map .int := by rw [List.map_map]; rfl
theorem e_lenSetN {ns : List Nat} (h : EvP te σ H (vS (ns.map dN))) (few : ns.length < 64) (nd : ns.Nodup) : EvP (tLenSetA te) σ H (vI (.int (ns.length : Nat))) := by
  rw [nats_ints] at h
  have q := e_lenSet h (by rw [List.length_map]; exact few) (by
    unfold List.Nodup
    rw [List.pairwise_map]
    exact nd.imp fun {a b} h e => h (Int.ofNat.inj e))
  rw [List.length_map] at q
  exact q
theorem refs_pairs {H1 : Hp} : ∀ {xs : List V} {ps : List (Nat × Nat)}, ImAll H1 xs (ps.map pD) → ∃ ks : List (Addr × List Int), xs = ks.map (fun p => V.ref p.1) ∧ (∀ p ∈ ks, Tz H1 p.1 (p.2.map V.int)) ∧ ks.map (·.2) = ps.map fun p => [(p.1 : Int), (p.2 : Int)]
  | [], [], _ => ⟨[], rfl, fun _ h => by simp at h, rfl⟩
  | [], _ :: _, h => nomatch h
  | _ :: _, [], h => nomatch h
  | x :: xs, p :: ps, h => by
    cases h with
    | cons h r =>
      obtain ⟨ks, e1, e2, e3⟩ := refs_pairs r
      obtain ⟨a, ys, rfl, ha, im⟩ := Im.isTup h
      rw [ImAll.ints (ns := [(p.1 : Int), (p.2 : Int)]) im] at ha
      refine ⟨(a, [(p.1 : Int), (p.2 : Int)]) :: ks, by rw [e1]; rfl, fun q m => ?_, by rw [List.map_cons, List.map_cons, e3]⟩
      rcases List.mem_cons.mp m with rfl | m
      · exact ha
      · exact e2 q m
theorem e_lenSetP {ps : List (Nat × Nat)} (h : EvP te σ H (vL (ps.map pD))) (few : ps.length < 64) (nd : ps.Nodup) : EvP (tLenSetA te) σ H (vI (.int (ps.length : Nat))) := fun H1 e Q q =>
  h H1 e _ fun v H2 e2 p => by
    obtain ⟨l, xs, rfl, hp, im⟩ := p
    obtain ⟨ks, rfl, h2, h3⟩ := refs_pairs im
    have hl : ks.length = ps.length := by
      have e := congrArg List.length h3
      rw [List.length_map, List.length_map] at e
      exact e
    refine .inr ⟨l, ks, rfl, hp, h2, by omega, ?_, ?_⟩
    · rw [h3]
      unfold List.Nodup
      rw [List.pairwise_map]
      exact nd.imp fun {a b} h e => h (by
        have e1 := List.cons.inj e
        have e2 := List.cons.inj e1.2
        exact Prod.ext (Int.ofNat.inj e1.1) (Int.ofNat.inj e2.1))
    · rw [hl]
      exact q _ _ e2 (.int _)
end
end Lk
end

section
set_option Elab.async false
set_option linter.all false
set_option maxRecDepth 100000
set_option maxHeartbeats 4000000
/-! == of typed data. -/
namespace Lk
open PySem PySem.Spec PyProof.Rows L2 Evl PySem.W C8
section
variable {α : Type} {enc : α → PyData}
theorem cl_map : ∀ xs : List α, (∀ x ∈ xs, (enc x).canLay0 = true) → PyData.canLayAll0 (xs.map enc) = true
  | [], _ => by simp [PyData.canLayAll0]
  | x :: xs, h => by
    rw [List.map_cons, PyData.canLayAll0, h x List.mem_cons_self, cl_map xs fun y m => h y (List.mem_cons_of_mem _ m)]
    rfl
theorem dp_map {n : Nat} : ∀ xs : List α, (∀ x ∈ xs, (enc x).depth ≤ n) → PyData.depthAll (xs.map enc) ≤ n
  | [], _ => by simp [PyData.depthAll]
  | x :: xs, h => by
    rw [List.map_cons, PyData.depthAll]
    exact Nat.max_le.mpr ⟨h x List.mem_cons_self, dp_map xs fun y m => h y (List.mem_cons_of_mem _ m)⟩
/-- data of ints alone, not deep -/
def Flt (n : Nat) (d : PyData) : Prop := d.canLay0 = true ∧ d.depth ≤ n
theorem Flt.sh {n : Nat} {d : PyData} (h : Flt n d) (hn : n ≤ 64 := by decide) : SeqAt.shaped d = true := by
  unfold SeqAt.shaped
  rw [h.1, Bool.true_and]
  exact decide_eq_true (Nat.le_trans h.2 hn)
theorem flt_i (i : Int) : Flt 0 (.int i) := ⟨rfl, Nat.le_refl _⟩
theorem flt_n (i : Nat) : Flt 0 (dN i) := ⟨rfl, Nat.le_refl _⟩
theorem flt_l {n : Nat} {xs : List α} (h : ∀ x ∈ xs, Flt n (enc x)) : Flt (n + 1) (.list (xs.map enc)) := ⟨by simp only [PyData.canLay0]; exact cl_map xs fun x m => (h x m).1, by simp only [PyData.depth]; exact Nat.succ_le_succ (dp_map xs fun x m => (h x m).2)⟩
theorem flt_t {n : Nat} {xs : List α} (h : ∀ x ∈ xs, Flt n (enc x)) : Flt (n + 1) (.tuple (xs.map enc)) := ⟨by simp only [PyData.canLay0]; exact cl_map xs fun x m => (h x m).1, by simp only [PyData.depth]; exact Nat.succ_le_succ (dp_map xs fun x m => (h x m).2)⟩
theorem flt_p (p : Nat × Nat) : Flt 1 (pD p) := by
  refine ⟨by simp [PyData.canLay0, PyData.canLayAll0], by simp [PyData.depth, PyData.depthAll]⟩
theorem flt_ln (ns : List Nat) : Flt 1 (.list (ns.map dN)) := flt_l fun x _ => flt_n x
theorem flt_tn (ns : List Nat) : Flt 1 (.tuple (ns.map dN)) := flt_t fun x _ => flt_n x
end
section
variable {K : PySem.W.Frag} {σ : L2.St} {H : Hp} {te ta tb : TE} {P R : VP} {α : Type} [DecidableEq α] [Datum α] {x y : α}
theorem e_eqT {n : Nat} (ha : EvP ta σ H P) (m : Mono P) (hb : EvP tb σ H R) (h1 : ∀ v H1, P v H1 → Dp K H1 v (Datum.toD x)) (h2 : ∀ v H1, R v H1 → Dp K H1 v (Datum.toD y)) (f : Flt n (Datum.toD x)) (g : Flt n (Datum.toD y)) (hn : n ≤ 64 := by decide) :
    EvP (tOp (rEqD K) ta tb) σ H (vI (.bool (decide (x = y)))) := by
  have q := e_eqD ha m hb h1 h2 (f.sh hn) (g.sh hn)
  rw [Datum.eqv] at q
  exact q
theorem e_neT {n : Nat} (ha : EvP ta σ H P) (m : Mono P) (hb : EvP tb σ H R) (h1 : ∀ v H1, P v H1 → Dp K H1 v (Datum.toD x)) (h2 : ∀ v H1, R v H1 → Dp K H1 v (Datum.toD y)) (f : Flt n (Datum.toD x)) (g : Flt n (Datum.toD y)) (hn : n ≤ 64 := by decide) :
    EvP (tOp (rNeD K) ta tb) σ H (vI (.bool (!decide (x = y)))) := by
  have q := e_neD ha m hb h1 h2 (f.sh hn) (g.sh hn)
  rw [Datum.eqv] at q
  exact q
theorem e_eqLN {ns ms : List Nat} (ha : EvP ta σ H (vL (ns.map dN))) (hb : EvP tb σ H (vL (ms.map dN))) : EvP (tOp (rEqD K) ta tb) σ H (vI (.bool (decide (ns = ms)))) :=
  e_eqT (x := ns) (y := ms) (n := 1) ha (mL _) hb (fun _ _ => dpL) (fun _ _ => dpL) (flt_ln ns) (flt_ln ms)
theorem e_neLN {ns ms : List Nat} (ha : EvP ta σ H (vL (ns.map dN))) (hb : EvP tb σ H (vL (ms.map dN))) : EvP (tOp (rNeD K) ta tb) σ H (vI (.bool (!decide (ns = ms)))) :=
  e_neT (x := ns) (y := ms) (n := 1) ha (mL _) hb (fun _ _ => dpL) (fun _ _ => dpL) (flt_ln ns) (flt_ln ms)
theorem e_eqTN {ns ms : List Nat} (ha : EvP ta σ H (vI (.tuple (ns.map dN)))) (hb : EvP tb σ H (vI (.tuple (ms.map dN)))) : EvP (tOp (rEqD K) ta tb) σ H (vI (.bool (decide (ns = ms)))) := by
  have q := e_eqT (K := K) (x := Tup.mk ns) (y := Tup.mk ms) (n := 1) ha (mI _) hb (fun _ _ => dpI) (fun _ _ => dpI) (flt_tn ns) (flt_tn ms)
  refine EvP.isB q ?_
  rw [decide_eq_decide]
  exact ⟨fun e => Tup.mk.inj e, fun e => by rw [e]⟩
theorem e_neTN {ns ms : List Nat} (ha : EvP ta σ H (vI (.tuple (ns.map dN)))) (hb : EvP tb σ H (vI (.tuple (ms.map dN)))) : EvP (tOp (rNeD K) ta tb) σ H (vI (.bool (!decide (ns = ms)))) := by
  have q := e_neT (K := K) (x := Tup.mk ns) (y := Tup.mk ms) (n := 1) ha (mI _) hb (fun _ _ => dpI) (fun _ _ => dpI) (flt_tn ns) (flt_tn ms)
  refine EvP.isB q (congrArg (!·) ?_)
  rw [decide_eq_decide]
  exact ⟨fun e => Tup.mk.inj e, fun e => by rw [e]⟩
theorem vSL {ds : List PyData} (h : EvP te σ H (vL ds)) : EvP te σ H (vS ds) := EvP.imp h fun v H3 _ q => vS_L q
theorem vST {ds : List PyData} (h : EvP te σ H (vI (.tuple ds))) : EvP te σ H (vS ds) := EvP.imp h fun v H3 _ q => vS_I q
end
end Lk
end

section
set_option Elab.async false
set_option linter.all false
set_option maxRecDepth 100000
set_option maxHeartbeats 4000000
namespace Lk
open PySem PySem.Spec PyProof.Rows L2 Evl PySem.W C8
local macro_rules | `(tactic| walk_at "ex") => `(tactic| first | exact Ex.refl _ | assumption | (refine Ex.trans (H1 := ?g) ?a ?b; (case a => assumption); (case b => walk_at "ex")))
local macro_rules | `(tactic| walk_at "im") => `(tactic| first | assumption | exact Im.int _ | exact Im.bl _ | (refine Im.up (H := ?g) ?a ?b; (case a => assumption); (case b => walk_at "ex")))
local macro_rules | `(tactic| walk_at "ev") => `(tactic| first
  | exact ec_i | exact ec_b | exact ec_s | exact ec_n
  | (refine ei_var rfl ?_; walk_at "im")
  | (refine eo ?_ ?_ <;> walk_at "ev")
  | (refine eoB ?_ ?_ <;> walk_at "ev")
  | (refine e_eqI ?_ ?_ <;> walk_at "ev")
  | (refine e_neI ?_ ?_ <;> walk_at "ev")
  | (refine eu ?_ <;> walk_at "ev")
  | (refine e_not ?_ <;> walk_at "ev"))
/-! Loops, objects that change. -/
/-- all but p stay -/
def Kx (p : Addr) (H H' : Hp) : Prop := ∀ b o, b ≠ p → H b = some o → H' b = some o
theorem Kx.of {p : Addr} {H H' : Hp} (e : Ex H H') : Kx p H H' := fun b o _ h => e b o h
theorem Kx.refl (p : Addr) (H : Hp) : Kx p H H := fun _ _ _ h => h
theorem Kx.trans {p : Addr} {H H1 H2 : Hp} (a : Kx p H H1) (b : Kx p H1 H2) : Kx p H H2 := fun x o n h => b x o n (a x o n h)
theorem Kx.upd {p : Addr} {H : Hp} {o : HO} : Kx p H (upd H p o) := fun b u n h => by rw [upd_ne n]; exact h
/-- what may change: no tuple -/
def Nt (p : Addr) (H : Hp) : Prop := ∀ xs, ¬ Tz H p xs
theorem Kx.tx {p : Addr} {H H' : Hp} (k : Kx p H H') (n : Nt p H) : Tx H H' := fun a xs h => by
  have na : a ≠ p := fun z => n xs (z ▸ h)
  obtain ⟨o, d, e⟩ := h
  exact ⟨o, d, k _ _ na e⟩
theorem nt_lst {p : Addr} {H : Hp} {ys : List V} (h : H p = some (.lst ys)) : Nt p H := fun xs ⟨_, _, z⟩ => by rw [h] at z; cases z
theorem nt_dic {p : Addr} {H : Hp} {ys : List (Key × V)} (h : H p = some (.dK ys)) : Nt p H := fun xs ⟨_, _, z⟩ => by rw [h] at z; cases z
theorem nt_ins {p : Addr} {H : Hp} {C dx : Addr} {fs : List (Str × V)} (h : H p = some (.ins C dx fs)) : Nt p H := fun xs ⟨_, _, z⟩ => by rw [h] at z; cases z
theorem nt_own {p x : Addr} {H : Hp} (h : H p = some (.own x)) : Nt p H := fun xs ⟨_, _, z⟩ => by rw [h] at z; cases z
/-- an object made later -/
theorem Ex.kx {p : Addr} {H H1 H2 : Hp} (e : Ex H H1) (n : H p = none) (k : Kx p H1 H2) : Ex H H2 := fun b o h => k b o (fun z => by rw [z, n] at h; cases h) (e b o h)
/-- sources that only ask that tuples stay -/
def SrcT (wi : TI) (σ : L2.St) (H : Hp) (n : Nat) (Y : Nat → V → Hp → Prop) : Prop := ∀ H1, Ex H H1 → ∀ K : It → Hp → Prop, (∀ J H2, Ex H1 H2 → (∀ i H', Tx H2 H' → i < n → J.go i H' ∧ ∀ x G, J.yld i H' x G → Ex H' G ∧ Tx H' G ∧ Y i x G) → (∀ H', Tx H2 H' → J.stop n H') → K J H2) → wi σ H1 K
section
variable {K : PySem.W.Frag} {σ : L2.St} {H : Hp} {tl te ta tb : TE} {tas : TA} {α : Type} {enc : α → PyData} {xs : List α} {g : TG} {tu : TS} {D : Ends} {j j2 : Nat}
theorem st_T (h : EvP tl σ H (vI (.tuple (xs.map enc)))) : SrcT (iSeq K tl) σ H xs.length (fun i x G => ∃ a, xs[i]? = some a ∧ Im G x (enc a)) := fun H1 e K' q =>
  h H1 e _ fun v H2 e2 p => by
    obtain ⟨a, ws, rfl, hp, im⟩ := p.isTup
    have len : ws.length = xs.length := by rw [im.len, List.length_map]
    refine ⟨a, rfl, .inr ⟨⟨ws, sqT_inj hp⟩, q _ H2 e2 (fun i H' e3 hi => ?_) fun H' e3 => ⟨ws, sqT_inj (e3 _ _ hp), by omega⟩⟩⟩
    have hi' : i < ws.length := by omega
    refine ⟨⟨ws, ws[i], sqT_inj (e3 _ _ hp), List.getElem?_eq_getElem hi'⟩, fun x G hy => ?_⟩
    obtain ⟨rfl, fx⟩ := hy
    refine ⟨Ex.refl _, Tx.refl _, ?_⟩
    obtain ⟨d, hd, him⟩ := im.get (fx ws (sqT_inj (e3 _ _ hp)))
    rw [List.getElem?_map] at hd
    obtain ⟨b, hb, rfl⟩ := Option.map_eq_some_iff.mp hd
    exact ⟨b, hb, him.mv e3⟩
theorem st_R1 {n : Nat} (h : EvAs tas σ H (a1 (vI (.int (n : Int))))) (hn : n ≤ 50000) : SrcT (iRng1 tas) σ H (List.range n).length (fun i x G => ∃ a, (List.range n)[i]? = some a ∧ Im G x (dN a)) := fun H1 e K' q =>
  h H1 e _ fun vs H2 e2 p => by
    obtain ⟨v, ws, rfl, hv, rfl⟩ := p
    cases Im.isInt hv
    refine ⟨(n : Int), rfl, by omega, by omega, ?_⟩
    rw [Int.toNat_natCast]
    refine q _ H2 e2 (fun i H' e3 hi => ?_) fun H' e3 => by show n ≤ _; rw [List.length_range]; exact Nat.le_refl _
    rw [List.length_range] at hi
    refine ⟨hi, fun x G hy => ?_⟩
    obtain ⟨rfl, rfl⟩ := hy
    refine ⟨Ex.refl _, Tx.refl _, i, List.getElem?_range hi, ?_⟩
    show Im _ (V.int (0 + (i : Int))) _
    rw [Int.zero_add]
    exact .int _
/-- for: by what was walked -/
theorem s_for {wi : TI} (h : SrcT wi σ H xs.length (fun i x G => ∃ a, xs[i]? = some a ∧ Im G x (enc a)))
    (k : ∀ H1, Ex H H1 → ∃ Pv : List α → L2.St → Hp → Prop, Pv [] σ H1 ∧
      (∀ l a r x σ' H' G, xs = l ++ a :: r → Tx H1 H' → Pv l σ' H' → Ex H' G → Im G x (enc a) → g x σ' G fun σ2 H2 => tu { D with nx := fun σ H => Tx H1 H ∧ Pv (l ++ [a]) σ H, ct := fun σ H => Tx H1 H ∧ Pv (l ++ [a]) σ H, bk := D.nx } σ2 H2) ∧
      (∀ σ' H', Tx H1 H' → Pv xs σ' H' → D.nx σ' H')) : tFor wi g tu D σ H := h H (Ex.refl H) _ fun J H2 e2 hJ hS => by
  obtain ⟨Pv, p0, step, fin⟩ := k H2 e2
  refine ⟨fun i m σ' H' => m = xs.length - i ∧ i ≤ xs.length ∧ Tx H2 H' ∧ Pv (xs.take i) σ' H', ⟨_, rfl, Nat.zero_le _, Tx.refl _, p0⟩, ?_⟩
  rintro i m σ' H' ⟨rfl, hi, tx, p⟩
  by_cases lt : i < xs.length
  · obtain ⟨go, y⟩ := hJ i H' tx lt
    have tk : xs.take (i + 1) = xs.take i ++ [xs[i]] := by rw [List.take_add_one, List.getElem?_eq_getElem lt]; rfl
    refine .inr ⟨go, fun σ H => Tx H2 H ∧ Pv (xs.take i ++ [xs[i]]) σ H, fun σ2 H3 n => ⟨_, Nat.lt_of_lt_of_le (Nat.sub_lt_sub_left lt (Nat.lt_succ_self i)) (Nat.le_refl _), rfl, lt, n.1, by rw [tk]; exact n.2⟩, fun x G hy => ?_⟩
    obtain ⟨ex, _, a, ha, im⟩ := y x G hy
    rw [List.getElem?_eq_getElem lt] at ha
    cases ha
    exact step (xs.take i) xs[i] (xs.drop (i + 1)) x σ' H' G (by rw [← List.drop_eq_getElem_cons lt, List.take_append_drop]) tx p ex im
  · have e : i = xs.length := by omega
    subst e
    rw [List.take_length] at p
    exact .inl ⟨hS H' tx, fin σ' H' tx p⟩
theorem q_for {wi : TI} {tz : TS} (h : SrcT wi σ H xs.length (fun i x G => ∃ a, xs[i]? = some a ∧ Im G x (enc a)))
    (k : ∀ H1, Ex H H1 → ∃ Pv : List α → L2.St → Hp → Prop, Pv [] σ H1 ∧
      (∀ l a r x σ' H' G, xs = l ++ a :: r → Tx H1 H' → Pv l σ' H' → Ex H' G → Im G x (enc a) → g x σ' G fun σ2 H2 => tu { D with nx := fun σ H => Tx H1 H ∧ Pv (l ++ [a]) σ H, ct := fun σ H => Tx H1 H ∧ Pv (l ++ [a]) σ H, bk := tz D } σ2 H2) ∧
      (∀ σ' H', Tx H1 H' → Pv xs σ' H' → tz D σ' H')) : tSeq (tFor wi g tu) tz D σ H := s_for (D := { D with nx := tz D }) h k
/-- .. over a list that stays -/
theorem s_forL {te : TE} (h : EvP te σ H (vL (xs.map enc)))
    (k : ∀ H1 p ws, Ex H H1 → H1 p = some (.lst ws) → ImAll H1 ws (xs.map enc) → ∃ Pv : List α → L2.St → Hp → Prop, Pv [] σ H1 ∧ (∀ l σ' H', Pv l σ' H' → H' p = some (.lst ws)) ∧
      (∀ l a r x σ' H', xs = l ++ a :: r → Tx H1 H' → Pv l σ' H' → Im H' x (enc a) → g x σ' H' fun σ2 H2 => tu { D with nx := fun σ H => Tx H1 H ∧ Pv (l ++ [a]) σ H, ct := fun σ H => Tx H1 H ∧ Pv (l ++ [a]) σ H, bk := D.nx } σ2 H2) ∧
      (∀ σ' H', Tx H1 H' → Pv xs σ' H' → D.nx σ' H')) : tFor (iSeq K te) g tu D σ H := h H (Ex.refl H) _ fun v H2 e2 p => by
  obtain ⟨p, ws, rfl, hp, im⟩ := p
  obtain ⟨Pv, p0, st, step, fin⟩ := k H2 p ws e2 hp im
  have len : ws.length = xs.length := by rw [im.len, List.length_map]
  refine ⟨p, rfl, .inl ⟨⟨ws, sqL_inj hp⟩, fun i m σ' H' => m = xs.length - i ∧ i ≤ xs.length ∧ Tx H2 H' ∧ Pv (xs.take i) σ' H', ⟨_, rfl, Nat.zero_le _, Tx.refl _, p0⟩, ?_⟩⟩
  rintro i m σ' H' ⟨rfl, hi, tx, q⟩
  have hp' := st _ _ _ q
  by_cases lt : i < xs.length
  · have lt' : i < ws.length := by omega
    have tk : xs.take (i + 1) = xs.take i ++ [xs[i]] := by rw [List.take_add_one, List.getElem?_eq_getElem lt]; rfl
    refine .inr ⟨⟨ws, ws[i], sqL_inj hp', List.getElem?_eq_getElem lt'⟩, fun σ H => Tx H2 H ∧ Pv (xs.take i ++ [xs[i]]) σ H, fun σ2 H3 n => ⟨_, Nat.lt_of_lt_of_le (Nat.sub_lt_sub_left lt (Nat.lt_succ_self i)) (Nat.le_refl _), rfl, lt, n.1, by rw [tk]; exact n.2⟩, fun x G hy => ?_⟩
    obtain ⟨rfl, fx⟩ := hy
    obtain ⟨d, hd, i1⟩ := im.get (fx ws (sqL_inj hp'))
    rw [List.getElem?_map, List.getElem?_eq_getElem lt] at hd
    cases hd
    exact step (xs.take i) xs[i] (xs.drop (i + 1)) x σ' _ (by rw [← List.drop_eq_getElem_cons lt, List.take_append_drop]) tx q (i1.mv tx)
  · have e : i = xs.length := by omega
    subst e
    rw [List.take_length] at q
    exact .inl ⟨⟨ws, sqL_inj hp', by omega⟩, fin σ' H' tx q⟩
theorem q_forL {te : TE} {tz : TS} (h : EvP te σ H (vL (xs.map enc)))
    (k : ∀ H1 p ws, Ex H H1 → H1 p = some (.lst ws) → ImAll H1 ws (xs.map enc) → ∃ Pv : List α → L2.St → Hp → Prop, Pv [] σ H1 ∧ (∀ l σ' H', Pv l σ' H' → H' p = some (.lst ws)) ∧
      (∀ l a r x σ' H', xs = l ++ a :: r → Tx H1 H' → Pv l σ' H' → Im H' x (enc a) → g x σ' H' fun σ2 H2 => tu { D with nx := fun σ H => Tx H1 H ∧ Pv (l ++ [a]) σ H, ct := fun σ H => Tx H1 H ∧ Pv (l ++ [a]) σ H, bk := tz D } σ2 H2) ∧
      (∀ σ' H', Tx H1 H' → Pv xs σ' H' → tz D σ' H')) : tSeq (tFor (iSeq K te) g tu) tz D σ H := s_forL (D := { D with nx := tz D }) h k
/-- a pair taken apart -/
theorem g_pair {d e : PyData} {x : V} {Q : L2.St → Hp → Prop} (im : Im H x (.tuple [d, e])) (k : ∀ u w, Im H u d → Im H w e → Q ((σ.set j (some u)).set j2 (some w)) H) : gTup K 2 (gCons (gName j) (gCons (gName j2) gNil)) x σ H Q := by
  obtain ⟨p, ys, rfl, hp, q⟩ := im.isTup
  obtain ⟨u, w, rfl, q1, q2⟩ := q.two
  exact ⟨p, [u, w], rfl, sqT_inj hp, rfl, u, [w], rfl, w, [], rfl, rfl, k u w q1 q2⟩
/-- append to a list -/
theorem s_appP {l : Addr} {ws : List V} {P : VP} {tl : TE} (ha : Ev tl σ H (.ref l)) (hl : H l = some (.lst ws)) (h : EvP te σ H P) (hz : ws.length < 100000) (k : ∀ v H1, Ex H H1 → P v H1 → D.nx σ (upd H1 l (.lst (ws ++ [v])))) :
    tDrop (tBM K "list" rAppend tl (tCons te tNil)) D σ H := ha H (Ex.refl H) _ fun H1 e1 =>
  ⟨Or.inl ⟨rfl, ws, sq_of (e1 l _ hl)⟩, h H1 e1 _ fun v H2 e2 p => ⟨l, ws, v, rfl, rfl, e2 l _ (e1 l _ hl), sz_lt hz, k v H2 (e1.trans e2) p⟩⟩
theorem q_appP {l : Addr} {ws : List V} {P : VP} {tl : TE} {tz : TS} (ha : Ev tl σ H (.ref l)) (hl : H l = some (.lst ws)) (h : EvP te σ H P) (hz : ws.length < 100000) (k : ∀ v H1, Ex H H1 → P v H1 → tz D σ (upd H1 l (.lst (ws ++ [v])))) :
    tSeq (tDrop (tBM K "list" rAppend tl (tCons te tNil))) tz D σ H := s_appP (D := { D with nx := tz D }) ha hl h hz k
/-- a field of an instance, set -/
theorem s_fldP {C dx : Addr} {a : Addr} {fs : List (Str × V)} {f : Str} {P : VP} {tl : TE} (h : EvP te σ H P) (ha : Ev tl σ H (.ref a)) (hl : H a = some (.ins C dx fs)) (c : Cls K C) (n : NoAttr K C f) (z : fs.length < 1000) (m : Mono P) (k : ∀ v H1, Ex H H1 → P v H1 → D.nx σ (upd H1 a (.ins C dx (putF f v fs)))) :
    sFld K tl te f D σ H := h H (Ex.refl H) _ fun v H1 e1 p => ha H1 e1 _ fun H2 e2 => ⟨a, C, dx, fs, rfl, e2 _ _ (e1 _ _ hl), c, n, z, k v H2 (e1.trans e2) (m _ _ _ e2 p)⟩
theorem q_fldP {C dx : Addr} {a : Addr} {fs : List (Str × V)} {f : Str} {P : VP} {tl : TE} {tz : TS} (h : EvP te σ H P) (ha : Ev tl σ H (.ref a)) (hl : H a = some (.ins C dx fs)) (c : Cls K C) (n : NoAttr K C f) (z : fs.length < 1000) (m : Mono P) (k : ∀ v H1, Ex H H1 → P v H1 → tz D σ (upd H1 a (.ins C dx (putF f v fs)))) :
    tSeq (sFld K tl te f) tz D σ H := s_fldP (D := { D with nx := tz D }) h ha hl c n z m k
/-- facts along a change at an instance -/
theorem mS_ins {p C dx : Addr} {fs : List (Str × V)} {H1 : Hp} {ds : List PyData} {v : V} (h : vS ds v H) (hp : H p = some (.ins C dx fs)) (k : Kx p H H1) : vS ds v H1 := by
  obtain ⟨q, xs, rfl, hq, im⟩ := h
  refine ⟨q, xs, rfl, ?_, im.mv (k.tx (nt_ins hp))⟩
  rcases hq with hq | hq
  · exact .inl (k _ _ (fun z => by rw [z, hp] at hq; cases hq) hq)
  · exact .inr (k.tx (nt_ins hp) _ _ hq)
theorem mL_ins {p C dx : Addr} {fs : List (Str × V)} {H1 : Hp} {ds : List PyData} {v : V} (h : vL ds v H) (hp : H p = some (.ins C dx fs)) (k : Kx p H H1) : vL ds v H1 := by
  obtain ⟨q, xs, rfl, hq, im⟩ := h
  have n : q ≠ p := fun z => by rw [z, hp] at hq; cases hq
  exact ⟨q, xs, rfl, k _ _ n hq, im.mv (k.tx (nt_ins hp))⟩
end
end Lk
end

section
set_option Elab.async false
set_option linter.all false
set_option maxRecDepth 100000
set_option maxHeartbeats 4000000
namespace Lk
open PySem PySem.Spec PyProof.Rows L2 Evl PySem.W C8
local macro_rules | `(tactic| walk_at "ex") => `(tactic| first | exact Ex.refl _ | assumption | (refine Ex.trans (H1 := ?g) ?a ?b; (case a => assumption); (case b => walk_at "ex")))
local macro_rules | `(tactic| walk_at "im") => `(tactic| first | assumption | exact Im.int _ | exact Im.bl _ | (refine Im.up (H := ?g) ?a ?b; (case a => assumption); (case b => walk_at "ex")))
local macro_rules | `(tactic| walk_at "ev") => `(tactic| first
  | exact ec_i | exact ec_b | exact ec_s | exact ec_n
  | (refine ei_var rfl ?_; walk_at "im")
  | (refine eo ?_ ?_ <;> walk_at "ev")
  | (refine eoB ?_ ?_ <;> walk_at "ev")
  | (refine e_eqI ?_ ?_ <;> walk_at "ev")
  | (refine e_neI ?_ ?_ <;> walk_at "ev")
  | (refine eu ?_ <;> walk_at "ev")
  | (refine e_not ?_ <;> walk_at "ev"))
/-! Nets: their data, their object. -/
structure NetD where
  n : Nat
  ss : List (Nat × Nat)
  kept : List Nat
  ts : List (Nat × Nat)
def NetD.looked (x : NetD) : List Nat := (List.range x.n).filter fun t => !decide (t ∈ x.kept)
structure NetD.Ok (x : NetD) : Prop where
  n1 : 1 ≤ x.n
  n4 : x.n ≤ 4
  ss : x.ss.Pairwise fun p q => p.1 < q.1 ∨ (p.1 = q.1 ∧ p.2 < q.2)
  sl : ∀ p ∈ x.ss, p.1 < p.2 ∧ p.2 < x.n
  sz : x.ss.length < 64
  kn : x.kept.Nodup
  kl : ∀ t ∈ x.kept, t < x.n
  kz : x.kept.length < 64
  tl : x.ts.map (·.1) = x.looked
  t8 : ∀ p ∈ x.ts, p.2 < 8
theorem NetD.Ok.sn {x : NetD} (o : x.Ok) : x.ss.Nodup := o.ss.imp fun {a b} h e => by subst e; omega
theorem NetD.looked_asc (x : NetD) : x.looked.Pairwise (· < ·) := List.Pairwise.sublist List.filter_sublist List.pairwise_lt_range
theorem NetD.looked_len (x : NetD) : x.looked.length ≤ x.n := by
  have h := List.length_filter_le (fun t => !decide (t ∈ x.kept)) (List.range x.n)
  rw [List.length_range] at h
  exact h
theorem NetD.Ok.tz {x : NetD} (o : x.Ok) : x.ts.length < 64 := by
  have h := congrArg List.length o.tl
  rw [List.length_map] at h
  have := x.looked_len
  have := o.n4
  omega
theorem lit {b : Bool} {σ : L2.St} {H : Hp} : EvP (tC (.bl b)) σ H (vI (.bool b)) := ec_b
/-- an instance whose fields are data -/
inductive FsIm (H : Hp) : List (Str × V) → List (Str × PyData) → Prop
  | nil : FsIm H [] []
  | cons {f : Str} {v : V} {d : PyData} {fs : List (Str × V)} {ds : List (Str × PyData)} : Im H v d → FsIm H fs ds → FsIm H ((f, v) :: fs) ((f, d) :: ds)
theorem FsIm.mv {H H' : Hp} (e : Tx H H') : ∀ {fs : List (Str × V)} {ds : List (Str × PyData)}, FsIm H fs ds → FsIm H' fs ds
  | _, _, .nil => .nil
  | _, _, .cons h r => .cons (h.mv e) (FsIm.mv e r)
theorem FsIm.look {H : Hp} {f : Str} {d : PyData} : ∀ {fs : List (Str × V)} {ds : List (Str × PyData)}, FsIm H fs ds → ds.lookup f = some d → ∃ v, fs.lookup f = some v ∧ Im H v d
  | _, _, .nil, h => by cases h
  | (g, v) :: fs, _ :: ds, .cons im r, h => by
    rw [List.lookup_cons] at h ⊢
    cases e : f == g with
    | true => rw [e] at h; cases h; exact ⟨_, rfl, im⟩
    | false => rw [e] at h; exact FsIm.look r h
theorem FsIm.len {H : Hp} : ∀ {fs : List (Str × V)} {ds : List (Str × PyData)}, FsIm H fs ds → fs.length = ds.length
  | _, _, .nil => rfl
  | _, _, .cons _ r => congrArg Nat.succ (FsIm.len r)
/-- a field put, as in putF -/
def putD (f : Str) (d : PyData) : List (Str × PyData) → List (Str × PyData)
  | [] => [(f, d)]
  | (g, x) :: r => if g = f then (g, d) :: r else (g, x) :: putD f d r
theorem FsIm.put {H : Hp} {f : Str} {v : V} {d : PyData} (im : Im H v d) : ∀ {fs : List (Str × V)} {ds : List (Str × PyData)}, FsIm H fs ds → FsIm H (putF f v fs) (putD f d ds)
  | _, _, .nil => .cons im .nil
  | (g, x) :: fs, _ :: ds, .cons h r => by
    unfold putF putD
    by_cases e : g = f
    · rw [if_pos e, if_pos e]; exact .cons im r
    · rw [if_neg e, if_neg e]; exact .cons h (FsIm.put im r)
def vO (C : Addr) (ds : List (Str × PyData)) : VP := fun v H => ∃ a dx fs, v = .ref a ∧ H a = some (.ins C dx fs) ∧ FsIm H fs ds
theorem mO (C : Addr) (ds : List (Str × PyData)) : Mono (vO C ds) := fun v H H' e h => by
  obtain ⟨a, dx, fs, r, hl, f⟩ := h
  exact ⟨a, dx, fs, r, e _ _ hl, f.mv (Tx.of e)⟩
section
variable {σ : L2.St} {H : Hp} {te : TE} {K : PySem.W.Frag} {C : Addr} {ds : List (Str × PyData)} {d : PyData} {f : Str} {ta : TA}
theorem e_fo (h : EvP te σ H (vO C ds)) (c : Cls K C) (n : NoAttr K C f) (l : ds.lookup f = some d) : EvP (tFld K te f) σ H (vI d) := e_fld h (mI _) fun v H1 p => by
  obtain ⟨a, dx, fs, rfl, hl, im⟩ := p
  obtain ⟨w, h1, h2⟩ := im.look l
  exact ⟨a, C, dx, fs, w, rfl, hl, c, n, h1, h2⟩
/-- what __init__ promises: all but self stays, self has these fields -/
def spI {α : Type} (C : Addr) (pre : α → Prop) (arg : α → AV) (fds : α → List (Str × PyData)) : Sp := fun vs H Q _ => ∃ (x : α) (a dx : Addr) (ws : List V), pre x ∧ vs = .ref a :: ws ∧ H a = some (.ins C dx []) ∧ arg x ws H ∧ ∀ H', Kx a H H' → (∃ fs, H' a = some (.ins C dx fs) ∧ FsIm H' fs (fds x)) → Q .non H'
theorem ep_mk {α : Type} {pre : α → Prop} {arg : α → AV} {fds : α → List (Str × PyData)} (x : α) (hp : pre x) (h : EvAs ta σ H (arg x)) (ma : ∀ vs H H', Ex H H' → arg x vs H → arg x vs H') : EvP (tMake C (spI C pre arg fds) [] C8.E0 ta) σ H (vO C (fds x)) := fun H1 e Q q =>
  h H1 e _ fun vs H2 e2 a o dx ho hd ne => by
    have eo : Ex H2 (upd (upd H2 dx (.own o)) o (.ins C dx [])) := fun b u hb => by
      have n1 : b ≠ o := fun z => by rw [z, ho] at hb; cases hb
      have n2 : b ≠ dx := fun z => by rw [z, hd] at hb; cases hb
      rw [upd_ne n1, upd_ne n2]
      exact hb
    refine ⟨x, o, dx, vs, hp, by rw [List.append_nil], upd_same, ma _ _ _ eo a, fun H3 k f => ⟨rfl, ?_⟩⟩
    obtain ⟨fs, h1, h2⟩ := f
    have e3 : Ex H2 H3 := fun b u hb => k b u (fun z => by rw [z, ho] at hb; cases hb) (eo b u hb)
    exact q _ _ (e2.trans e3) ⟨o, dx, fs, rfl, h1, h2⟩
end
/-- self, while __init__ runs -/
def NI (a C dx : Addr) (ds : List (Str × PyData)) (H : Hp) : Prop := ∃ fs, H a = some (.ins C dx fs) ∧ FsIm H fs ds
section
variable {σ : L2.St} {H H1 : Hp} {te tl : TE} {K : PySem.W.Frag} {a C dx : Addr} {ds : List (Str × PyData)} {d : PyData} {f : Str} {D : Ends} {tz : TS} {es : List PyData} {v : V}
theorem NI.up (h : NI a C dx ds H) (e : Ex H H1) : NI a C dx ds H1 := by
  obtain ⟨fs, h1, h2⟩ := h
  exact ⟨fs, e _ _ h1, h2.mv (Tx.of e)⟩
theorem NI.o (h : NI a C dx ds H) : vO C ds (.ref a) H := by
  obtain ⟨fs, h1, h2⟩ := h
  exact ⟨a, dx, fs, rfl, h1, h2⟩
theorem NI.tx (h : NI a C dx ds H) (k : Kx a H H1) : Tx H H1 := by
  obtain ⟨fs, h1, _⟩ := h
  exact k.tx (nt_ins h1)
theorem NI.im (h : NI a C dx ds H) (k : Kx a H H1) (i : Im H v d) : Im H1 v d := i.mv (h.tx k)
theorem NI.l (h : NI a C dx ds H) (k : Kx a H H1) (i : vL es v H) : vL es v H1 := by
  obtain ⟨fs, h1, _⟩ := h
  exact mL_ins i h1 k
theorem s_ni (h : EvP te σ H (vI d)) (ha : Ev tl σ H (.ref a)) (i : NI a C dx ds H) (c : Cls K C) (n : NoAttr K C f) (z : ds.length < 1000) (k : ∀ H1, Kx a H H1 → NI a C dx (putD f d ds) H1 → D.nx σ H1) : sFld K tl te f D σ H := by
  obtain ⟨fs, h1, h2⟩ := i
  refine s_fldP h ha h1 c n (by rw [h2.len]; exact z) (mI _) fun v H2 e p => ?_
  have t : Tx H2 (upd H2 a (.ins C dx (putF f v fs))) := (Kx.upd (p := a)).tx (nt_ins (e _ _ h1))
  exact k _ ((Kx.of e).trans (Kx.upd (p := a))) ⟨_, upd_same, FsIm.put (p.mv t) ((h2.mv (Tx.of e)).mv t)⟩
theorem q_ni (h : EvP te σ H (vI d)) (ha : Ev tl σ H (.ref a)) (i : NI a C dx ds H) (c : Cls K C) (n : NoAttr K C f) (z : ds.length < 1000) (k : ∀ H1, Kx a H H1 → NI a C dx (putD f d ds) H1 → tz D σ H1) : tSeq (sFld K tl te f) tz D σ H := s_ni (D := { D with nx := tz D }) h ha i c n z k
end
section
variable {P : Program} {w : World} {K : PySem.W.Frag} {mg : Str → Option Value} {base : Heap}
theorem mkMak {x qual : Str} {C : Addr} {st : Stmt} {N ps : List Str} {k : Nat} {sp : Sp} (M : ∃ f fd, Mk K C f ∧ FunD K "__init__" qual (defArgs st) (defBody st) (defScope st) [] [] f fd) (hm : mg x = some (.ref C)) (S : FnScope N ps (defScope st))
    (hb : ∀ (kV doc pm : Value) (an : Option Addr) (cdv ct : Value) (us : List Value), us.length = ps.length → bindArgs (PySem.W.fnOf "__init__" qual (defArgs st) (defBody st) (defScope st) .none kV doc pm an cdv ct) ⟨us, []⟩ = pure (ps.zip us))
    (len : ∀ vs H Q E, sp vs H Q E → vs.length = ps.length)
    (body : ∀ (f : Addr) (cdv : Value) (A : Around) (outer : List Env) (s : Shared) (H : Hp) (vs : List V) (Q : VK) (E : XK), Room k (A.deeper (envOfC qual (defScope st) s.heap.objs.size f cdv)) → sp vs H Q E →
      ∃ t, PSs (cxOf L2.CX0 P w K mg base N qual (defScope st) f cdv A outer s H E).nox (defBody st) t ∧ t { nx := fun _ H' => Q .non H', rt := Q } (start N vs) H) : Mak P w K mg base (k + 1) x C sp [] := by
  obtain ⟨f, fd, m, F⟩ := M
  exact ⟨f, fd, ps, [], m, F.ok S len fun cdv A outer s H vs Q E hr h => by
    obtain ⟨t, a, b⟩ := body f cdv A outer s H vs Q E hr h
    exact ⟨t, a.nox, b⟩, hm, F.bindsN hb, .nil⟩
theorem mkMet {m qual : Str} {C : Addr} {st : Stmt} {N ps : List Str} {k : Nat} {sp : Sp} (c : Cls K C) (M : ∃ f fd, Meth K C m f ∧ FunD K m qual (defArgs st) (defBody st) (defScope st) [] [] f fd) (S : FnScope N ps (defScope st))
    (hb : ∀ (kV doc pm : Value) (an : Option Addr) (cdv ct : Value) (us : List Value), us.length = ps.length → bindArgs (PySem.W.fnOf m qual (defArgs st) (defBody st) (defScope st) .none kV doc pm an cdv ct) ⟨us, []⟩ = pure (ps.zip us))
    (len : ∀ vs H Q E, sp vs H Q E → vs.length = ps.length)
    (body : ∀ (f : Addr) (cdv : Value) (A : Around) (outer : List Env) (s : Shared) (H : Hp) (vs : List V) (Q : VK) (E : XK), Room k (A.deeper (envOfC qual (defScope st) s.heap.objs.size f cdv)) → sp vs H Q E →
      ∃ t, PSs (cxOf L2.CX0 P w K mg base N qual (defScope st) f cdv A outer s H E).nox (defBody st) t ∧ t { nx := fun _ H' => Q .non H', rt := Q } (start N vs) H) : Met P w K mg base (k + 1) C m sp [] := by
  obtain ⟨f, fd, me, F⟩ := M
  exact ⟨f, fd, ps, [], c, me, F.ok S len fun cdv A outer s H vs Q E hr h => by
    obtain ⟨t, a, b⟩ := body f cdv A outer s H vs Q E hr h
    exact ⟨t, a.nox, b⟩, F.bindsN hb, .nil⟩
end
abbrev netF (x : NetD) : List (Str × PyData) := [("things", dN x.n), ("strings", .tuple (x.ss.map pD)), ("given", .tuple (([] : List Nat).map dN)), ("kept", .tuple (x.kept.map dN)), ("looked", .tuple (x.looked.map dN)), ("turns", .tuple (x.ts.map pD))]
abbrev vNet (c : Cs) (x : NetD) : VP := vO c.net (netF x)
section
variable {σ : L2.St} {H : Hp} {te : TE} {K : PySem.W.Frag} {mg : Str → Option Value} {c : Cs} {x : NetD}
theorem n_things (T : Txt K mg c) (h : EvP te σ H (vNet c x)) : EvP (tFld K te "things") σ H (vI (dN x.n)) := e_fo h T.cl_Net T.nNet_things rfl
theorem n_strings (T : Txt K mg c) (h : EvP te σ H (vNet c x)) : EvP (tFld K te "strings") σ H (vI (.tuple (x.ss.map pD))) := e_fo h T.cl_Net T.nNet_strings rfl
theorem n_given (T : Txt K mg c) (h : EvP te σ H (vNet c x)) : EvP (tFld K te "given") σ H (vI (.tuple (([] : List Nat).map dN))) := e_fo h T.cl_Net T.nNet_given rfl
theorem n_kept (T : Txt K mg c) (h : EvP te σ H (vNet c x)) : EvP (tFld K te "kept") σ H (vI (.tuple (x.kept.map dN))) := e_fo h T.cl_Net T.nNet_kept rfl
theorem n_looked (T : Txt K mg c) (h : EvP te σ H (vNet c x)) : EvP (tFld K te "looked") σ H (vI (.tuple (x.looked.map dN))) := e_fo h T.cl_Net T.nNet_looked rfl
theorem n_turns (T : Txt K mg c) (h : EvP te σ H (vNet c x)) : EvP (tFld K te "turns") σ H (vI (.tuple (x.ts.map pD))) := e_fo h T.cl_Net T.nNet_turns rfl
end
section
variable {σ : L2.St} {H : Hp} {ta tb : TE} {K : PySem.W.Frag} {n : Nat} {ns : List Nat}
theorem mem_ofNat : decide ((n : Int) ∈ ns.map Int.ofNat) = decide (n ∈ ns) := by
  rw [decide_eq_decide, List.mem_map]
  exact ⟨fun ⟨a, h, e⟩ => Int.ofNat.inj e ▸ h, fun h => ⟨n, h, rfl⟩⟩
theorem e_inN (ha : EvP ta σ H (vI (dN n))) (hb : EvP tb σ H (vS (ns.map dN))) : EvP (tOp (rIn K false) ta tb) σ H (vI (.bool (decide (n ∈ ns)))) := by
  rw [nats_ints] at hb
  exact EvP.isB (e_in ha hb) mem_ofNat
theorem e_ninN (ha : EvP ta σ H (vI (dN n))) (hb : EvP tb σ H (vS (ns.map dN))) : EvP (tOp (rIn K true) ta tb) σ H (vI (.bool (!decide (n ∈ ns)))) := by
  rw [nats_ints] at hb
  exact EvP.isB (e_in ha hb) (congrArg (!·) mem_ofNat)
end
end Lk
end

section
set_option Elab.async false
set_option linter.all false
set_option maxRecDepth 100000
set_option maxHeartbeats 4000000
namespace Lk
open PySem PySem.Spec PyProof.Rows L2 Evl PySem.W C8
local macro_rules | `(tactic| walk_at "ex") => `(tactic| first | exact Ex.refl _ | assumption | (refine Ex.trans (H1 := ?g) ?a ?b; (case a => assumption); (case b => walk_at "ex")))
local macro_rules | `(tactic| walk_at "im") => `(tactic| first | assumption | exact Im.int _ | exact Im.bl _ | (refine Im.up (H := ?g) ?a ?b; (case a => assumption); (case b => walk_at "ex")))
local macro_rules | `(tactic| walk_at "ev") => `(tactic| first
  | exact ec_i | exact ec_b | exact ec_s | exact ec_n
  | (refine ei_var rfl ?_; walk_at "im")
  | (refine eo ?_ ?_ <;> walk_at "ev")
  | (refine eoB ?_ ?_ <;> walk_at "ev")
  | (refine e_eqI ?_ ?_ <;> walk_at "ev")
  | (refine e_neI ?_ ?_ <;> walk_at "ev")
  | (refine eu ?_ <;> walk_at "ev")
  | (refine e_not ?_ <;> walk_at "ev"))
/-! Bits; new lists. -/
def xorN (a b : Nat) : Nat := (a ||| b) - (a &&& b)
def bitsN (a : Nat) : Nat := if a = 0 then 0 else a.log2 + 1
theorem bitAnd_NN (a b : Nat) : Builtin.bitAnd (a : Int) (b : Int) = ((a &&& b : Nat) : Int) := bitAnd_pp (Int.natCast_nonneg a) (Int.natCast_nonneg b)
theorem bitOr_NN (a b : Nat) : Builtin.bitOr (a : Int) (b : Int) = ((a ||| b : Nat) : Int) := L2.bitOr_nn (Int.natCast_nonneg a) (Int.natCast_nonneg b)
theorem bitXor_NN (a b : Nat) : Builtin.bitXor (a : Int) (b : Int) = (xorN a b : Int) := by
  show Builtin.bitOr (a : Int) (b : Int) - Builtin.bitAnd (a : Int) (b : Int) = _
  rw [bitAnd_NN, bitOr_NN]
  unfold xorN
  have h1 : a &&& b ≤ a := Nat.and_le_left
  have h2 : a ≤ a ||| b := Nat.left_le_or
  omega
theorem intBits_N (a : Nat) : Builtin.Int.intBits (a : Int) = bitsN a := by
  unfold Builtin.Int.intBits bitsN
  by_cases h : a = 0
  · subst h; rfl
  · rw [if_neg h, if_neg (by simp; omega)]
    rfl
section
variable {K : PySem.W.Frag} {σ : L2.St} {H : Hp} {te ta tb : TE} {a b : Nat} {tas : TA} {D : Ends} {tz : TS} {ds : List PyData} {P : VP}
theorem e_orN (ha : EvP ta σ H (vI (dN a))) (hb : EvP tb σ H (vI (dN b))) : EvP (tOp (rI0 fun i j => .int (Builtin.bitOr i j)) ta tb) σ H (vI (dN (a ||| b))) := EvP.isI (eo ha hb) (bitOr_NN a b)
theorem e_andN (ha : EvP ta σ H (vI (dN a))) (hb : EvP tb σ H (vI (dN b))) : EvP (tOp (rI0 fun i j => .int (Builtin.bitAnd i j)) ta tb) σ H (vI (dN (a &&& b))) := EvP.isI (eo ha hb) (bitAnd_NN a b)
theorem e_xorN (ha : EvP ta σ H (vI (dN a))) (hb : EvP tb σ H (vI (dN b))) : EvP (tOp (rI0 fun i j => .int (Builtin.bitXor i j)) ta tb) σ H (vI (dN (xorN a b))) := EvP.isI (eo ha hb) (bitXor_NN a b)
theorem e_shl1 (hb : EvP tb σ H (vI (dN b))) (h : b ≤ 1000000) : EvP (tOp (rI CPow fun i j => .int (i * 2 ^ j.toNat)) (tC (.int 1)) tb) σ H (vI (dN (2 ^ b))) := by
  refine EvP.isI (eoC ec_i hb ⟨Int.natCast_nonneg b, by omega, by decide⟩) ?_
  rw [Int.one_mul, Int.toNat_natCast, Int.natCast_pow]
  rfl
theorem e_shrN (ha : EvP ta σ H (vI (dN a))) (hb : EvP tb σ H (vI (dN b))) : EvP (tOp (rI (fun _ j => 0 ≤ j) fun i j => .int (i / 2 ^ j.toNat)) ta tb) σ H (vI (dN (a / 2 ^ b))) := by
  refine EvP.isI (eoC ha hb (Int.natCast_nonneg b)) ?_
  rw [Int.toNat_natCast, Int.natCast_ediv, Int.natCast_pow]
  rfl
theorem e_bitsN (ha : EvP ta σ H (vI (dN a))) : EvP (tBits ta) σ H (vI (dN (bitsN a))) := fun H1 e Q q => ha H1 e _ fun x H2 e2 p => by
  refine ⟨(a : Int), Im.isInt p, q _ _ e2 ?_⟩
  rw [intBits_N]
  exact .int _
/-- a list that is new -/
def vF (H0 : Hp) (ds : List PyData) : VP := fun v H => ∃ p xs, v = .ref p ∧ H0 p = none ∧ H p = some (.lst xs) ∧ ImAll H xs ds
theorem vF_L {H0 : Hp} {v : V} (h : vF H0 ds v H) : vL ds v H := by
  obtain ⟨p, xs, r, _, h, i⟩ := h
  exact ⟨p, xs, r, h, i⟩
theorem ep_lstF (h : EvAs tas σ H (fun vs H => ImAll H vs ds)) (hl : ds.length ≤ 100000) : EvP (tLst tas) σ H (vF H ds) := fun H1 e Q q =>
  h H1 e _ fun vs H2 e2 a => ⟨by rw [a.len]; exact sz_of hl, fun p hp => q _ _ (e2.trans (Ex.new hp)) ⟨p, _, rfl, fresh_back (e.trans e2) hp, upd_same, a.mv (Tx.new hp)⟩⟩
theorem ep_nilF : EvP (tLst tNil) σ H (vF H []) := ep_lstF ea_nil (Nat.zero_le _)
theorem e_listF (h : EvP te σ H (vS ds)) : EvP (tCB (rListOf K) (tCons te tNil)) σ H (vF H ds) := fun H1 e Q q => h H1 e _ fun v H2 e2 p => by
  obtain ⟨l, ys, rfl, hl, im⟩ := p
  exact ⟨l, ys, rfl, hl.imp SqL.of Tz.sq, fun t ht => q _ _ (e2.trans (Ex.new ht)) ⟨t, ys, rfl, fresh_back (e.trans e2) ht, upd_same, im.mv (Tx.new ht)⟩⟩
/-- [x] * n -/
theorem ep_repF {d : PyData} (h : EvP te σ H (vI d)) (hb : EvP tb σ H (vI (dN b))) (hz : b ≤ 1000) : EvP (tOp rRep (tLst (tCons te tNil)) tb) σ H (vF H (List.replicate b d)) := fun H1 e Q q =>
  ep_lstF (ea_cons h ea_nil) (by show 1 ≤ 100000; omega) H1 e _ fun v H2 e2 p => hb H2 (e.trans e2) _ fun w H3 e3 pw => by
    obtain ⟨l, xs, rfl, _, hl, im⟩ := p
    obtain ⟨x, rfl, ix⟩ := im.one
    refine ⟨l, (b : Int), [x], rfl, Im.isInt pw, e3 _ _ hl, by omega, by omega, ?_, ?_⟩
    · rw [Int.toNat_natCast, List.length_singleton, Nat.one_mul]
      exact sz_of (by omega)
    · intro t ht
      refine q _ _ (e2.trans (e3.trans (Ex.new ht))) ⟨t, _, rfl, fresh_back (e.trans (e2.trans e3)) ht, upd_same, ?_⟩
      rw [Int.toNat_natCast]
      have ix' := (ix.up e3).mv (Tx.new ht (o := .lst (List.replicate b [x]).flatten))
      have go : ∀ n, ImAll (upd H3 t (.lst (List.replicate b [x]).flatten)) (List.replicate n [x]).flatten (List.replicate n d) := fun n => by
        induction n with
        | zero => exact .nil
        | succ n ih => exact .cons ix' ih
      exact go b
/-- a new list, kept in a name -/
theorem q_new {i : Nat} (h : EvP te σ H (vF H ds)) (k : ∀ p xs H1, Ex H H1 → H p = none → H1 p = some (.lst xs) → ImAll H1 xs ds → tz D (σ.set i (some (.ref p))) H1) : tSeq (tAsg te (gName i)) tz D σ H := h H (Ex.refl H) _ fun v H1 e p => by
  obtain ⟨q, xs, rfl, n, hq, im⟩ := p
  exact k q xs H1 e n hq im
/-- xs[i] = e -/
theorem s_setP {l : Addr} {xs : List V} {j : Nat} (hl : H l = some (.lst xs)) (h : EvP te σ H P) (m : Mono P) (ho : Ev ta σ H (.ref l)) (hi : EvP tb σ H (vI (dN j))) (hj : j < xs.length) (k : ∀ v H1, Ex H H1 → P v H1 → D.nx σ (upd H1 l (.lst (xs.set j v)))) :
    tAsg te (gSub ta tb rSetL) D σ H := h H (Ex.refl H) _ fun v H1 e1 p => ho H1 e1 _ fun H2 e2 => hi H2 (e1.trans e2) _ fun w H3 e3 pw =>
  ⟨l, xs, (j : Int), j, rfl, Im.isInt pw, ((e1.trans e2).trans e3) l _ hl, ixN_nat hj, k v H3 ((e1.trans e2).trans e3) (m _ _ _ (e2.trans e3) p)⟩
theorem q_setP {l : Addr} {xs : List V} {j : Nat} (hl : H l = some (.lst xs)) (h : EvP te σ H P) (m : Mono P) (ho : Ev ta σ H (.ref l)) (hi : EvP tb σ H (vI (dN j))) (hj : j < xs.length) (k : ∀ v H1, Ex H H1 → P v H1 → tz D σ (upd H1 l (.lst (xs.set j v)))) :
    tSeq (tAsg te (gSub ta tb rSetL)) tz D σ H := s_setP (D := { D with nx := tz D }) hl h m ho hi hj k
end
theorem ImAll.set {H : Hp} : ∀ {vs : List V} {ds : List PyData} {i : Nat} {v : V} {d : PyData}, ImAll H vs ds → Im H v d → ImAll H (vs.set i v) (ds.set i d)
  | _, _, _, _, _, .nil, _ => .nil
  | _, _, 0, _, _, .cons _ r, h => .cons h r
  | _, _, _ + 1, _, _, .cons q r, h => .cons q (ImAll.set r h)
theorem Tx.updL {H H1 : Hp} {p : Addr} {xs : List V} {o : HO} (e : Ex H H1) (h : H p = some (.lst xs)) : Tx H (L2.upd H1 p o) := (Tx.of e).trans (Tx.lst (e _ _ h))
end Lk
end

section
set_option Elab.async false
set_option linter.all false
set_option maxRecDepth 100000
set_option maxHeartbeats 4000000
namespace Lk
open PySem PySem.Spec PyProof.Rows L2 Evl PySem.W C8
local macro_rules | `(tactic| walk_at "ex") => `(tactic| first | exact Ex.refl _ | assumption | (refine Ex.trans (H1 := ?g) ?a ?b; (case a => assumption); (case b => walk_at "ex")))
local macro_rules | `(tactic| walk_at "im") => `(tactic| first | assumption | exact Im.int _ | exact Im.bl _ | (refine Im.up (H := ?g) ?a ?b; (case a => assumption); (case b => walk_at "ex")))
local macro_rules | `(tactic| walk_at "ev") => `(tactic| first
  | exact ec_i | exact ec_b | exact ec_s | exact ec_n
  | (refine ei_var rfl ?_; walk_at "im")
  | (refine eo ?_ ?_ <;> walk_at "ev")
  | (refine eoB ?_ ?_ <;> walk_at "ev")
  | (refine e_eqI ?_ ?_ <;> walk_at "ev")
  | (refine e_neI ?_ ?_ <;> walk_at "ev")
  | (refine eu ?_ <;> walk_at "ev")
  | (refine e_not ?_ <;> walk_at "ev"))
/-! Dicts whose keys are numbers. -/
def getA {α : Type} : List (Nat × α) → Nat → Option α
  | [], _ => none
  | p :: r, n => if p.1 = n then some p.2 else getA r n
def hasA {α : Type} : List (Nat × α) → Nat → Bool
  | [], _ => false
  | p :: r, n => decide (p.1 = n) || hasA r n
def setA {α : Type} : List (Nat × α) → Nat → α → List (Nat × α)
  | [], _, _ => []
  | p :: r, n, d => (if p.1 = n then (p.1, d) else p) :: setA r n d
def putA {α : Type} (ps : List (Nat × α)) (n : Nat) (d : α) : List (Nat × α) := if hasA ps n then setA ps n d else ps ++ [(n, d)]
def encA {α β : Type} (enc : α → β) (ps : List (Nat × α)) : List (Nat × β) := ps.map fun p => (p.1, enc p.2)
section
variable {α β : Type} {enc : α → β}
theorem getA_enc : ∀ (ps : List (Nat × α)) (n : Nat), getA (encA enc ps) n = (getA ps n).map enc
  | [], _ => rfl
  | p :: r, n => by
    show (if p.1 = n then some (enc p.2) else getA (encA enc r) n) = (if p.1 = n then some p.2 else getA r n).map enc
    by_cases h : p.1 = n
    · rw [if_pos h, if_pos h]; rfl
    · rw [if_neg h, if_neg h]; exact getA_enc r n
theorem hasA_enc : ∀ (ps : List (Nat × α)) (n : Nat), hasA (encA enc ps) n = hasA ps n
  | [], _ => rfl
  | p :: r, n => by
    show (decide (p.1 = n) || hasA (encA enc r) n) = (decide (p.1 = n) || hasA r n)
    rw [hasA_enc r n]
theorem setA_enc (d : α) : ∀ (ps : List (Nat × α)) (n : Nat), setA (encA enc ps) n (enc d) = encA enc (setA ps n d)
  | [], _ => rfl
  | p :: r, n => by
    show (if p.1 = n then (p.1, enc d) else (p.1, enc p.2)) :: setA (encA enc r) n (enc d) = encA enc ((if p.1 = n then (p.1, d) else p) :: setA r n d)
    rw [setA_enc d r n]
    by_cases h : p.1 = n
    · rw [if_pos h, if_pos h]; rfl
    · rw [if_neg h, if_neg h]; rfl
theorem putA_enc (d : α) (ps : List (Nat × α)) (n : Nat) : putA (encA enc ps) n (enc d) = encA enc (putA ps n d) := by
  unfold putA
  rw [hasA_enc]
  by_cases h : hasA ps n = true
  · rw [if_pos h, if_pos h, setA_enc]
  · rw [if_neg h, if_neg h]
    unfold encA
    rw [List.map_append]; rfl
theorem putA_len (d : α) (ps : List (Nat × α)) (n : Nat) : (putA ps n d).length ≤ ps.length + 1 := by
  unfold putA
  by_cases h : hasA ps n = true
  · rw [if_pos h]
    have e : ∀ ps : List (Nat × α), (setA ps n d).length = ps.length := fun ps => by
      induction ps with
      | nil => rfl
      | cons p r ih => exact congrArg Nat.succ ih
    rw [e]; omega
  · rw [if_neg h, List.length_append]; exact Nat.le_refl _
theorem mem_putA {d : α} {ps : List (Nat × α)} {n : Nat} {q : Nat × α} (h : q ∈ putA ps n d) : q = (n, d) ∨ q ∈ ps := by
  unfold putA at h
  by_cases z : hasA ps n = true
  · rw [if_pos z] at h
    have e : ∀ ps : List (Nat × α), q ∈ setA ps n d → q = (n, d) ∨ q ∈ ps := fun ps => by
      induction ps with
      | nil => intro h; cases h
      | cons p r ih =>
        intro h
        rcases List.mem_cons.mp h with h | h
        · by_cases hp : p.1 = n
          · rw [if_pos hp] at h; rw [← hp]; exact .inl h
          · rw [if_neg hp] at h; rw [h]; exact .inr List.mem_cons_self
        · exact (ih h).imp id fun h => List.mem_cons_of_mem _ h
    exact e ps h
  · rw [if_neg z] at h
    rcases List.mem_append.mp h with h | h
    · exact .inr h
    · rw [List.mem_singleton] at h; exact .inl h
theorem getA_mem {ps : List (Nat × α)} {n : Nat} {d : α} (h : getA ps n = some d) : (n, d) ∈ ps := by
  induction ps with
  | nil => cases h
  | cons p r ih =>
    unfold getA at h
    by_cases hp : p.1 = n
    · rw [if_pos hp] at h; cases h; rw [← hp]; exact List.mem_cons_self
    · rw [if_neg hp] at h; exact List.mem_cons_of_mem _ (ih h)
end
inductive DkIm (H : Hp) : List (Key × V) → List (Nat × PyData) → Prop
  | nil : DkIm H [] []
  | cons {n : Nat} {v : V} {d : PyData} {kvs : List (Key × V)} {ps : List (Nat × PyData)} : Im H v d → DkIm H kvs ps → DkIm H ((.inl (n : Int), v) :: kvs) ((n, d) :: ps)
section
variable {H H1 : Hp} {n : Nat} {v : V} {d : PyData}
theorem key_nat {m n : Nat} : ((Sum.inl (m : Int) : Key) = .inl (n : Int)) ↔ m = n := ⟨fun h => Int.ofNat.inj (Sum.inl.inj h), fun h => by rw [h]⟩
theorem DkIm.mv (e : Tx H H1) : ∀ {kvs : List (Key × V)} {ps : List (Nat × PyData)}, DkIm H kvs ps → DkIm H1 kvs ps
  | _, _, .nil => .nil
  | _, _, .cons h r => .cons (h.mv e) (DkIm.mv e r)
theorem DkIm.len : ∀ {kvs : List (Key × V)} {ps : List (Nat × PyData)}, DkIm H kvs ps → kvs.length = ps.length
  | _, _, .nil => rfl
  | _, _, .cons _ r => congrArg Nat.succ (DkIm.len r)
theorem DkIm.keys : ∀ {kvs : List (Key × V)} {ps : List (Nat × PyData)}, DkIm H kvs ps → kvs.map (·.1) = (ps.map fun p => (p.1 : Int)).map Sum.inl
  | _, _, .nil => rfl
  | _, _, .cons _ r => by rw [List.map_cons, List.map_cons, List.map_cons, DkIm.keys r]
theorem DkIm.some_ : ∀ {kvs : List (Key × V)} {ps : List (Nat × PyData)}, DkIm H kvs ps → getA ps n = some d → ∃ v, valV kvs (.inl (n : Int)) = some v ∧ Im H v d
  | _, _, .nil, h => by cases h
  | _, _, .cons (n := m) (v := v) im r, h => by
    unfold getA at h
    by_cases e : m = n
    · subst e
      rw [if_pos rfl] at h
      cases h
      exact ⟨v, valV_pos rfl, im⟩
    · rw [if_neg e] at h
      obtain ⟨w, h1, h2⟩ := DkIm.some_ r h
      exact ⟨w, by rw [valV_neg fun z => e (key_nat.mp z)]; exact h1, h2⟩
theorem DkIm.none_ : ∀ {kvs : List (Key × V)} {ps : List (Nat × PyData)}, DkIm H kvs ps → getA ps n = none → valV kvs (.inl (n : Int)) = none
  | _, _, .nil, _ => rfl
  | _, _, .cons (n := m) im r, h => by
    unfold getA at h
    by_cases e : m = n
    · rw [if_pos e] at h; cases h
    · rw [if_neg e] at h
      rw [valV_neg fun z => e (key_nat.mp z)]
      exact DkIm.none_ r h
theorem DkIm.has : ∀ {kvs : List (Key × V)} {ps : List (Nat × PyData)}, DkIm H kvs ps → (kvs.any fun kv => decide (kv.1 = .inl (n : Int))) = hasA ps n
  | _, _, .nil => rfl
  | _, _, .cons (n := m) im r => by
    rw [List.any_cons, DkIm.has r]
    show (_ || _) = (decide (m = n) || _)
    rw [show decide ((Sum.inl (m : Int) : Key) = .inl (n : Int)) = decide (m = n) from decide_eq_decide.mpr key_nat]
theorem DkIm.set (im : Im H v d) : ∀ {kvs : List (Key × V)} {ps : List (Nat × PyData)}, DkIm H kvs ps → DkIm H (kvs.map fun kv => if kv.1 = .inl (n : Int) then (kv.1, v) else kv) (setA ps n d)
  | _, _, .nil => .nil
  | _, _, .cons (n := m) (v := w) i r => by
    rw [List.map_cons]
    unfold setA
    by_cases e : m = n
    · rw [if_pos (key_nat.mpr e), if_pos e]; exact .cons im (DkIm.set im r)
    · rw [if_neg fun z => e (key_nat.mp z), if_neg e]; exact .cons i (DkIm.set im r)
theorem DkIm.snoc (im : Im H v d) : ∀ {kvs : List (Key × V)} {ps : List (Nat × PyData)}, DkIm H kvs ps → DkIm H (kvs ++ [(.inl (n : Int), v)]) (ps ++ [(n, d)])
  | _, _, .nil => .cons im .nil
  | _, _, .cons i r => .cons i (DkIm.snoc im r)
theorem DkIm.put {kvs : List (Key × V)} {ps : List (Nat × PyData)} (r : DkIm H kvs ps) (im : Im H v d) : DkIm H (putK kvs (.inl (n : Int)) v) (putA ps n d) := by
  unfold putK putA
  rw [r.has]
  by_cases e : hasA ps n = true
  · rw [if_pos e, if_pos e]; exact r.set im
  · rw [if_neg e, if_neg e]; exact r.snoc im
end
def vD (ps : List (Nat × PyData)) : VP := fun v H => ∃ p kvs, v = .ref p ∧ H p = some (.dK kvs) ∧ DkIm H kvs ps
theorem mD (ps : List (Nat × PyData)) : Mono (vD ps) := fun _ _ _ e h => by
  obtain ⟨p, kvs, r, h, i⟩ := h
  exact ⟨p, kvs, r, e _ _ h, i.mv (Tx.of e)⟩
section
variable {K : PySem.W.Frag} {σ : L2.St} {H : Hp} {te ta tb td ty tv : TE} {ps : List (Nat × PyData)} {n : Nat} {d : PyData} {D : Ends} {tz : TS} {P R : VP}
theorem e_dget (hd : EvP td σ H (vD ps)) (hy : EvP ty σ H (vI (dN n))) (h : getA ps n = some d) : EvP (tDGet td ty) σ H (vI d) := fun H1 e Q q => hd H1 e _ fun v H2 e2 p => hy H2 (e.trans e2) _ fun y H3 e3 py => by
  obtain ⟨a, kvs, rfl, hl, im⟩ := mD _ _ _ _ e3 p
  obtain ⟨w, h1, h2⟩ := im.some_ h
  cases Im.isInt py
  exact ⟨a, w, rfl, h1 ▸ DGet.k (k := Sum.inl (n : Int)) hl, q _ _ (e2.trans e3) h2⟩
theorem e_din (hy : EvP ty σ H (vI (dN n))) (hd : EvP td σ H (vD ps)) : EvP (tDIn ty td) σ H (vI (.bool (getA ps n).isSome)) := fun H1 e Q q => hy H1 e _ fun y H2 e2 py => hd H2 (e.trans e2) _ fun v H3 e3 p => by
  obtain ⟨a, kvs, rfl, hl, im⟩ := p
  cases Im.isInt py
  refine ⟨a, _, rfl, DGet.k (k := Sum.inl (n : Int)) hl, q _ _ (e2.trans e3) ?_⟩
  cases h : getA ps n with
  | none => rw [im.none_ h]; exact .bl false
  | some d =>
    obtain ⟨w, h1, h2⟩ := im.some_ h
    rw [h1]; exact .bl true
theorem e_dnotin (hy : EvP ty σ H (vI (dN n))) (hd : EvP td σ H (vD ps)) : EvP (tDNotIn ty td) σ H (vI (.bool (!(getA ps n).isSome))) := fun H1 e Q q => hy H1 e _ fun y H2 e2 py => hd H2 (e.trans e2) _ fun v H3 e3 p => by
  obtain ⟨a, kvs, rfl, hl, im⟩ := p
  cases Im.isInt py
  refine ⟨a, _, rfl, DGet.k (k := Sum.inl (n : Int)) hl, q _ _ (e2.trans e3) ?_⟩
  cases h : getA ps n with
  | none => rw [im.none_ h]; exact .bl true
  | some d =>
    obtain ⟨w, h1, h2⟩ := im.some_ h
    rw [h1]; exact .bl false
theorem e_dget2 (hd : EvP td σ H (vD ps)) (hy : EvP ty σ H (vI (dN n))) (hv : EvP tv σ H (vI d)) : EvP (tDGet2 td ty tv) σ H (vI ((getA ps n).getD d)) := fun H1 e Q q => hd H1 e _ fun v H2 e2 p => by
  obtain ⟨a, kvs, rfl, hl, im⟩ := p
  refine ⟨a, rfl, .inl ⟨kvs, .inl hl⟩, hy H2 (e.trans e2) _ fun y H3 e3 py => hv H3 ((e.trans e2).trans e3) _ fun z H4 e4 pz => ?_⟩
  cases Im.isInt py
  refine ⟨_, DGet.k (k := Sum.inl (n : Int)) ((e3.trans e4) _ _ hl), q _ _ ((e2.trans e3).trans e4) ?_⟩
  cases h : getA ps n with
  | none => rw [im.none_ h]; exact pz
  | some d =>
    obtain ⟨w, h1, h2⟩ := im.some_ h
    rw [h1]; exact h2.up (e3.trans e4)
/-- d[n] = e -/
theorem s_dput {p : Addr} {kvs : List (Key × V)} (hp : H p = some (.dK kvs)) (hd : Ev td σ H (.ref p)) (hy : EvP ty σ H (vI (dN n))) (hv : EvP tv σ H P) (m : Mono P) (hz : kvs.length < 100000) (k : ∀ v H1, Ex H H1 → P v H1 → D.nx σ (upd H1 p (.dK (putK kvs (.inl (n : Int)) v)))) : sDPut td ty tv D σ H :=
  hv H (Ex.refl H) _ fun v H1 e1 pv => hd H1 e1 _ fun H2 e2 => hy H2 (e1.trans e2) _ fun y H3 e3 py => by
    cases Im.isInt py
    exact ⟨p, _, rfl, DPut.k (k := Sum.inl (n : Int)) (((e1.trans e2).trans e3) _ _ hp) (sz_lt hz), k v H3 ((e1.trans e2).trans e3) (m _ _ _ (e2.trans e3) pv)⟩
theorem q_dput {p : Addr} {kvs : List (Key × V)} (hp : H p = some (.dK kvs)) (hd : Ev td σ H (.ref p)) (hy : EvP ty σ H (vI (dN n))) (hv : EvP tv σ H P) (m : Mono P) (hz : kvs.length < 100000) (k : ∀ v H1, Ex H H1 → P v H1 → tz D σ (upd H1 p (.dK (putK kvs (.inl (n : Int)) v)))) : tSeq (sDPut td ty tv) tz D σ H := s_dput (D := { D with nx := tz D }) hp hd hy hv m hz k
/-- {} -/
def vDF (H0 : Hp) (ps : List (Nat × PyData)) : VP := fun v H => ∃ p kvs, v = .ref p ∧ H0 p = none ∧ H p = some (.dK kvs) ∧ DkIm H kvs ps
theorem ep_dnew : EvP tDNewK σ H (vDF H []) := fun H1 e Q q p hp => q _ _ (Ex.new hp) ⟨p, [], rfl, fresh_back e hp, upd_same, .nil⟩
theorem q_newD {i : Nat} (h : EvP te σ H (vDF H ps)) (k : ∀ p kvs H1, Ex H H1 → H p = none → H1 p = some (.dK kvs) → DkIm H1 kvs ps → tz D (σ.set i (some (.ref p))) H1) : tSeq (tAsg te (gName i)) tz D σ H := h H (Ex.refl H) _ fun v H1 e p => by
  obtain ⟨q, xs, rfl, n, hq, im⟩ := p
  exact k q xs H1 e n hq im
/-- a pair of two things -/
def vP (P R : VP) : VP := fun v H => ∃ p a b, v = .ref p ∧ Tz H p [a, b] ∧ P a H ∧ R b H
theorem mP (mp : Mono P) (mr : Mono R) : Mono (vP P R) := fun _ _ _ e h => by
  obtain ⟨p, a, b, r, h, h1, h2⟩ := h
  exact ⟨p, a, b, r, h.up e, mp _ _ _ e h1, mr _ _ _ e h2⟩
theorem ep_pair (ha : EvP ta σ H P) (hb : EvP tb σ H R) (mp : Mono P) (mr : Mono R) : EvP (tTupZ (tCons ta (tCons tb tNil))) σ H (vP P R) := fun H1 e Q q => ha H1 e _ fun a H2 e2 pa => hb H2 (e.trans e2) _ fun b H3 e3 pb =>
  ⟨by show 2 ≤ sizeLine; decide, fun p o d hp => q _ _ ((e2.trans e3).trans (Ex.new hp)) ⟨p, a, b, rfl, Tz.new d, mp _ _ _ (e3.trans (Ex.new hp)) pa, mr _ _ _ (Ex.new hp) pb⟩⟩
theorem e_fst (h : EvP te σ H (vP P R)) : EvP (tOp (rIx K) te (tC (.int 0))) σ H P := fun H1 e Q q => h H1 e _ fun v H2 e2 p => by
  obtain ⟨a, x, y, rfl, hl, h1, h2⟩ := p
  exact .inr (.inl ⟨a, [x, y], 0, x, rfl, rfl, hl.sq, rfl, q _ _ e2 h1⟩)
theorem e_snd (h : EvP te σ H (vP P R)) : EvP (tOp (rIx K) te (tC (.int 1))) σ H R := fun H1 e Q q => h H1 e _ fun v H2 e2 p => by
  obtain ⟨a, x, y, rfl, hl, h1, h2⟩ := p
  exact .inr (.inl ⟨a, [x, y], 1, y, rfl, rfl, hl.sq, rfl, q _ _ e2 h2⟩)
/-- a, b = e -/
theorem s_unp {j j2 : Nat} (h : EvP te σ H (vP P R)) (k : ∀ a b H1, Ex H H1 → P a H1 → R b H1 → D.nx ((σ.set j (some a)).set j2 (some b)) H1) : tAsg te (gTup K 2 (gCons (gName j) (gCons (gName j2) gNil))) D σ H := h H (Ex.refl H) _ fun v H1 e p => by
  obtain ⟨q, a, b, rfl, hl, h1, h2⟩ := p
  exact ⟨q, [a, b], rfl, sqT_inj hl, rfl, a, [b], rfl, b, [], rfl, rfl, k a b H1 e h1 h2⟩
theorem q_unp {j j2 : Nat} (h : EvP te σ H (vP P R)) (k : ∀ a b H1, Ex H H1 → P a H1 → R b H1 → tz D ((σ.set j (some a)).set j2 (some b)) H1) : tSeq (tAsg te (gTup K 2 (gCons (gName j) (gCons (gName j2) gNil)))) tz D σ H := s_unp (D := { D with nx := tz D }) h k
theorem vP_I {d e : PyData} {v : V} (h : vI (.tuple [d, e]) v H) : vP (vI d) (vI e) v H := by
  obtain ⟨a, xs, rfl, hl, im⟩ := Im.isTup h
  obtain ⟨x, y, rfl, i1, i2⟩ := im.two
  exact ⟨a, x, y, rfl, hl, i1, i2⟩
/-- a, b = x, y -/
theorem s_par {j j2 : Nat} (ha : EvP ta σ H P) (hb : EvP tb σ H R) (mp : Mono P) (k : ∀ a b H1, Ex H H1 → P a H1 → R b H1 → D.nx ((σ.set j (some a)).set j2 (some b)) H1) : tPar j j2 (tCons ta (tCons tb tNil)) D σ H := ha H (Ex.refl H) _ fun a H1 e1 pa => hb H1 e1 _ fun b H2 e2 pb => ⟨a, b, rfl, k a b H2 (e1.trans e2) (mp _ _ _ e2 pa) pb⟩
theorem q_par {j j2 : Nat} (ha : EvP ta σ H P) (hb : EvP tb σ H R) (mp : Mono P) (k : ∀ a b H1, Ex H H1 → P a H1 → R b H1 → tz D ((σ.set j (some a)).set j2 (some b)) H1) : tSeq (tPar j j2 (tCons ta (tCons tb tNil))) tz D σ H := s_par (D := { D with nx := tz D }) ha hb mp k
theorem e_eqN {a b : Nat} (ha : EvP ta σ H (vI (dN a))) (hb : EvP tb σ H (vI (dN b))) : EvP (tOp rEq ta tb) σ H (vI (.bool (decide (a = b)))) := EvP.isB (e_eqI ha hb) (decide_eq_decide.mpr ⟨fun h => Int.ofNat.inj h, fun h => by rw [h]⟩)
theorem e_neN {a b : Nat} (ha : EvP ta σ H (vI (dN a))) (hb : EvP tb σ H (vI (dN b))) : EvP (tOp rNe ta tb) σ H (vI (.bool (!decide (a = b)))) := EvP.isB (e_neI ha hb) (congrArg (!·) (decide_eq_decide.mpr ⟨fun h => Int.ofNat.inj h, fun h => by rw [h]⟩))
end
theorem mDF {H0 : Hp} (ps : List (Nat × PyData)) : Mono (vDF H0 ps) := fun _ _ _ e h => by
  obtain ⟨p, kvs, r, n, h, i⟩ := h
  exact ⟨p, kvs, r, n, e _ _ h, i.mv (Tx.of e)⟩
theorem mF {H0 : Hp} (ds : List PyData) : Mono (vF H0 ds) := fun _ _ _ e h => by
  obtain ⟨p, kvs, r, n, h, i⟩ := h
  exact ⟨p, kvs, r, n, e _ _ h, i.up e⟩
section
variable {K : PySem.W.Frag} {σ : L2.St} {H : Hp} {α : Type} {enc : α → PyData} {xs : List α} {g : TG} {tu tz : TS} {D : Ends} {j : Nat}
/-- for over a list in a name, that stays -/
theorem s_forLv {p : Addr} {ws : List V} (hv : σ[j]? = some (some (.ref p))) (hp : H p = some (.lst ws)) (im : ImAll H ws (xs.map enc)) (Pv : List α → L2.St → Hp → Prop) (p0 : Pv [] σ H) (st : ∀ l σ' H', Pv l σ' H' → H' p = some (.lst ws))
    (step : ∀ l a r x σ' H', xs = l ++ a :: r → Tx H H' → Pv l σ' H' → Im H' x (enc a) → g x σ' H' fun σ2 H2 => tu { D with nx := fun σ H1 => Tx H H1 ∧ Pv (l ++ [a]) σ H1, ct := fun σ H1 => Tx H H1 ∧ Pv (l ++ [a]) σ H1, bk := D.nx } σ2 H2)
    (fin : ∀ σ' H', Tx H H' → Pv xs σ' H' → D.nx σ' H') : tFor (iSeq K (tVar j)) g tu D σ H := by
  have len : ws.length = xs.length := by rw [im.len, List.length_map]
  refine ⟨.ref p, hv, p, rfl, .inl ⟨⟨ws, sqL_inj hp⟩, fun i m σ' H' => m = xs.length - i ∧ i ≤ xs.length ∧ Tx H H' ∧ Pv (xs.take i) σ' H', ⟨_, rfl, Nat.zero_le _, Tx.refl _, p0⟩, ?_⟩⟩
  rintro i m σ' H' ⟨rfl, hi, tx, q⟩
  have hp' := st _ _ _ q
  by_cases lt : i < xs.length
  · have lt' : i < ws.length := by omega
    have tk : xs.take (i + 1) = xs.take i ++ [xs[i]] := by rw [List.take_add_one, List.getElem?_eq_getElem lt]; rfl
    refine .inr ⟨⟨ws, ws[i], sqL_inj hp', List.getElem?_eq_getElem lt'⟩, fun σ H1 => Tx H H1 ∧ Pv (xs.take i ++ [xs[i]]) σ H1, fun σ2 H3 n => ⟨_, Nat.lt_of_lt_of_le (Nat.sub_lt_sub_left lt (Nat.lt_succ_self i)) (Nat.le_refl _), rfl, lt, n.1, by rw [tk]; exact n.2⟩, fun x G hy => ?_⟩
    obtain ⟨rfl, fx⟩ := hy
    obtain ⟨d, hd, i1⟩ := im.get (fx ws (sqL_inj hp'))
    rw [List.getElem?_map, List.getElem?_eq_getElem lt] at hd
    cases hd
    exact step (xs.take i) xs[i] (xs.drop (i + 1)) x σ' _ (by rw [← List.drop_eq_getElem_cons lt, List.take_append_drop]) tx q (i1.mv tx)
  · have e : i = xs.length := by omega
    subst e
    rw [List.take_length] at q
    exact .inl ⟨⟨ws, sqL_inj hp', by omega⟩, fin σ' H' tx q⟩
theorem q_forLv {p : Addr} {ws : List V} (hv : σ[j]? = some (some (.ref p))) (hp : H p = some (.lst ws)) (im : ImAll H ws (xs.map enc)) (Pv : List α → L2.St → Hp → Prop) (p0 : Pv [] σ H) (st : ∀ l σ' H', Pv l σ' H' → H' p = some (.lst ws))
    (step : ∀ l a r x σ' H', xs = l ++ a :: r → Tx H H' → Pv l σ' H' → Im H' x (enc a) → g x σ' H' fun σ2 H2 => tu { D with nx := fun σ H1 => Tx H H1 ∧ Pv (l ++ [a]) σ H1, ct := fun σ H1 => Tx H H1 ∧ Pv (l ++ [a]) σ H1, bk := tz D } σ2 H2)
    (fin : ∀ σ' H', Tx H H' → Pv xs σ' H' → tz D σ' H') : tSeq (tFor (iSeq K (tVar j)) g tu) tz D σ H := s_forLv (D := { D with nx := tz D }) hv hp im Pv p0 st step fin
end
/-- a promise whose answer may be told by the heap ahead of the call -/
def spN {α : Type} (pre : α → Prop) (arg : α → AV) (res : α → Hp → VP) : Sp := fun vs H Q _ => ∃ x : α, pre x ∧ arg x vs H ∧ ∀ v H', Ex H H' → res x H v H' → Q v H'
theorem ep_callN {α : Type} {pre : α → Prop} {arg : α → AV} {res : α → Hp → VP} {σ : L2.St} {H : Hp} {E : XK} {ta : TA} (x : α) (hp : pre x) (h : EvAs ta σ H (arg x)) (an : ∀ H2 v H3, Ex H H2 → res x H2 v H3 → res x H v H3) : EvP (tCall (spN pre arg res) [] E ta) σ H (res x H) := fun H1 e Q q =>
  h H1 e _ fun vs H2 e2 a => by
    show spN pre arg res (vs ++ []) H2 Q E
    rw [List.append_nil]
    exact ⟨x, hp, a, fun v H3 e3 r => q v H3 (e2.trans e3) (an _ _ _ (e.trans e2) r)⟩
theorem vDF_an {H0 H2 H3 : Hp} {ps : List (Nat × PyData)} {v : V} (e : Ex H0 H2) (h : vDF H2 ps v H3) : vDF H0 ps v H3 := by
  obtain ⟨p, kvs, r, n, h, i⟩ := h
  exact ⟨p, kvs, r, fresh_back e n, h, i⟩
theorem vF_an {H0 H2 H3 : Hp} {ps : List PyData} {v : V} (e : Ex H0 H2) (h : vF H2 ps v H3) : vF H0 ps v H3 := by
  obtain ⟨p, kvs, r, n, h, i⟩ := h
  exact ⟨p, kvs, r, fresh_back e n, h, i⟩
theorem vDF_D {H0 H1 : Hp} {ps : List (Nat × PyData)} {v : V} (h : vDF H0 ps v H1) : vD ps v H1 := by
  obtain ⟨p, kvs, r, n, h, i⟩ := h
  exact ⟨p, kvs, r, h, i⟩
/-- data along a change of a dict -/
theorem mD_dic {p : Addr} {H H1 : Hp} {ys : List (Key × V)} {ps : List (Nat × PyData)} {v : V} (h : vD ps v H) (hp : H p = some (.dK ys)) (ne : v ≠ .ref p) (k : Kx p H H1) : vD ps v H1 := by
  obtain ⟨q, kvs, rfl, hq, i⟩ := h
  have n : q ≠ p := fun z => ne (by rw [z])
  exact ⟨q, kvs, rfl, k _ _ n hq, i.mv (k.tx (nt_dic hp))⟩
theorem mL_dic {p : Addr} {H H1 : Hp} {ys : List (Key × V)} {ds : List PyData} {v : V} (h : vL ds v H) (hp : H p = some (.dK ys)) (k : Kx p H H1) : vL ds v H1 := by
  obtain ⟨q, xs, rfl, hq, i⟩ := h
  have n : q ≠ p := fun z => by rw [z, hp] at hq; cases hq
  exact ⟨q, xs, rfl, k _ _ n hq, i.mv (k.tx (nt_dic hp))⟩
end Lk
end

section
set_option Elab.async false
set_option linter.all false
set_option maxRecDepth 100000
set_option maxHeartbeats 4000000
namespace Lk
open PySem PySem.Spec PyProof.Rows L2 Evl PySem.W C8
local macro_rules | `(tactic| walk_at "ex") => `(tactic| first | exact Ex.refl _ | assumption | (refine Ex.trans (H1 := ?g) ?a ?b; (case a => assumption); (case b => walk_at "ex")))
local macro_rules | `(tactic| walk_at "im") => `(tactic| first | assumption | exact Im.int _ | exact Im.bl _ | (refine Im.up (H := ?g) ?a ?b; (case a => assumption); (case b => walk_at "ex")))
local macro_rules | `(tactic| walk_at "ev") => `(tactic| first
  | exact ec_i | exact ec_b | exact ec_s | exact ec_n
  | (refine ei_var rfl ?_; walk_at "im")
  | (refine eo ?_ ?_ <;> walk_at "ev")
  | (refine eoB ?_ ?_ <;> walk_at "ev")
  | (refine e_eqI ?_ ?_ <;> walk_at "ev")
  | (refine e_neI ?_ ?_ <;> walk_at "ev")
  | (refine eu ?_ <;> walk_at "ev")
  | (refine e_not ?_ <;> walk_at "ev"))
/-! More of dicts: == {}, update, sorted; stars; sums of lists. -/
def insN (a : Nat) : List Nat → List Nat
  | [] => [a]
  | b :: r => if a ≤ b then a :: b :: r else b :: insN a r
def isort (l : List Nat) : List Nat := l.foldr insN []
theorem insN_perm (a : Nat) : ∀ l, (insN a l).Perm (a :: l)
  | [] => .refl _
  | b :: r => by
    unfold insN
    by_cases h : a ≤ b
    · rw [if_pos h]
    · rw [if_neg h]; exact ((insN_perm a r).cons b).trans (.swap a b r)
theorem isort_perm : ∀ l, (isort l).Perm l
  | [] => .refl _
  | a :: r => (insN_perm a _).trans ((isort_perm r).cons a)
theorem insN_sorted (a : Nat) : ∀ {l : List Nat}, l.Pairwise (· ≤ ·) → (insN a l).Pairwise (· ≤ ·)
  | [], _ => List.pairwise_singleton _ _
  | b :: r, h => by
    unfold insN
    by_cases z : a ≤ b
    · rw [if_pos z]
      refine .cons (fun c m => ?_) h
      rcases List.mem_cons.mp m with e | m
      · rw [e]; exact z
      · exact Nat.le_trans z (List.rel_of_pairwise_cons h m)
    · rw [if_neg z]
      refine .cons (fun c m => ?_) (insN_sorted a h.of_cons)
      rcases List.mem_cons.mp ((insN_perm a r).mem_iff.mp m) with e | m
      · rw [e]; exact Nat.le_of_lt (Nat.lt_of_not_le z)
      · exact List.rel_of_pairwise_cons h m
theorem isort_sorted : ∀ l, (isort l).Pairwise (· ≤ ·)
  | [] => .nil
  | a :: r => insN_sorted a (isort_sorted r)
theorem isort_uniq {l ys : List Nat} (p : ys.Perm l) (s : ys.Pairwise (· ≤ ·)) : ys = isort l :=
  List.Perm.eq_of_pairwise (le := (· ≤ ·)) (fun _ _ _ _ h1 h2 => Nat.le_antisymm h1 h2) s (isort_sorted l) (p.trans (isort_perm l).symm)
theorem sortD_isort (l : List Nat) : sortD (l.map dN) = (isort l).map dN := by
  have h : sortD (l.map dN) = (l.mergeSort (dataLe false dN)).map dN := sortD_map dN l
  rw [h]
  refine congrArg (List.map dN) (isort_uniq (List.mergeSort_perm _ _) ?_)
  have p1 := List.pairwise_mergeSort (le := dataLe false dN) (fun a b c h1 h2 => by
    rw [dle_nat, decide_eq_true_eq] at *
    omega) (fun a b => by
    rw [dle_nat, dle_nat, Bool.or_eq_true, decide_eq_true_eq, decide_eq_true_eq]
    omega) l
  exact p1.imp fun {a b} h => by
    rw [dle_nat, decide_eq_true_eq] at h
    exact h
/-- ints that are numbers -/
theorem nats_of : ∀ {is : List Int}, (∀ i ∈ is, 0 ≤ i) → is = (is.map Int.toNat).map fun n : Nat => (n : Int)
  | [], _ => rfl
  | i :: r, h => by
    rw [List.map_cons, List.map_cons, ← nats_of fun j m => h j (List.mem_cons_of_mem _ m)]
    rw [show ((i.toNat : Nat) : Int) = i from Int.toNat_of_nonneg (h i List.mem_cons_self)]
section
variable {X : Cx}
abbrev rEqE : R2 := fun x y H Q => ∃ a b ks, x = .ref a ∧ y = .ref b ∧ H a = some (.dK ks) ∧ H b = some (.dK []) ∧ Q (.bl ks.isEmpty) H
theorem op_eqE (hu : X.A.units < cLine) : OpR X (compareOp .Eq) rEqE := by
  intro pins s σ H x y v u Q I rx ry h
  obtain ⟨a, b, ks, rfl, rfl, ea, eb, q⟩ := h
  obtain rfl : v = Value.ref a := rx
  obtain rfl : u = Value.ref b := ry
  have oka : ObjOk X.prog X.w H s.heap a (.dK ks) := I.hok a _ ea
  have okb : ObjOk X.prog X.w H s.heap b (.dK []) := I.hok b _ eb
  obtain ⟨_, ya, va, ra, da⟩ := oka
  obtain ⟨_, yb, vb, rb, db⟩ := okb
  have hb : vb.length = 0 := rb.length.symm
  have ha : va.length = ks.length := ra.length.symm
  refine PySem.W.keq_eq (knd := mixKind X.prog X.w) (r := true) ya yb da db hu (fun e => ?_) (fin_bl I q ?_)
  · have : va = [] := List.eq_nil_of_length_eq_zero (e.trans hb)
    subst this
    exact .nil
  · rw [ha, hb]
    cases ks with
    | nil => rfl
    | cons k r => rfl
def tDUpd (td te : TE) : TE := fun σ H Q => td σ H fun x H1 => ∃ a kvs, x = .ref a ∧ H1 a = some (.dK kvs) ∧ te σ H1 fun y H2 => ∃ b kvs more, y = .ref b ∧ a ≠ b ∧ H2 a = some (.dK kvs) ∧ H2 b = some (.dK more) ∧ kvs.length + more.length ≤ sizeLine ∧ Q .non (upd H2 a (.dK (mergeK kvs more)))
theorem d_update {pins : List (Addr × Obj)} {σ : L2.St} {H : Hp} {s : Shared} {a b : Addr} {kvs more : List (Key × V)} {A : Around} {E : Value → Shared → Prop} {Q : Value → Shared → Prop} (I : Inv X pins σ H s) (e : H a = some (.dK kvs)) (eb : H b = some (.dK more)) (n : a ≠ b) (hz : kvs.length + more.length ≤ sizeLine)
    (h : ∀ s', Inv X pins σ (upd H a (.dK (mergeK kvs more))) s' → Q .none s') : wpAny (model X.prog X.w) A (call (.builtin "dict.update") [.ref a, .ref b]) Q E s := by
  obtain ⟨_, sma, vs, rel, dd⟩ := dk_of I.hok e
  obtain ⟨_, smb, vs2, rel2, dd2⟩ := dk_of I.hok eb
  refine call_meetsIn PySem.F.slot_dict_update dd.typeIs PySem.F.entry_dict_update (PySem.F.args_dict_update_2 _ _) (meets_dict_update (mixKind X.prog X.w) a b n smb) ⟨vs, vs2, dd, dd2, by rw [← rel.length, ← rel2.length]; exact hz, fun h' dd' _ hs => h _ ?_⟩
  have there : ∃ ob, h'.get? a = some ob := by obtain ⟨ob, _, _, at_, _⟩ := dd'; exact ⟨ob, at_⟩
  exact d_write (t' := s.toks) I (by rw [e]; exact True.intro) hs there (dk_new (Nat.le_trans (length_mergeK more kvs) hz) sma (KV.merge rel2 rel) dd')
theorem pe_dupd {o e : Expr} {apos cpos : Pos} {td te : TE} (ho : PE X o td) (he : PE X e te) (m : M1 X o "update" apos e cpos) : PE X (.Call (.Attribute o "update" apos) [e] [] cpos) (tDUpd td te) := by
  refine ⟨fun pins s σ H Q I h => ?_⟩
  refine wpAny_Call_method m.base m.few m.line PySem.F.plainAttrs_dict PySem.F.slot_dict_update PySem.F.type_dict_update (thn (ho.run pins s σ H _ I h) fun u s1 ⟨x, H1, I1, rx, a, kvs, ex, d, q1⟩ => ?_)
  subst ex
  obtain rfl : u = Value.ref a := rx
  obtain ⟨t1, t2, _⟩ := isD_at I1 (.inl ⟨kvs, .inl d⟩)
  refine ⟨t1, t2, ?_⟩
  rw [m.trees]
  refine Calls.callWith_builtin rfl (Calls.evalArgs_plain (Calls.spliced_cons (thn (he.run pins s1 σ H1 _ I1 q1) fun iv s2 ⟨y, H2, I2, ry, b, kvs, more, ey, n, ea, eb, z, q2⟩ => Calls.spliced_nil ?_)))
  subst ey
  obtain rfl : iv = Value.ref b := ry
  exact d_update I2 ea eb n z fun s3 I3 => ⟨.non, _, I3, rfl, q2⟩
end
abbrev rSortDI : List V → Hp → VK → Prop := fun xs H Q => ∃ (a : Addr) (kvs : List (Key × V)) (ks : List Int), xs = [.ref a] ∧ Rd H a (.dK kvs) ∧ kvs.map (·.1) = ks.map Sum.inl ∧ ks.length < 64 ∧
    ∀ (ys : List Int) (p : Addr), ys.Perm ks → ys.Pairwise (· ≤ ·) → H p = none → Q (.ref p) (upd H p (.lst (ys.map V.int)))
theorem cr_sortDI {X : Cx} (hc : X.calm = true) : CallR X (.builtin "sorted") rSortDI := call_sortedDI hc
section
variable {K : PySem.W.Frag} {σ : L2.St} {H : Hp} {te ta tb : TE} {ps : List (Nat × PyData)} {tas : TA} {ds es : List PyData} {D : Ends} {tz : TS} {P R S T5 T6 : VP}
theorem e_sortDI (h : EvP te σ H (vD ps)) (few : ps.length < 64) : EvP (tCB rSortDI (tCons te tNil)) σ H (vL ((isort (ps.map (·.1))).map dN)) := ep_cb1 h fun v H1 _ p Q q => by
  obtain ⟨a, kvs, rfl, hl, im⟩ := p
  refine ⟨a, kvs, ps.map fun p => (p.1 : Int), rfl, .inl hl, im.keys, by rw [List.length_map]; exact few, fun ys t pm st ht => q _ _ (Ex.new ht) ⟨t, _, rfl, upd_same, ?_⟩⟩
  have nn : ∀ i ∈ ys, 0 ≤ i := fun i m => by
    obtain ⟨p, _, rfl⟩ := List.mem_map.mp (pm.mem_iff.mp m)
    exact Int.natCast_nonneg _
  have e := nats_of nn
  have u : ys.map Int.toNat = isort (ps.map (·.1)) := by
    refine isort_uniq ?_ ?_
    · have q := pm.map Int.toNat
      rw [List.map_map] at q
      exact q.trans (.of_eq (List.map_congr_left fun p _ => by show Int.toNat (p.1 : Int) = p.1; rw [Int.toNat_natCast]))
    · rw [List.pairwise_map]
      exact st.imp fun {a b} h => Int.toNat_le_toNat h
  rw [u] at e
  rw [e, nats_ints]
  exact imInts _
theorem e_eqE (ha : EvP ta σ H (vD ps)) (hb : EvP tb σ H (vDF H [])) : EvP (tOp rEqE ta tb) σ H (vI (.bool ps.isEmpty)) := ep_op ha (mD _) hb fun x y H1 _ p1 p2 Q q => by
  obtain ⟨a, kvs, rfl, hl, im⟩ := p1
  obtain ⟨b, kvs2, rfl, _, hl2, im2⟩ := p2
  cases im2
  refine ⟨a, b, kvs, rfl, rfl, hl, hl2, ?_⟩
  have e : kvs.isEmpty = ps.isEmpty := by cases im <;> rfl
  rw [e]
  exact q _ _ (Ex.refl _) (.bl _)
theorem ea_star {tr : TA} (h : EvP te σ H (vS ds)) (hr : EvAs tr σ H (fun vs H => ImAll H vs es)) : EvAs (StX.tStar K te tr) σ H (fun vs H => ImAll H vs (ds ++ es)) := fun H1 e Q q =>
  h H1 e _ fun v H2 e2 p => by
    obtain ⟨l, xs, rfl, hl, im⟩ := p
    exact ⟨l, xs, rfl, hl.symm.imp Tz.sq SqL.of, hr H2 (e.trans e2) _ fun ys H3 e3 a => q _ H3 (e2.trans e3) ((im.up e3).app a)⟩
theorem e_cat (ha : EvP ta σ H (vL ds)) (hb : EvP tb σ H (vL es)) (hz : ds.length + es.length ≤ 100000) : EvP (tOp rCat ta tb) σ H (vL (ds ++ es)) := ep_op ha (mL _) hb fun x y H1 _ p1 p2 Q q => by
  obtain ⟨a, xs, rfl, hl, im⟩ := p1
  obtain ⟨b, ys, rfl, hl2, im2⟩ := p2
  exact ⟨a, b, xs, ys, rfl, rfl, hl, hl2, by rw [im.len, im2.len]; exact sz_of hz, fun p hp => q _ _ (Ex.new hp) ⟨p, _, rfl, upd_same, (im.app im2).mv (Tx.new hp)⟩⟩
def vT3 (P R S : VP) : VP := fun v H => ∃ p a b c, v = .ref p ∧ Tz H p [a, b, c] ∧ P a H ∧ R b H ∧ S c H
theorem mT3 (mp : Mono P) (mr : Mono R) (ms : Mono S) : Mono (vT3 P R S) := fun _ _ _ e h => by
  obtain ⟨p, a, b, c, r, h, h1, h2, h3⟩ := h
  exact ⟨p, a, b, c, r, h.up e, mp _ _ _ e h1, mr _ _ _ e h2, ms _ _ _ e h3⟩
theorem ep_t3 {tc : TE} (ha : EvP ta σ H P) (hb : EvP tb σ H R) (hc : EvP tc σ H S) (mp : Mono P) (mr : Mono R) (ms : Mono S) : EvP (tTupZ (tCons ta (tCons tb (tCons tc tNil)))) σ H (vT3 P R S) := fun H1 e Q q => ha H1 e _ fun a H2 e2 pa => hb H2 (e.trans e2) _ fun b H3 e3 pb => hc H3 ((e.trans e2).trans e3) _ fun c H4 e4 pc =>
  ⟨by show 3 ≤ sizeLine; decide, fun p o d hp => q _ _ (((e2.trans e3).trans e4).trans (Ex.new hp)) ⟨p, a, b, c, rfl, Tz.new d, mp _ _ _ ((e3.trans e4).trans (Ex.new hp)) pa, mr _ _ _ (e4.trans (Ex.new hp)) pb, ms _ _ _ (Ex.new hp) pc⟩⟩
theorem s_unp3 {i j l : Nat} (h : EvP te σ H (vT3 P R S)) (k : ∀ a b c H1, Ex H H1 → P a H1 → R b H1 → S c H1 → D.nx (((σ.set i (some a)).set j (some b)).set l (some c)) H1) : tAsg te (gTup K 3 (gCons (gName i) (gCons (gName j) (gCons (gName l) gNil)))) D σ H := h H (Ex.refl H) _ fun v H1 e p => by
  obtain ⟨q, a, b, c, rfl, hl, h1, h2, h3⟩ := p
  exact ⟨q, [a, b, c], rfl, sqT_inj hl, rfl, a, _, rfl, b, _, rfl, c, _, rfl, rfl, k a b c H1 e h1 h2 h3⟩
theorem q_unp3 {i j l : Nat} (h : EvP te σ H (vT3 P R S)) (k : ∀ a b c H1, Ex H H1 → P a H1 → R b H1 → S c H1 → tz D (((σ.set i (some a)).set j (some b)).set l (some c)) H1) : tSeq (tAsg te (gTup K 3 (gCons (gName i) (gCons (gName j) (gCons (gName l) gNil))))) tz D σ H := s_unp3 (D := { D with nx := tz D }) h k
def vT5 (P R S T U : VP) : VP := fun v H => ∃ p a b c d e, v = .ref p ∧ Tz H p [a, b, c, d, e] ∧ P a H ∧ R b H ∧ S c H ∧ T d H ∧ U e H
theorem ep_t5 {tc td te' : TE} (ha : EvP ta σ H P) (hb : EvP tb σ H R) (hc : EvP tc σ H S) (hd : EvP td σ H T5) (he : EvP te' σ H T6) (mp : Mono P) (mr : Mono R) (ms : Mono S) (mt : Mono T5) (mu : Mono T6) : EvP (tTupZ (tCons ta (tCons tb (tCons tc (tCons td (tCons te' tNil)))))) σ H (vT5 P R S T5 T6) := fun H1 e Q q => ha H1 e _ fun a H2 e2 pa => hb H2 (e.trans e2) _ fun b H3 e3 pb => hc H3 ((e.trans e2).trans e3) _ fun c H4 e4 pc => hd H4 (((e.trans e2).trans e3).trans e4) _ fun d H5 e5 pd => he H5 ((((e.trans e2).trans e3).trans e4).trans e5) _ fun f H6 e6 pf =>
  ⟨by show 5 ≤ sizeLine; decide, fun p o dz hp => q _ _ (((((e2.trans e3).trans e4).trans e5).trans e6).trans (Ex.new hp)) ⟨p, a, b, c, d, f, rfl, Tz.new dz, mp _ _ _ ((((e3.trans e4).trans e5).trans e6).trans (Ex.new hp)) pa, mr _ _ _ (((e4.trans e5).trans e6).trans (Ex.new hp)) pb, ms _ _ _ ((e5.trans e6).trans (Ex.new hp)) pc, mt _ _ _ (e6.trans (Ex.new hp)) pd, mu _ _ _ (Ex.new hp) pf⟩⟩
theorem q_unp5 {i j l m o : Nat} (h : EvP te σ H (vT5 P R S T5 T6)) (k : ∀ a b c d e H1, Ex H H1 → P a H1 → R b H1 → S c H1 → T5 d H1 → T6 e H1 → tz D (((((σ.set i (some a)).set j (some b)).set l (some c)).set m (some d)).set o (some e)) H1) : tSeq (tAsg te (gTup K 5 (gCons (gName i) (gCons (gName j) (gCons (gName l) (gCons (gName m) (gCons (gName o) gNil))))))) tz D σ H := h H (Ex.refl H) _ fun v H1 e p => by
  obtain ⟨q, a, b, c, d, f, rfl, hl, h1, h2, h3, h4, h5⟩ := p
  exact ⟨q, [a, b, c, d, f], rfl, sqT_inj hl, rfl, a, _, rfl, b, _, rfl, c, _, rfl, d, _, rfl, f, _, rfl, rfl, k a b c d f H1 e h1 h2 h3 h4 h5⟩
end
/-- d.update(e), in data -/
def mergeA {α : Type} (ps qs : List (Nat × α)) : List (Nat × α) := qs.foldl (fun acc p => putA acc p.1 p.2) ps
theorem mergeA_enc {α β : Type} {enc : α → β} : ∀ (qs ps : List (Nat × α)), mergeA (encA enc ps) (encA enc qs) = encA enc (mergeA ps qs)
  | [], _ => rfl
  | q :: r, ps => by
    show mergeA (putA (encA enc ps) q.1 (enc q.2)) (encA enc r) = encA enc (mergeA (putA ps q.1 q.2) r)
    rw [putA_enc, mergeA_enc r]
theorem mergeA_len {α : Type} : ∀ (qs ps : List (Nat × α)), (mergeA ps qs).length ≤ ps.length + qs.length
  | [], _ => Nat.le_refl _
  | q :: r, ps => by
    have h1 := mergeA_len r (putA ps q.1 q.2)
    have h2 := putA_len q.2 ps q.1
    show (mergeA (putA ps q.1 q.2) r).length ≤ _
    rw [List.length_cons]; omega
theorem DkIm.merge {H : Hp} : ∀ {more : List (Key × V)} {qs : List (Nat × PyData)} {kvs : List (Key × V)} {ps : List (Nat × PyData)}, DkIm H kvs ps → DkIm H more qs → DkIm H (mergeK kvs more) (mergeA ps qs)
  | _, _, _, _, r, .nil => r
  | _, _, kvs, ps, r, .cons (n := n) (v := v) (d := d) im q => by
    have h := DkIm.merge (DkIm.put (n := n) r im) q
    exact h
end Lk
end

section
set_option Elab.async false
set_option linter.all false
set_option maxRecDepth 100000
set_option maxHeartbeats 4000000
namespace Lk
open PySem PySem.Spec PyProof.Rows L2 Evl PySem.W C8
local macro_rules | `(tactic| walk_at "ex") => `(tactic| first | exact Ex.refl _ | assumption | (refine Ex.trans (H1 := ?g) ?a ?b; (case a => assumption); (case b => walk_at "ex")))
local macro_rules | `(tactic| walk_at "im") => `(tactic| first | assumption | exact Im.int _ | exact Im.bl _ | (refine Im.up (H := ?g) ?a ?b; (case a => assumption); (case b => walk_at "ex")))
local macro_rules | `(tactic| walk_at "ev") => `(tactic| first
  | exact ec_i | exact ec_b | exact ec_s | exact ec_n
  | (refine ei_var rfl ?_; walk_at "im")
  | (refine eo ?_ ?_ <;> walk_at "ev")
  | (refine eoB ?_ ?_ <;> walk_at "ev")
  | (refine e_eqI ?_ ?_ <;> walk_at "ev")
  | (refine e_neI ?_ ?_ <;> walk_at "ev")
  | (refine eu ?_ <;> walk_at "ev")
  | (refine e_not ?_ <;> walk_at "ev"))
/-! A def of a class that says super().__init__(..) first. -/
def cxS (P : Program) (w : World) (K : PySem.W.Frag) (mg : Str → Option Value) (base : Heap) (N : List Str) (qual : Str) (scope : Scope) (f cda cc : Addr) (A : Around) (outer : List Env) (s : Shared) (H : Hp) (E : XK) : Cx where
  prog := P
  w := w
  K := K
  mg := mg
  base := base
  A := A.deeper (PySem.W.ksEnv qual scope s.heap.objs.size f (.ref cda) cc)
  N := N
  s_0 := s
  H_0 := H
  env := PySem.W.ksEnv qual scope s.heap.objs.size f (.ref cda) cc
  outer := outer
  stack := PySem.W.ksEnv qual scope s.heap.objs.size f (.ref cda) cc :: outer
  ex := []
  calm := true
  fn := fun _ => false
  pn := []
  xe := fun e s' => wpAny (model P w) (A.deeper (PySem.W.ksEnv qual scope s.heap.objs.size f (.ref cda) cc)) (leaving (PySem.W.ksEnv qual scope s.heap.objs.size f (.ref cda) cc) e) (fun _ s'' => L2.CX0 outer H s E e s'') (fun e' s'' => L2.CX0 outer H s E e' s'') s'
/-- its scope: three parameters, super, __class__ -/
structure SupScope (N : List Str) (sc : Scope) : Prop where
  kind : sc.kind = .function
  co : sc.isCoroutine = false
  gen : sc.isGenerator = false
  loc : ∀ x ∈ N, sc.names.lookup x = some .local
  nocell : ∀ y ∈ sc.names, y.2 ≠ .cell
  free : ∀ y ∈ sc.names, y.2 = .free → y.1 = "__class__"
  look : ∀ us : List Value, us.length = N.length → ∀ (i : Nat) (y : Str) (u : Value), N[i]? = some y → us[i]? = some u → (N.zip us).reverse.lookup y = some u
theorem inv_startS {P : Program} {w : World} {K : PySem.W.Frag} {mg : Str → Option Value} {base : Heap} {N : List Str} {qual : Str} {scope : Scope} {f cda cc : Addr} {A : Around} {outer : List Env} {s : Shared} {H : Hp} {E : XK} {us : List Value} {vs : List V} {h0 : Heap} {tk : Nat} {cl : Value} {cld : Option Addr} {csl : Array (Option Value)} {v0 : Value}
    (S : SupScope N scope) (hd : A.handled = none) (e0 : Env0 P w K mg base A outer s H) (hl : vs.length = N.length) (r : Vals vs us) (hc : K.lookup cc = some ⟨cl, cld, .cell (some v0), csl⟩)
    (ns : h0.Ns s.heap.objs.size fun x => (N.zip us).reverse.lookup x) (hk : ∀ b o, s.heap.get? b = some o → h0.get? b = some o) :
    Inv (cxS P w K mg base N qual scope f cda cc A outer s H E) [] (vs.map some) H { s with heap := h0, toks := tk } := by
  have noA : ∀ b : Addr, b ∉ (cxS P w K mg base N qual scope f cda cc A outer s H E).ex := fun b z => absurd (show b ∈ ([] : List Addr) from z) (by simp)
  have one : ∀ x c, ([(("__class__" : Str), cc)] : List (Str × Addr)).lookup x = some c → x = "__class__" ∧ c = cc := fun x c h => by
    rw [List.lookup_cons] at h
    by_cases e : (x == ("__class__" : Str)) = true
    · rw [e] at h; cases h; exact ⟨beq_iff_eq.mp e, rfl⟩
    · rw [Bool.not_eq_true] at e; rw [e] at h; cases h
  have bcc : base.get? cc = some ⟨cl, cld, .cell (some v0), csl⟩ := e0.mod.kin _ _ hc
  obtain ⟨sc1, sc2⟩ := e0.bs _ _ bcc
  have hul : us.length = N.length := by rw [← r.length]; exact hl
  refine ⟨⟨e0.mod, S.kind, rfl, rfl, Nat.le_refl _, fun y z c h1 h2 => ?_, fun y hy => ?_, fun y c z _ => absurd z (by exact Bool.false_ne_true), fun _ => hd, Around.frames_deeper e0.frames, .inr ⟨rfl, rfl⟩, fun b z => absurd z (noA b), e0.bs, e0.bsz, fun b _ _ => noA b, fun b z => absurd z (noA b), e0.funs, e0.frf⟩,
    rfl, e0.bare, Un.kept hk, ⟨_, ns, fun i y v h1 h2 h3 => ?_⟩, fun y c h => ?_, e0.hok.fresh (Nat.le_refl _), fun y c h => ?_, fun p hp => absurd (show p ∈ ([] : List (Addr × Obj)) from hp) (by simp), e0.hok.kept hk, ?_⟩
  · rw [(one y c h1).1, (one z c h2).1]
  · have hy : scope.names.lookup y = some .cell ∨ scope.names.lookup y = some .free := hy
    rcases hy with hy | hy
    · exact absurd rfl (S.nocell _ (PySem.mem_of_lookup hy))
    · have e := S.free _ (PySem.mem_of_lookup hy) rfl
      exact ⟨cc, by show List.lookup y _ = _; rw [show y = ("__class__" : Str) from e]; rfl⟩
  · rw [List.getElem?_map] at h2
    obtain ⟨v', hv, e⟩ := Option.map_eq_some_iff.mp h2
    cases e
    obtain ⟨u, hu, rv⟩ := r.get hv
    exact ⟨u, rv, .inl ⟨S.loc y (List.mem_of_getElem? h1), S.look us hul i y u h1 hu⟩⟩
  · rw [(one y c h).2]
    exact ⟨some v0, _, hk _ _ sc1, rfl⟩
  · rw [(one y c h).2]; exact sc2
  · rw [List.length_map]; exact hl
open PySem.W in
theorem callWith_Mx {M : Model} {A : Around} {E : Value → Shared → Prop} {s : Shared} {K : Frag} {env : Env} {pos : Pos} {first : List Value} {Q : Value → Shared → Prop} {q g : Addr} {self : Value} {e : Expr} {rest : List Expr} (hf : fnIn K g = true) (h : wpAny M A (spliced (backTo pos (starEach (e :: rest) env))) (fun vs s1 => MethP K q g self s1.heap ∧ wpAny M A (call (.ref q) (first ++ vs)) Q E s1) E s)
    (he : starEach (e :: rest) env = (false, eval e env) :: starEach rest env) (hplain : (backTo pos (starEach rest env)).any (·.1) = false) : wpAny M A (callWith pos (.ref q) first (backTo pos (starEach (e :: rest) env)) []) Q E s := by
  rw [he] at h ⊢
  exact callWith_of (by show ((false || (backTo pos (starEach rest env)).any (·.1)) || false) = false; rw [hplain]; rfl) (keeps_M hf) (Calls.evalArgs_plain h)
open PySem.W in
theorem fn_super {P : Program} {w : World} {K : PySem.W.Frag} {mg : Str → Option Value} {base : Heap} {k kp : Nat} {C f f2 : Addr} {qual : Str} {st : Stmt} {N : List Str} {sp spB : Sp} {p0 p1 apos pos epos : Pos} {e : Expr} {es : List Expr} {rest : List Stmt} {pl : Sem Bool} {ar : Arg}
    (D : SupD K P C f f2 qual st) (S : SupScope N (defScope st)) (hmg : mg "super" = none)
    (hbd : defBody st = .Expr (.Call (.Attribute (.Call (.Name "super" p0) [] [] p1) "__init__" apos) (e :: es) [] pos) epos :: rest)
    (hb : ∀ (kV doc pm cdv : Value) (an : Option Addr) (ct : Value) (cc : Addr) (us : List Value), us.length = N.length → bindArgs (ksFn "__init__" qual (defArgs st) (defBody st) (defScope st) .none kV doc pm an cdv ct cc) ⟨us, []⟩ = pure (N.zip us))
    (har : ((defArgs st).posonlyargs ++ (defArgs st).args).head? = some ar) (h0 : N[0]? = some ar.arg) (hsup : (defScope st).names.lookup ("super" : Str) = some .globalImplicit) (hcls : (defScope st).names.lookup ("__class__" : Str) = some .free)
    (hm : ∀ env : Env, eval (.Call (.Attribute (.Call (.Name "super" p0) [] [] p1) "__init__" apos) (e :: es) [] pos) env = (do
      let ov ← attributeBase (.Call (.Name "super" p0) [] [] p1) "__init__" env (eval (.Call (.Name "super" p0) [] [] p1) env)
      standAt apos.atName
      let (f, first) ← holding [ov] (getMethod ov "__init__" pl)
      callWith pos f first (backTo pos (starEach (e :: es) env)) []))
    (hst : ∀ env : Env, starEach (e :: es) env = (false, eval e env) :: starEach es env) (hpn : ∀ env : Env, (backTo pos (starEach es env)).any (·.1) = false)
    (hin : ∀ env : Env, env.scope = defScope st → interactive env = false) (hsw : ∀ env : Env, swapsWith (.Call (.Attribute (.Call (.Name "super" p0) [] [] p1) "__init__" apos) (e :: es) [] pos) none epos.line env = pure false)
    (FP : FnR P w K mg base L2.CX0 kp f2 spB)
    (hbody : ∀ (X : Cx) (H : Hp) (vs : List V) (Q : VK) (E : XK), X.K = K → X.prog = P → X.w = w → X.mg = mg → X.base = base → X.calm = true → X.N = N → X.env.scope = defScope st → Room k X.A → sp vs H Q E → kp ≤ k ∧ vs.length = N.length ∧ ∃ (x dx : Addr) (ws : List V) (fs : List (Str × V)) (ta : TA) (t : TS), vs = .ref x :: ws ∧ H x = some (.ins C dx fs) ∧ PA X (e :: es) ta ∧ PSs X rest t ∧
      ta (vs.map some) H fun us H1 => spB (.ref x :: us) H1 (fun _ H2 => t { nx := fun _ H' => Q .non H', rt := Q } (vs.map some) H2) E) :
    FnR P w K mg base L2.CX0 (k + 1) f sp := by
  intro A outer s H us vs Q E hr e0 r hsp
  obtain ⟨oc, od, kV, doc, pm, an, cda, ct, cc, osl, ws, file, tf, ccl, cdd, ccs, cl, cld, csl, lf, hcode, lcda, hvs, hfile, lcc⟩ := D.ex
  obtain ⟨cd, hcd⟩ := D.cls
  have KX : K.In s.heap := e0.mod.kin.keeps fun b o e => (e0.bs b o e).1
  have lim : s.heap.NoLimit := e0.mod.nolimit.keeps fun b o e => (e0.bs b o e).1
  obtain ⟨kk, vl, x, dx, wv, fs, ta, t, ev, hx, hpa, hps, hta⟩ := hbody (cxS P w K mg base N qual (defScope st) f cda cc A outer s H E) H vs Q E rfl rfl rfl rfl rfl rfl rfl rfl (hr.deeper _) hsp
  have ul : us.length = N.length := by rw [← r.length]; exact vl
  refine ks_codeAny_call_defAt (fd := ksFn "__init__" qual (defArgs st) (defBody st) (defScope st) .none kV doc pm an (.ref cda) ct cc) (body := defBody st) (binds := N.zip us) hr.depth (KX _ _ lf) rfl lim (codeRec_of KX hcode) rfl (BindsTo.of_eq (hb _ _ _ _ _ _ _ us ul)) S.nocell (fun y hy => S.loc _ (List.of_mem_zip hy).1) (fun h1 ns hk => ?_) S.co S.gen S.kind
  have I : Inv (cxS P w K mg base N qual (defScope st) f cda cc A outer s H E) [] (vs.map some) H { s with heap := h1, toks := s.toks + (N.zip us).length } := inv_startS S hr.hd e0 vl r lcc ns hk
  have ex : execs (defBody st) (ksEnv qual (defScope st) s.heap.objs.size f (.ref cda) cc) = execs (.Expr (.Call (.Attribute (.Call (.Name "super" p0) [] [] p1) "__init__" apos) (e :: es) [] pos) epos :: rest) (ksEnv qual (defScope st) s.heap.objs.size f (.ref cda) cc) := by rw [hbd]
  show _root_.PySem.wpAt (model P w) (A.deeper (ksEnv qual (defScope st) s.heap.objs.size f (.ref cda) cc)) (.func (defBody st) (ksEnv qual (defScope st) s.heap.objs.size f (.ref cda) cc)) (execs (defBody st) (ksEnv qual (defScope st) s.heap.objs.size f (.ref cda) cc)) _ _ _
  rw [ex]
  have XI := I.kIn
  obtain ⟨mb, hb1, hb2⟩ := e0.mod.blt
  have keep0 : ∀ b o, base.get? b = some o → h1.get? b = some o := fun b o q => hk _ _ (e0.bs b o q).1
  have g0 : N[0]? = some ar.arg := h0
  obtain ⟨v0, hv0⟩ : ∃ v0, us = v0 :: us.tail ∧ v0 = .ref x := by
    rw [ev] at r
    cases r with
    | cons a b => exact ⟨_, rfl, a⟩
  have hself : (N.zip us).reverse.lookup ar.arg = some (.ref x) := S.look us ul 0 ar.arg (.ref x) g0 (by rw [hv0.1, hv0.2]; rfl)
  obtain ⟨ox, odx, hIx, hpl⟩ := StX.insC_at I (.inr ⟨dx, fs, hx⟩ : StX.InsC (cxS P w K mg base N qual (defScope st) f cda cc A outer s H E) H x C)
  obtain ⟨oD, hD1, hD2⟩ : ∃ oD, h1.get? C = some oD ∧ oD.data = .cls cd := by
    unfold clsIn at hcd
    split at hcd
    · rename_i c d cd' sl ho
      cases hcd
      exact ⟨_, XI _ _ ho, rfl⟩
    · cases hcd
  refine ks_wpAt_execs_cons (ks_wpAt_Expr_any (ks_wpAt_MethodCall (pl := pl) ?_ (hm _)) (hin _ rfl) (hsw _))
  refine ks_wpAt_super_base (env := ksEnv qual (defScope st) s.heap.objs.size f (.ref cda) cc) hsup hcls (by decide) rfl (XI _ _ lf) rfl har rfl (XI _ _ lcda) rfl hvs hfile D.top ?_
  refine ks_loadName_global S.kind hsup (Calls.loadGlobal_builtin (env := ksEnv qual (defScope st) s.heap.objs.size f (.ref cda) cc) (e0.mod.glob.keeps keep0) hmg (hb1.keeps keep0) ((hb2 _ (by decide)).trans (by decide +kernel : bootBuiltins "super" = some (.type "super"))) ⟨rfl, ?_⟩)
  refine wpAny_loadName_free S.kind hcls rfl ⟨_, XI _ _ lcc, rfl⟩ ?_
  refine wpAny_loadName_local S.kind (S.loc _ (List.mem_of_getElem? g0)) ns hself ?_
  refine ks_wpAny_isType_cls hD1 hD2 ⟨rfl, ?_⟩
  refine ks_wpAny_call_super hD1 hD2 hIx.at_ hIx.cls (fun c q => by rw [hpl] at q; cases q) (looks_mroIn XI D.sub) (fun h2 so k2 => ?_)
  have I2 := I.kept (t' := s.toks + (N.zip us).length) k2
  have X2 := I2.kIn
  have hal : alongIn K "__init__" ((cd.mro.dropWhile (· != .ref C)).drop 1) = some (some (.ref f2)) := by
    have z := D.sup
    unfold ks_superIn at z
    rw [hcd] at z
    exact z
  obtain ⟨of, hof, hofc⟩ : ∃ of, h2.get? f2 = some of ∧ of.cls = .type "function" := by
    have ht' : (K.lookup f2).map (·.cls) = some (.type "function") := D.ty
    cases z : K.lookup f2 with
    | none => rw [z] at ht'; cases ht'
    | some of => rw [z] at ht'; exact ⟨of, X2 _ _ z, Option.some.inj ht'⟩
  refine ks_wpAny_getMethod_super so (looks_opaque X2 D.nt) (l₀ := cd.mro) (fun A Q E s k q => wpAny_bind ((looks_clsIn X2 hcd) A _ E s k (wpAny_pure q))) rfl X2 hal hof hofc (ks_ne XI hIx hcd) (by decide) ?_
  have hq : (h2.push (methodObj (.ref f2) (.ref x))).get? h2.objs.size = some (methodObj (.ref f2) (.ref x)) := Heap.get?_push_at rfl rfl
  have I3 := I2.kept (h' := h2.push (methodObj (.ref f2) (.ref x))) (t' := s.toks + (N.zip us).length + 1) (fun b o q => Heap.get?_push_of_some _ q)
  have fp : ∀ b ∈ [h2.objs.size], FpOk (cxS P w K mg base N qual (defScope st) f cda cc A outer s H E) [] H b := fun b m => by
    rw [List.mem_singleton] at m
    rw [m]
    exact I2.fpOk (Nat.le_refl _) (I2.hok.fresh (Nat.le_refl _))
  have I4 := I3.pinned fp fun b m => by
    rw [List.mem_singleton] at m
    rw [m]
    exact ⟨_, hq, fun v z => by cases z⟩
  have mem : (h2.objs.size, methodObj (.ref f2) (.ref x)) ∈ (cxS P w K mg base N qual (defScope st) f cda cc A outer s H E).pn ++ ([] ++ pinsAt [h2.objs.size] (h2.push (methodObj (.ref f2) (.ref x)))) := List.mem_append_right _ (List.mem_append_right _ (mem_pinsAt (List.mem_singleton.mpr rfl) hq))
  show wpAny _ _ (callWith pos (.ref h2.objs.size) [] (backTo pos (starEach (e :: es) (ksEnv qual (defScope st) s.heap.objs.size f (.ref cda) cc))) []) _ _ _
  refine callWith_Mx (self := .ref x) D.fn ?_ (hst _) (hpn _)
  refine thn (hpa.run pos _ _ _ H _ I4 hta) fun us' s3 ⟨ws3, H3, I5, r3, q3⟩ => ⟨⟨(I5.pin _ mem).1, I5.kIn⟩, ?_⟩
  show wpAny _ _ (call (.ref h2.objs.size) us') _ _ _
  refine wpAny_call (method_call (I5.pin _ mem).1 (codeAny_mono (FP _ _ _ H3 (.ref x :: us') (.ref x :: ws3) _ E ((hr.deeper _).mono kk) I5.env0 (.cons (show RelV (.ref x) (.ref x) from rfl) r3) q3) fun r4 s4 hq4 => ?_))
  cases r4 with
  | error e => exact False.elim hq4
  | ok fl =>
    cases fl with
    | next => exact False.elim hq4
    | brk => exact False.elim hq4
    | cont => exact False.elim hq4
    | ret u =>
      obtain ⟨v, H', I6, rv, q6⟩ := I5.after hq4
      refine wpAt_of_wpAny (wpAny_mono (hps.run _ s4 _ H' _ I6 q6) (fun fl s5 hs => ?_) fun e s' z => z)
      have fin : ∀ {σ' : L2.St} {H' : Hp} {v : V} {u : Value} {pins : List (Addr × Obj)}, Inv (cxS P w K mg base N qual (defScope st) f cda cc A outer s H E) pins σ' H' s5 → RelV v u → Q v H' → CE outer P w H s Q u s5 :=
        fun {σ' H' v u pins} J rv q => ⟨v, H', J.os, J.bare, J.base, J.hok, rv, q⟩
      cases fl with
      | ret u => 
        obtain ⟨v, σ', H', J, rv, q⟩ := hs
        exact fin J rv q
      | next =>
        obtain ⟨σ', H', J, q⟩ := hs
        exact fin (v := V.non) (u := Value.none) J rfl q
      | brk =>
        obtain ⟨_, _, _, q⟩ := hs
        exact False.elim q
      | cont =>
        obtain ⟨_, _, _, q⟩ := hs
        exact False.elim q
end Lk
end

section
set_option Elab.async false
set_option linter.all false
set_option maxRecDepth 100000
set_option maxHeartbeats 4000000
namespace Lk
open PySem PySem.Spec PyProof.Rows L2 Evl PySem.W C8
local macro_rules | `(tactic| walk_at "ex") => `(tactic| first | exact Ex.refl _ | assumption | (refine Ex.trans (H1 := ?g) ?a ?b; (case a => assumption); (case b => walk_at "ex")))
local macro_rules | `(tactic| walk_at "im") => `(tactic| first | assumption | exact Im.int _ | exact Im.bl _ | (refine Im.up (H := ?g) ?a ?b; (case a => assumption); (case b => walk_at "ex")))
local macro_rules | `(tactic| walk_at "ev") => `(tactic| first
  | exact ec_i | exact ec_b | exact ec_s | exact ec_n
  | (refine ei_var rfl ?_; walk_at "im")
  | (refine eo ?_ ?_ <;> walk_at "ev")
  | (refine eoB ?_ ?_ <;> walk_at "ev")
  | (refine e_eqI ?_ ?_ <;> walk_at "ev")
  | (refine e_neI ?_ ?_ <;> walk_at "ev")
  | (refine eu ?_ <;> walk_at "ev")
  | (refine e_not ?_ <;> walk_at "ev"))
section
variable {P : Program} {w : World} {K : PySem.W.Frag} {mg : Str → Option Value} {base : Heap} {c : Cs}
/-! ### is_integer -/
abbrev sp_is_integer : Sp := spF (fun i : Int => a1 (vI (.int i))) fun _ => vI (.bool true)
theorem c_is_integer (T : Txt K mg c) : Cal P w K mg base 1 "is_integer" sp_is_integer [] := by
  refine mkCal T.d_is_integer sc_is_integer (fun _ _ _ _ _ _ us hl => match us, hl with | [_], _ => rfl) (fun vs H Q E h => ?_) (fun f cdv A outer s H vs Q E hr h => ?_)
  · obtain ⟨i, a, _⟩ := h
    obtain ⟨v, rfl, _⟩ := a1o a
    rfl
  · obtain ⟨i, a, k⟩ := h
    obtain ⟨v, rfl, p⟩ := a1o a
    refine ⟨_, pss_one (ps_ret (pe_and (pe_callB (id := "isinstance") (cr_isiK K) (by rfl) T.b_isinstance (by decide +kernel) (pa_cons (pv 0) (pa_cons (pe_ty (n := "int") (by rfl) T.b_int (by decide +kernel)) (pa_nil)))) (pe_one (pe_not (pe_callB (id := "isinstance") (cr_isiK K) (by rfl) T.b_isinstance (by decide +kernel) (pa_cons (pv 0) (pa_cons (pe_ty (n := "bool") (by rfl) T.b_bool (by decide +kernel)) (pa_nil)))))))), ?_⟩
    refine s_retP (P := vI (.bool true)) (e_and (e_isi (c := true) (P := vI (.int i)) (by walk_at "ev") (mI _) fun v H1 p => ⟨_, ty_int p, k_int_int⟩) fun _ => e_not (a := false) (e_isi (P := vI (.int i)) (by walk_at "ev") (mI _) fun v H1 p => ⟨_, ty_int p, k_int_bool⟩)) fun v H1 e p => k v H1 e p
/-! ### is_within -/
def optD : Option Int → PyData
  | none => .none
  | some i => .int i
def within (i lo : Int) (hi : Option Int) : Bool := decide (lo ≤ i) && hi.all fun m => decide (i ≤ m)
abbrev sp_is_within : Sp := spF (fun x : Int × Int × Option Int => a3 (vI (.int x.1)) (vI (.int x.2.1)) (vI (optD x.2.2))) fun x => vI (.bool (within x.1 x.2.1 x.2.2))
theorem c_is_within (T : Txt K mg c) : Cal P w K mg base 2 "is_within" sp_is_within [] := by
  have c_is_integer := c_is_integer (P := P) (w := w) (base := base) T
  refine mkCal T.d_is_within sc_is_within (fun _ _ _ _ _ _ us hl => match us, hl with | [_, _, _], _ => rfl) (fun vs H Q E h => ?_) (fun f cdv A outer s H vs Q E hr h => ?_)
  · obtain ⟨i, a, _⟩ := h
    obtain ⟨v, v2, v3, rfl, _⟩ := a3o a
    rfl
  · obtain ⟨⟨i, lo, hi⟩, a, k⟩ := h
    obtain ⟨v, v2, v3, rfl, p1, p2, p3⟩ := a3o a
    refine ⟨_, pss_cons (ps_if (pt_not (pt_val (pe_c c_is_integer hr (by decide) (by rfl) (pa_cons (pv 0) (pa_nil))))) (pss_one (ps_ret (pe_bl))) (pss_nil))
    (pss_one (ps_ret (pe_and (pe_or (pe_cmpR op_isN (pv 1) (pe_non) (nomark _)) (pe_one (pe_cmpR op_le (pv 1) (pv 0) (nomark _)))) (pe_one (pe_or (pe_cmpR op_isN (pv 2) (pe_non) (nomark _)) (pe_one (pe_cmpR op_le (pv 0) (pv 2) (nomark _)))))))), ?_⟩
    refine q_if (et_not (a := true) (et_v (ep_callF i (ea_1 (mI _) (by walk_at "ev"))))) fun H1 e1 => ?_
    refine s_retP (P := vI (.bool (within i lo hi))) (e_and (a := decide (lo ≤ i)) (EvP.isB (e_or (a := false) (e_isN (P := vI (.int lo)) (by walk_at "ev") (mI _) fun v H1 p => non_int p) fun _ => by walk_at "ev") (Bool.false_or _)) fun _ => ?_) fun v H2 e p => k v H2 (e1.trans e) p
    cases hi with
    | none => exact e_or (a := true) (b := false) (e_isN (P := vI .none) (ei_var rfl (p3.up e1)) (mI _) fun v H1 p => non_non p) fun z => nomatch z
    | some m => exact EvP.isB (e_or (a := false) (e_isN (P := vI (.int m)) (ei_var rfl (p3.up e1)) (mI _) fun v H1 p => non_int p) fun _ => eoB (by walk_at "ev") (ei_var rfl (p3.up e1))) (by rw [Bool.false_or]; rfl)
end
end Lk
end

section
set_option Elab.async false
set_option linter.all false
set_option maxRecDepth 100000
set_option maxHeartbeats 4000000
namespace Lk
open PySem PySem.Spec PyProof.Rows L2 Evl PySem.W C8
local macro_rules | `(tactic| walk_at "ex") => `(tactic| first | exact Ex.refl _ | assumption | (refine Ex.trans (H1 := ?g) ?a ?b; (case a => assumption); (case b => walk_at "ex")))
local macro_rules | `(tactic| walk_at "im") => `(tactic| first | assumption | exact Im.int _ | exact Im.bl _ | (refine Im.up (H := ?g) ?a ?b; (case a => assumption); (case b => walk_at "ex")))
local macro_rules | `(tactic| walk_at "ev") => `(tactic| first
  | exact ec_i | exact ec_b | exact ec_s | exact ec_n
  | (refine ei_var rfl ?_; walk_at "im")
  | (refine eo ?_ ?_ <;> walk_at "ev")
  | (refine eoB ?_ ?_ <;> walk_at "ev")
  | (refine e_eqI ?_ ?_ <;> walk_at "ev")
  | (refine e_neI ?_ ?_ <;> walk_at "ev")
  | (refine eu ?_ <;> walk_at "ev")
  | (refine e_not ?_ <;> walk_at "ev"))

section
variable {P : Program} {w : World} {K : PySem.W.Frag} {mg : Str → Option Value} {base : Heap} {c : Cs}
/-! ### is_bit -/
abbrev sp_is_bit : Sp := spF (fun i : Int => a1 (vI (.int i))) fun i => vI (.bool (within i 0 (some 1)))
theorem c_is_bit (T : Txt K mg c) : Cal P w K mg base 3 "is_bit" (sp_is_bit) [] := by
  have c_is_within := c_is_within (P := P) (w := w) (base := base) T
  refine mkCal T.d_is_bit sc_is_bit (fun _ _ _ _ _ _ us hl => match us, hl with | [_], _ => rfl) (fun vs H Q E h => ?_) (fun f cdv A outer s H vs Q E hr h => ?_)
  · obtain ⟨x, a, _⟩ := h
    obtain ⟨v0, rfl, _⟩ := a1o a
    rfl
  · obtain ⟨x, a, k⟩ := h
    obtain ⟨v0, rfl, p0⟩ := a1o a
    have hu := hu_of hr
    refine ⟨_, pss_one (ps_ret (pe_c c_is_within hr (by decide) (by rfl) (pa_cons (pv 0) (pa_cons (pe_int) (pa_cons (pe_int) (pa_nil)))))), ?_⟩
    exact s_retP (P := vI (.bool (within x 0 (some 1)))) (ep_callF (x, 0, some 1) (ea1 (mI _) (by walk_at "ev") (ea1 (mI _) (by walk_at "ev") (ea_1 (mI _) (by walk_at "ev"))))) fun v H1 e p => k v H1 e p
/-! ### is_turn -/
abbrev sp_is_turn : Sp := spF (fun i : Int => a1 (vI (.int i))) fun i => vI (.bool (within i 0 (some 7)))
theorem c_is_turn (T : Txt K mg c) : Cal P w K mg base 3 "is_turn" (sp_is_turn) [] := by
  have c_is_within := c_is_within (P := P) (w := w) (base := base) T
  refine mkCal T.d_is_turn sc_is_turn (fun _ _ _ _ _ _ us hl => match us, hl with | [_], _ => rfl) (fun vs H Q E h => ?_) (fun f cdv A outer s H vs Q E hr h => ?_)
  · obtain ⟨x, a, _⟩ := h
    obtain ⟨v0, rfl, _⟩ := a1o a
    rfl
  · obtain ⟨x, a, k⟩ := h
    obtain ⟨v0, rfl, p0⟩ := a1o a
    have hu := hu_of hr
    refine ⟨_, pss_one (ps_ret (pe_c c_is_within hr (by decide) (by rfl) (pa_cons (pv 0) (pa_cons (pe_int) (pa_cons (pe_op op_sub (pe_gc rfl T.g_TURNS) (pe_int)) (pa_nil)))))), ?_⟩
    exact s_retP (P := vI (.bool (within x 0 (some 7)))) (ep_callF (x, 0, some 7) (ea1 (mI _) (by walk_at "ev") (ea1 (mI _) (by walk_at "ev") (ea_1 (mI _) (eo (i := 8) (j := 1) (g := fun i j => i - j) (by walk_at "ev") (by walk_at "ev")))))) fun v H1 e p => k v H1 e p
/-- an amount -/
abbrev Am := Int × Int × Int × Int
abbrev am (x : Am) : PyData := .tuple [.int x.1, .int x.2.1, .int x.2.2.1, .int x.2.2.2]
abbrev amL (x : Am) : List Int := [x.1, x.2.1, x.2.2.1, x.2.2.2]
def smallA (x : Am) : Prop := (-1000 ≤ x.1 ∧ x.1 ≤ 1000) ∧ (-1000 ≤ x.2.1 ∧ x.2.1 ≤ 1000) ∧ (-1000 ≤ x.2.2.1 ∧ x.2.2.1 ≤ 1000) ∧ (-1000 ≤ x.2.2.2 ∧ x.2.2.2 ≤ 1000)
theorem cm {i j : Int} (h : -1000 ≤ i ∧ i ≤ 1000) : CMul i j := .inl (by omega)
def timesA (x y : Am) : Am := (x.1 * y.1 - x.2.1 * y.2.2.2 - x.2.2.1 * y.2.2.1 - x.2.2.2 * y.2.1, x.1 * y.2.1 + x.2.1 * y.1 - x.2.2.1 * y.2.2.2 - x.2.2.2 * y.2.2.1,
  x.1 * y.2.2.1 + x.2.1 * y.2.1 + x.2.2.1 * y.1 - x.2.2.2 * y.2.2.2, x.1 * y.2.2.2 + x.2.1 * y.2.2.1 + x.2.2.1 * y.2.1 + x.2.2.2 * y.1)
def mirrorA (x : Am) : Am := (x.1, -x.2.2.2, -x.2.2.1, -x.2.1)
theorem am4 {v : V} {H : Hp} {x : Am} (h : Im H v (am x)) : ∃ a, v = .ref a ∧ Tz H a [.int x.1, .int x.2.1, .int x.2.2.1, .int x.2.2.2] := by
  obtain ⟨a, xs, rfl, h1, im⟩ := h.isTup
  have e := ImAll.ints (ns := amL x) im
  rw [e] at h1
  exact ⟨a, rfl, h1⟩
/-! ### is_amount -/
abbrev sp_is_amount : Sp := spF (fun x : Am => a1 (vI (am x))) fun _ => vI (.bool true)
theorem c_is_amount (T : Txt K mg c) : Cal P w K mg base 2 "is_amount" (sp_is_amount) [] := by
  have c_is_integer := c_is_integer (P := P) (w := w) (base := base) T
  refine mkCal T.d_is_amount sc_is_amount (fun _ _ _ _ _ _ us hl => match us, hl with | [_], _ => rfl) (fun vs H Q E h => ?_) (fun f cdv A outer s H vs Q E hr h => ?_)
  · obtain ⟨x, a, _⟩ := h
    obtain ⟨v0, rfl, _⟩ := a1o a
    rfl
  · obtain ⟨x, a, k⟩ := h
    obtain ⟨v0, rfl, p0⟩ := a1o a
    have hu := hu_of hr
    refine ⟨_, pss_one (ps_ret (pe_and (pe_callB (id := "isinstance") (cr_isiTK K) (by rfl) T.b_isinstance (by decide +kernel) (pa_cons (pv 0) (pa_cons (pe_tup (pa_cons (pe_ty (n := "list") (by rfl) T.b_list (by decide +kernel)) (pa_cons (pe_ty (n := "tuple") (by rfl) T.b_tuple (by decide +kernel)) (pa_nil)))) (pa_nil)))) (pe_and (pe_cmpR op_eq (pe_callB (id := "len") (cr_lenK K) (by rfl) T.b_len (by decide +kernel) (pa_cons (pv 0) (pa_nil))) (pe_int) (nomark _)) (pe_one (pe_callB (id := "all") (cr_allK K rfl) (by rfl) T.b_all (by decide +kernel) (pa_cons (pe_lc (own := [("number", 1)]) rfl sc_is_amount.nd (pi_seqK K (pv 0)) (blkOk_by (N := N_is_amount) (sc := defScope s_is_amount) (own := [("number", 1)]) (by decide +kernel)) (fun _ _ _ _ _ => pg_name (i := 1) sc_is_amount.nd rfl (Or.inl rfl)) (fun _ _ _ _ _ => pts_nil) (fun _ _ _ _ _ => pe_c c_is_integer hr (by decide) (by rfl) (pa_cons (pv 1) (pa_nil)))) (pa_nil))))))), ?_⟩
    refine s_retP (P := vI (.bool true)) (e_and (a := true) (e_isLT (ds := (amL x).map .int) (ep_of (ev_var rfl) (mS _) (vS_I p0))) fun _ => e_and (a := true) (EvP.isB (e_eqI (e_len (ds := (amL x).map .int) (ep_of (ev_var rfl) (mS _) (vS_I p0))) ec_i) rfl) fun _ => EvP.isB (e_all (xs := amL x) (p := fun _ => true) (lc_N1 (enc := .int) (fun _ => .bool true) (src_S (ep_of (ev_var rfl) (mS _) (vS_I p0))) (by show 4 ≤ 50000; omega) (fun _ => rfl) fun a y H1 _ e i => ep_callF a (ea_1 (mI _) (ei_var rfl i)))) rfl) fun v H1 e p => k v H1 e p
/-! ### need_amount -/
abbrev sp_need_amount : Sp := spF (fun x : Am × Str => a2 (vI (am x.1)) (vI (.str x.2))) fun x => vI (am x.1)
theorem c_need_amount (T : Txt K mg c) : Cal P w K mg base 3 "need_amount" (sp_need_amount) [] := by
  have c_is_amount := c_is_amount (P := P) (w := w) (base := base) T
  refine mkCal T.d_need_amount sc_need_amount (fun _ _ _ _ _ _ us hl => match us, hl with | [_, _], _ => rfl) (fun vs H Q E h => ?_) (fun f cdv A outer s H vs Q E hr h => ?_)
  · obtain ⟨x, a, _⟩ := h
    obtain ⟨v0, v1, rfl, _⟩ := a2o a
    rfl
  · obtain ⟨x, a, k⟩ := h
    obtain ⟨v0, v1, rfl, p0, p1⟩ := a2o a
    have hu := hu_of hr
    refine ⟨_, pss_cons (ps_if (pt_not (pt_val (pe_c c_is_amount hr (by decide) (by rfl) (pa_cons (pv 0) (pa_nil))))) (pss_one (ps_never)) (pss_nil))
      (pss_one (ps_ret (pe_callTy (T := "tuple") (cr_tupleK K) (by rfl) T.b_tuple (by decide +kernel) (pa_cons (pv 0) (pa_nil))))), ?_⟩
    refine q_if (et_not (a := true) (et_v (ep_callF x.1 (ea_1 (mI _) (by walk_at "ev"))))) fun H1 e1 => ?_
    exact s_retP (P := vI (am x.1)) (e_tuple (ep_of (ev_var rfl) (mS _) (vS_I (p0.up e1)))) fun v H2 e p => k v H2 (e1.trans e) p
/-! ### times -/
abbrev sp_times : Sp := spP (fun x : Am × Am => smallA x.1) (fun x => a2 (vI (am x.1)) (vI (am x.2))) fun x => vI (am (timesA x.1 x.2))
theorem c_times (T : Txt K mg c) : Cal P w K mg base 1 "times" (sp_times) [] := by
  refine mkCal T.d_times sc_times (fun _ _ _ _ _ _ us hl => match us, hl with | [_, _], _ => rfl) (fun vs H Q E h => ?_) (fun f cdv A outer s H vs Q E hr h => ?_)
  · obtain ⟨x, hx, a, _⟩ := h
    obtain ⟨v0, v1, rfl, _⟩ := a2o a
    rfl
  · obtain ⟨x, hx, a, k⟩ := h
    obtain ⟨v0, v1, rfl, p0, p1⟩ := a2o a
    have hu := hu_of hr
    refine ⟨_, pss_cons (ps_asg (pv 0) (pg_tupK K (n := 4) rfl (pgs_cons (pg_name (i := 2) sc_times.nd rfl (Or.inl rfl)) (pgs_cons (pg_name (i := 3) sc_times.nd rfl (Or.inl rfl)) (pgs_cons (pg_name (i := 4) sc_times.nd rfl (Or.inl rfl)) (pgs_cons (pg_name (i := 5) sc_times.nd rfl (Or.inl rfl)) (pgs_nil)))))))
      (pss_cons (ps_asg (pv 1) (pg_tupK K (n := 4) rfl (pgs_cons (pg_name (i := 6) sc_times.nd rfl (Or.inl rfl)) (pgs_cons (pg_name (i := 7) sc_times.nd rfl (Or.inl rfl)) (pgs_cons (pg_name (i := 8) sc_times.nd rfl (Or.inl rfl)) (pgs_cons (pg_name (i := 9) sc_times.nd rfl (Or.inl rfl)) (pgs_nil)))))))
      (pss_one (ps_ret (pe_tupZ (pa_cons (pe_op op_sub (pe_op op_sub (pe_op op_sub (pe_op op_mul (pv 2) (pv 6)) (pe_op op_mul (pv 3) (pv 9))) (pe_op op_mul (pv 4) (pv 8))) (pe_op op_mul (pv 5) (pv 7))) (pa_cons (pe_op op_sub (pe_op op_sub (pe_op op_add (pe_op op_mul (pv 2) (pv 7)) (pe_op op_mul (pv 3) (pv 6))) (pe_op op_mul (pv 4) (pv 9))) (pe_op op_mul (pv 5) (pv 8))) (pa_cons (pe_op op_sub (pe_op op_add (pe_op op_add (pe_op op_mul (pv 2) (pv 8)) (pe_op op_mul (pv 3) (pv 7))) (pe_op op_mul (pv 4) (pv 6))) (pe_op op_mul (pv 5) (pv 9))) (pa_cons (pe_op op_add (pe_op op_add (pe_op op_add (pe_op op_mul (pv 2) (pv 9)) (pe_op op_mul (pv 3) (pv 8))) (pe_op op_mul (pv 4) (pv 7))) (pe_op op_mul (pv 5) (pv 6))) (pa_nil))))))))), ?_⟩
    obtain ⟨⟨a1, a2, a3, a4⟩, b1, b2, b3, b4⟩ := x
    obtain ⟨h1, h2, h3, h4⟩ := hx
    obtain ⟨q0, rfl, t0⟩ := am4 p0
    obtain ⟨q1, rfl, t1⟩ := am4 p1
    refine ⟨_, rfl, q0, _, rfl, t0.sq, rfl, _, _, rfl, _, _, rfl, _, _, rfl, _, _, rfl, rfl, ?_⟩
    refine ⟨_, rfl, q1, _, rfl, t1.sq, rfl, _, _, rfl, _, _, rfl, _, _, rfl, _, _, rfl, rfl, ?_⟩
    dsimp only
    refine s_retP (P := vI (am (timesA (a1, a2, a3, a4) (b1, b2, b3, b4)))) (ep_tup (ds := [_, _, _, _]) (ea_cons ?_ (ea_cons ?_ (ea_cons ?_ (ea_cons ?_ ea_nil)))) (by show 4 ≤ _; omega)) fun v H2 e p => k v H2 e p
    · exact eo (g := fun i j => i - j) (eo (g := fun i j => i - j) (eo (g := fun i j => i - j) (eoC (by walk_at "ev") (by walk_at "ev") (cm h1)) (eoC (by walk_at "ev") (by walk_at "ev") (cm h2))) (eoC (by walk_at "ev") (by walk_at "ev") (cm h3))) (eoC (by walk_at "ev") (by walk_at "ev") (cm h4))
    · exact eo (g := fun i j => i - j) (eo (g := fun i j => i - j) (eo (g := fun i j => i + j) (eoC (by walk_at "ev") (by walk_at "ev") (cm h1)) (eoC (by walk_at "ev") (by walk_at "ev") (cm h2))) (eoC (by walk_at "ev") (by walk_at "ev") (cm h3))) (eoC (by walk_at "ev") (by walk_at "ev") (cm h4))
    · exact eo (g := fun i j => i - j) (eo (g := fun i j => i + j) (eo (g := fun i j => i + j) (eoC (by walk_at "ev") (by walk_at "ev") (cm h1)) (eoC (by walk_at "ev") (by walk_at "ev") (cm h2))) (eoC (by walk_at "ev") (by walk_at "ev") (cm h3))) (eoC (by walk_at "ev") (by walk_at "ev") (cm h4))
    · exact eo (g := fun i j => i + j) (eo (g := fun i j => i + j) (eo (g := fun i j => i + j) (eoC (by walk_at "ev") (by walk_at "ev") (cm h1)) (eoC (by walk_at "ev") (by walk_at "ev") (cm h2))) (eoC (by walk_at "ev") (by walk_at "ev") (cm h3))) (eoC (by walk_at "ev") (by walk_at "ev") (cm h4))
/-! ### mirror -/
abbrev sp_mirror : Sp := spF (fun x : Am => a1 (vI (am x))) fun x => vI (am (mirrorA x))
theorem c_mirror (T : Txt K mg c) : Cal P w K mg base 1 "mirror" (sp_mirror) [] := by
  refine mkCal T.d_mirror sc_mirror (fun _ _ _ _ _ _ us hl => match us, hl with | [_], _ => rfl) (fun vs H Q E h => ?_) (fun f cdv A outer s H vs Q E hr h => ?_)
  · obtain ⟨x, a, _⟩ := h
    obtain ⟨v0, rfl, _⟩ := a1o a
    rfl
  · obtain ⟨x, a, k⟩ := h
    obtain ⟨v0, rfl, p0⟩ := a1o a
    have hu := hu_of hr
    refine ⟨_, pss_cons (ps_asg (pv 0) (pg_tupK K (n := 4) rfl (pgs_cons (pg_name (i := 1) sc_mirror.nd rfl (Or.inl rfl)) (pgs_cons (pg_name (i := 2) sc_mirror.nd rfl (Or.inl rfl)) (pgs_cons (pg_name (i := 3) sc_mirror.nd rfl (Or.inl rfl)) (pgs_cons (pg_name (i := 4) sc_mirror.nd rfl (Or.inl rfl)) (pgs_nil)))))))
      (pss_one (ps_ret (pe_tupZ (pa_cons (pv 1) (pa_cons (pe_un un_neg (pv 4)) (pa_cons (pe_un un_neg (pv 3)) (pa_cons (pe_un un_neg (pv 2)) (pa_nil)))))))), ?_⟩
    obtain ⟨a1, a2, a3, a4⟩ := x
    obtain ⟨q0, rfl, t0⟩ := am4 p0
    refine ⟨_, rfl, q0, _, rfl, t0.sq, rfl, _, _, rfl, _, _, rfl, _, _, rfl, _, _, rfl, rfl, ?_⟩
    dsimp only
    refine s_retP (P := vI (am (mirrorA (a1, a2, a3, a4)))) (ep_tup (ds := [_, _, _, _]) (ea_cons (by walk_at "ev") (ea_cons (eu (g := fun i => -i) (by walk_at "ev")) (ea_cons (eu (g := fun i => -i) (by walk_at "ev")) (ea_cons (eu (g := fun i => -i) (by walk_at "ev")) ea_nil)))) (by show 4 ≤ _; omega)) fun v H2 e p => k v H2 e p
/-! ### multiplied -/
abbrev sp_multiplied : Sp := spP (fun x : Am × Am => smallA x.1) (fun x => a2 (vI (am x.1)) (vI (am x.2))) fun x => vI (am (timesA x.1 x.2))
theorem c_multiplied (T : Txt K mg c) : Cal P w K mg base 4 "multiplied" (sp_multiplied) [] := by
  have c_need_amount := c_need_amount (P := P) (w := w) (base := base) T
  have c_times := c_times (P := P) (w := w) (base := base) T
  refine mkCal T.d_multiplied sc_multiplied (fun _ _ _ _ _ _ us hl => match us, hl with | [_, _], _ => rfl) (fun vs H Q E h => ?_) (fun f cdv A outer s H vs Q E hr h => ?_)
  · obtain ⟨x, hx, a, _⟩ := h
    obtain ⟨v0, v1, rfl, _⟩ := a2o a
    rfl
  · obtain ⟨x, hx, a, k⟩ := h
    obtain ⟨v0, v1, rfl, p0, p1⟩ := a2o a
    have hu := hu_of hr
    refine ⟨_, pss_one (ps_ret (pe_c c_times hr (by decide) (by rfl) (pa_cons (pe_c c_need_amount hr (by decide) (by rfl) (pa_cons (pv 0) (pa_cons (pe_str) (pa_nil)))) (pa_cons (pe_c c_need_amount hr (by decide) (by rfl) (pa_cons (pv 1) (pa_cons (pe_str) (pa_nil)))) (pa_nil))))), ?_⟩
    exact s_retP (P := vI (am (timesA x.1 x.2))) (ep_callP x hx (ea1 (mI _) (ep_callF (x.1, ("one" : Str)) (ea1 (mI _) (by walk_at "ev") (ea_1 (mI _) ec_s))) (ea_1 (mI _) (ep_callF (x.2, ("other" : Str)) (ea1 (mI _) (by walk_at "ev") (ea_1 (mI _) ec_s)))))) fun v H2 e p => k v H2 e p
/-! ### mirrored -/
abbrev sp_mirrored : Sp := spF (fun x : Am => a1 (vI (am x))) fun x => vI (am (mirrorA x))
theorem c_mirrored (T : Txt K mg c) : Cal P w K mg base 4 "mirrored" (sp_mirrored) [] := by
  have c_mirror := c_mirror (P := P) (w := w) (base := base) T
  have c_need_amount := c_need_amount (P := P) (w := w) (base := base) T
  refine mkCal T.d_mirrored sc_mirrored (fun _ _ _ _ _ _ us hl => match us, hl with | [_], _ => rfl) (fun vs H Q E h => ?_) (fun f cdv A outer s H vs Q E hr h => ?_)
  · obtain ⟨x, a, _⟩ := h
    obtain ⟨v0, rfl, _⟩ := a1o a
    rfl
  · obtain ⟨x, a, k⟩ := h
    obtain ⟨v0, rfl, p0⟩ := a1o a
    have hu := hu_of hr
    refine ⟨_, pss_one (ps_ret (pe_c c_mirror hr (by decide) (by rfl) (pa_cons (pe_c c_need_amount hr (by decide) (by rfl) (pa_cons (pv 0) (pa_cons (pe_str) (pa_nil)))) (pa_nil)))), ?_⟩
    exact s_retP (P := vI (am (mirrorA x))) (ep_callF x (ea_1 (mI _) (ep_callF (x, ("amount" : Str)) (ea1 (mI _) (by walk_at "ev") (ea_1 (mI _) ec_s))))) fun v H2 e p => k v H2 e p
end
end Lk
end

section
set_option Elab.async false
set_option linter.all false
set_option maxRecDepth 100000
set_option maxHeartbeats 4000000
namespace Lk
open PySem PySem.Spec PyProof.Rows L2 Evl PySem.W C8
local macro_rules | `(tactic| walk_at "ex") => `(tactic| first | exact Ex.refl _ | assumption | (refine Ex.trans (H1 := ?g) ?a ?b; (case a => assumption); (case b => walk_at "ex")))
local macro_rules | `(tactic| walk_at "im") => `(tactic| first | assumption | exact Im.int _ | exact Im.bl _ | (refine Im.up (H := ?g) ?a ?b; (case a => assumption); (case b => walk_at "ex")))
local macro_rules | `(tactic| walk_at "ev") => `(tactic| first
  | exact ec_i | exact ec_b | exact ec_s | exact ec_n
  | (refine ei_var rfl ?_; walk_at "im")
  | (refine eo ?_ ?_ <;> walk_at "ev")
  | (refine eoB ?_ ?_ <;> walk_at "ev")
  | (refine e_eqI ?_ ?_ <;> walk_at "ev")
  | (refine e_neI ?_ ?_ <;> walk_at "ev")
  | (refine eu ?_ <;> walk_at "ev")
  | (refine e_not ?_ <;> walk_at "ev"))

section
variable {P : Program} {w : World} {K : PySem.W.Frag} {mg : Str → Option Value} {base : Heap} {c : Cs}
/-! ### is_lot -/
abbrev sp_is_lot : Sp := spP (fun ns : List Nat => ns.Nodup ∧ ns.length < 64) (fun ns => a1 (vS (ns.map dN))) fun _ => vI (.bool true)
theorem c_is_lot (T : Txt K mg c) : Cal P w K mg base 3 "is_lot" (sp_is_lot) [] := by
  have c_is_within := c_is_within (P := P) (w := w) (base := base) T
  refine mkCal T.d_is_lot sc_is_lot (fun _ _ _ _ _ _ us hl => match us, hl with | [_], _ => rfl) (fun vs H Q E h => ?_) (fun f cdv A outer s H vs Q E hr h => ?_)
  · obtain ⟨x, hx, a, _⟩ := h
    obtain ⟨v0, rfl, _⟩ := a1o a
    rfl
  · obtain ⟨x, hx, a, k⟩ := h
    obtain ⟨v0, rfl, p0⟩ := a1o a
    have hu := hu_of hr
    refine ⟨_, pss_cons (ps_if ((pw_or (pt_not (pt_val (pe_callB (id := "isinstance") (cr_isiTK K) (by rfl) T.b_isinstance (by decide +kernel) (pa_cons (pv 0) (pa_cons (pe_tup (pa_cons (pe_ty (n := "list") (by rfl) T.b_list (by decide +kernel)) (pa_cons (pe_ty (n := "tuple") (by rfl) T.b_tuple (by decide +kernel)) (pa_nil)))) (pa_nil)))))) (pw_or1 (pt_not (pt_val (pe_callB (id := "all") (cr_allK K rfl) (by rfl) T.b_all (by decide +kernel) (pa_cons (pe_lc (own := [("each", 1)]) rfl sc_is_lot.nd (pi_seqK K (pv 0)) (blkOk_by (N := N_is_lot) (sc := defScope s_is_lot) (own := [("each", 1)]) (by decide +kernel)) (fun _ _ _ _ _ => pg_name (i := 1) sc_is_lot.nd rfl (Or.inl rfl)) (fun _ _ _ _ _ => pts_nil) (fun _ _ _ _ _ => pe_c c_is_within hr (by decide) (by rfl) (pa_cons (pv 1) (pa_cons (pe_int) (pa_cons (pe_non) (pa_nil)))))) (pa_nil))))))).pt) (pss_one (ps_ret (pe_bl))) (pss_nil))
      (pss_one (ps_ret (pe_cmpR op_eq (pe_lenSet hr.units rfl (by rfl) T.b_len (by rfl) T.b_set (pv 0)) (pe_callB (id := "len") (cr_lenK K) (by rfl) T.b_len (by decide +kernel) (pa_cons (pv 0) (pa_nil))) (nomark _)))), ?_⟩
    refine q_if (et_isb (et_or (a := false) (b := false) (et_not (a := true) (et_v (e_isLT (ds := x.map dN) (ep_var rfl (mS _) p0)))) fun _ => et_not (a := true) (et_v (EvP.isB (e_all (xs := x) (p := fun _ => true) (lc_N1 (enc := dN) (fun _ => .bool true) (src_S (ep_var rfl (mS _) p0)) (by have := hx.2; omega) (fun _ => rfl) fun a y H1 _ e i => EvP.is (ep_callF ((a : Int), 0, none) (ea1 (mI _) (ei_var rfl i) (ea1 (mI _) ec_i (ea_1 (mI _) ec_n)))) (by simp [within]))) (by simp)))) rfl) fun H1 e1 => ?_
    exact s_retP (P := vI (.bool true)) (EvP.isB (e_eqI (e_lenSetN (ns := x) (ep_var rfl (mS _) (mS _ _ _ _ e1 p0)) hx.2 hx.1) (e_len (ep_var rfl (mS _) (mS _ _ _ _ e1 p0)))) (by rw [List.length_map]; exact decide_eq_true rfl)) fun v H2 e p => k v H2 (e1.trans e) p
/-! ### is_things -/
abbrev sp_is_things : Sp := spP (fun x : List Nat × Nat => x.1.Nodup ∧ x.1.length < 64 ∧ ∀ t ∈ x.1, t < x.2) (fun x => a2 (vS (x.1.map dN)) (vI (dN x.2))) fun _ => vI (.bool true)
theorem c_is_things (T : Txt K mg c) : Cal P w K mg base 4 "is_things" (sp_is_things) [] := by
  have c_is_lot := c_is_lot (P := P) (w := w) (base := base) T
  refine mkCal T.d_is_things sc_is_things (fun _ _ _ _ _ _ us hl => match us, hl with | [_, _], _ => rfl) (fun vs H Q E h => ?_) (fun f cdv A outer s H vs Q E hr h => ?_)
  · obtain ⟨x, hx, a, _⟩ := h
    obtain ⟨v0, v1, rfl, _⟩ := a2o a
    rfl
  · obtain ⟨x, hx, a, k⟩ := h
    obtain ⟨v0, v1, rfl, p0, p1⟩ := a2o a
    have hu := hu_of hr
    refine ⟨_, pss_one (ps_ret (pe_and (pe_c c_is_lot hr (by decide) (by rfl) (pa_cons (pv 0) (pa_nil))) (pe_one (pe_callB (id := "all") (cr_allK K rfl) (by rfl) T.b_all (by decide +kernel) (pa_cons (pe_lc (own := [("thing", 2)]) rfl sc_is_things.nd (pi_seqK K (pv 0)) (blkOk_by (N := N_is_things) (sc := defScope s_is_things) (own := [("thing", 2)]) (by decide +kernel)) (fun _ _ _ _ _ => pg_name (i := 2) sc_is_things.nd rfl (Or.inl rfl)) (fun _ _ _ _ _ => pts_nil) (fun _ _ _ _ _ => pe_cmpR op_lt (pv 2) (pv 1) (nomark _))) (pa_nil)))))), ?_⟩
    exact s_retP (P := vI (.bool true)) (e_and (a := true) (ep_callP x.1 ⟨hx.1, hx.2.1⟩ (ea_1 (mS _) (ep_var rfl (mS _) p0))) fun _ => EvP.isB (e_all (xs := x.1) (p := fun t => decide ((t : Int) < (x.2 : Int))) (lc_N1 (enc := dN) (fun t => .bool (decide ((t : Int) < (x.2 : Int)))) (src_S (ep_var rfl (mS _) p0)) (by have := hx.2.1; omega) (fun _ => rfl) fun a y H1 _ e i => eoB (g := fun i j => decide (i < j)) (ei_var rfl i) (ei_var rfl (Im.up p1 e)))) (List.all_eq_true.mpr fun t m => decide_eq_true (Int.ofNat_lt.mpr (hx.2.2 t m)))) fun v H2 e p => k v H2 e p
/-! ### is_string -/
abbrev sp_is_string : Sp := spP (fun x : (Nat × Nat) × Nat => x.1.1 < x.1.2 ∧ x.1.2 < x.2) (fun x => a2 (vI (pD x.1)) (vI (dN x.2))) fun _ => vI (.bool true)
theorem c_is_string (T : Txt K mg c) : Cal P w K mg base 5 "is_string" (sp_is_string) [] := by
  have c_is_things := c_is_things (P := P) (w := w) (base := base) T
  refine mkCal T.d_is_string sc_is_string (fun _ _ _ _ _ _ us hl => match us, hl with | [_, _], _ => rfl) (fun vs H Q E h => ?_) (fun f cdv A outer s H vs Q E hr h => ?_)
  · obtain ⟨x, hx, a, _⟩ := h
    obtain ⟨v0, v1, rfl, _⟩ := a2o a
    rfl
  · obtain ⟨x, hx, a, k⟩ := h
    obtain ⟨v0, v1, rfl, p0, p1⟩ := a2o a
    have hu := hu_of hr
    refine ⟨_, pss_one (ps_ret (pe_and (pe_c c_is_things hr (by decide) (by rfl) (pa_cons (pv 0) (pa_cons (pv 1) (pa_nil)))) (pe_one (pe_cmpR op_eq (pe_callB (id := "len") (cr_lenK K) (by rfl) T.b_len (by decide +kernel) (pa_cons (pv 0) (pa_nil))) (pe_int) (nomark _))))), ?_⟩
    have p2 : vS (([x.1.1, x.1.2] : List Nat).map dN) v0 H := vS_I p0
    exact s_retP (P := vI (.bool true)) (e_and (a := true) (ep_callP ([x.1.1, x.1.2], x.2) ⟨by simp; omega, by show 2 < 64; omega, by simp; omega⟩ (ea1 (mS _) (ep_var rfl (mS _) p2) (ea_1 (mI _) (ei_var rfl p1)))) fun _ => EvP.isB (e_eqI (e_len (ep_var rfl (mS _) p2)) ec_i) rfl) fun v H2 e p => k v H2 e p
/-! ### strings_from -/
abbrev sp_strings_from : Sp := spP (fun x : List (Nat × Nat) × Nat => x.1.Nodup ∧ x.1.length < 64 ∧ ∀ p ∈ x.1, p.1 < p.2 ∧ p.2 < x.2) (fun x => a2 (vL (x.1.map pD)) (vI (dN x.2))) fun x => vI (.tuple (sortD (x.1.map pD)))
theorem c_strings_from (T : Txt K mg c) : Cal P w K mg base 6 "strings_from" (sp_strings_from) [] := by
  have c_is_string := c_is_string (P := P) (w := w) (base := base) T
  refine mkCal T.d_strings_from sc_strings_from (fun _ _ _ _ _ _ us hl => match us, hl with | [_, _], _ => rfl) (fun vs H Q E h => ?_) (fun f cdv A outer s H vs Q E hr h => ?_)
  · obtain ⟨x, hx, a, _⟩ := h
    obtain ⟨v0, v1, rfl, _⟩ := a2o a
    rfl
  · obtain ⟨x, hx, a, k⟩ := h
    obtain ⟨v0, v1, rfl, p0, p1⟩ := a2o a
    have hu := hu_of hr
    refine ⟨_, pss_cons (ps_if ((pw_or (pt_not (pt_val (pe_callB (id := "isinstance") (cr_isiTK K) (by rfl) T.b_isinstance (by decide +kernel) (pa_cons (pv 0) (pa_cons (pe_tup (pa_cons (pe_ty (n := "list") (by rfl) T.b_list (by decide +kernel)) (pa_cons (pe_ty (n := "tuple") (by rfl) T.b_tuple (by decide +kernel)) (pa_nil)))) (pa_nil)))))) (pw_or1 (pt_not (pt_val (pe_callB (id := "all") (cr_allK K rfl) (by rfl) T.b_all (by decide +kernel) (pa_cons (pe_lc (own := [("each", 3)]) rfl sc_strings_from.nd (pi_seqK K (pv 0)) (blkOk_by (N := N_strings_from) (sc := defScope s_strings_from) (own := [("each", 3)]) (by decide +kernel)) (fun _ _ _ _ _ => pg_name (i := 3) sc_strings_from.nd rfl (Or.inl rfl)) (fun _ _ _ _ _ => pts_nil) (fun _ _ _ _ _ => pe_c c_is_string hr (by decide) (by rfl) (pa_cons (pv 3) (pa_cons (pv 1) (pa_nil))))) (pa_nil))))))).pt) (pss_one (ps_never)) (pss_nil))
      (pss_cons (ps_set (i := 2) sc_strings_from.nd rfl (Or.inl rfl) (pe_callB (id := "sorted") (cr_sortD hr) (by rfl) T.b_sorted (by decide +kernel) (pa_cons (pe_lc (own := [("each", 3)]) rfl sc_strings_from.nd (pi_seqK K (pv 0)) (blkOk_by (N := N_strings_from) (sc := defScope s_strings_from) (own := [("each", 3)]) (by decide +kernel)) (fun _ _ _ _ _ => pg_name (i := 3) sc_strings_from.nd rfl (Or.inl rfl)) (fun _ _ _ _ _ => pts_nil) (fun _ _ _ _ _ => pe_callTy (T := "tuple") (cr_tupleK K) (by rfl) T.b_tuple (by decide +kernel) (pa_cons (pe_callB (id := "sorted") (cr_sortD hr) (by rfl) T.b_sorted (by decide +kernel) (pa_cons (pv 3) (pa_nil))) (pa_nil)))) (pa_nil))))
      (pss_cons (ps_if (pt_cmpR op_ne (pe_lenSet hr.units rfl (by rfl) T.b_len (by rfl) T.b_set (pv 2)) (pe_callB (id := "len") (cr_lenK K) (by rfl) T.b_len (by decide +kernel) (pa_cons (pv 2) (pa_nil))) (nomark _)) (pss_one (ps_never)) (pss_nil))
      (pss_one (ps_ret (pe_callTy (T := "tuple") (cr_tupleK K) (by rfl) T.b_tuple (by decide +kernel) (pa_cons (pv 2) (pa_nil))))))), ?_⟩
    have s0 : vS (x.1.map pD) v0 H := vS_L p0
    refine q_if (et_isb (et_or (a := false) (b := false) (et_not (a := true) (et_v (e_isLT (ds := x.1.map pD) (ep_var rfl (mS _) s0)))) fun _ => et_not (a := true) (et_v (EvP.isB (e_all (xs := x.1) (p := fun _ => true) (lc_N1 (enc := pD) (fun _ => .bool true) (src_S (ep_var rfl (mS _) s0)) (by have := hx.2.1; omega) (fun _ => rfl) fun a y H1 m e i => ep_callP (a, x.2) (hx.2.2 a m) (ea1 (mI _) (ei_var rfl i) (ea_1 (mI _) (ei_var rfl (p1.up e)))))) (by simp)))) rfl) fun H1 e1 => ?_
    have hpd : ∀ a ∈ x.1, PyData.tuple (sortD ([a.1, a.2].map dN)) = pD a := fun a m => by
      rw [sortD_nats (ns := [a.1, a.2]) (by have := hx.2.2 a m; simp; omega)]
      rfl
    obtain ⟨ys, ey, py, _⟩ := ascend_pairs hx.1
    have ly : ys.length < 64 := by rw [py.length_eq]; exact hx.2.1
    refine q_set (P := vL (ys.map pD)) (EvP.isL (e_sortP (ps := x.1) (EvP.imp (lc_N1 (enc := pD) pD (src_S (ep_var rfl (mS _) (mS _ _ _ _ e1 s0))) (by have := hx.2.1; omega) (fun _ => rfl) fun a y H1 m e i => EvP.is (e_tuple (EvP.imp (e_sortN (ns := [a.1, a.2]) (EvP.imp (ei_var rfl i) fun v H2 _ q => vS_I q) (by show 2 ≤ 1000; omega)) fun v H2 _ q => vS_L q)) (hpd a m)) fun v H2 _ q => vS_L q) (by have := hx.2.1; omega)) ey) fun v H2 e2 pv => ?_
    refine q_if (et_isb (et_t (e_neI (e_lenSetP (ps := ys) (ep_var rfl (mL _) pv) ly (py.nodup_iff.mpr hx.1)) (e_len (EvP.imp (ep_var rfl (mL _) pv) fun v H3 _ q => vS_L q)))) (by rw [List.length_map, decide_eq_true rfl]; rfl)) fun H3 e3 => ?_
    exact s_retP (P := vI (.tuple (sortD (x.1.map pD)))) (EvP.is (e_tuple (EvP.imp (ep_var rfl (mL _) (mL _ _ _ _ e3 pv)) fun v H3 _ q => vS_L q)) (by rw [ey])) fun v H4 e p => k v H4 (((e1.trans e2).trans e3).trans e) p
/-! ### things_from -/
abbrev sp_things_from : Sp := spP (fun x : List Nat × Nat × Str => x.1.Nodup ∧ x.1.length < 64 ∧ ∀ t ∈ x.1, t < x.2.1) (fun x => a3 (vL (x.1.map dN)) (vI (dN x.2.1)) (vI (.str x.2.2))) fun x => vI (.tuple (x.1.map dN))
theorem c_things_from (T : Txt K mg c) : Cal P w K mg base 5 "things_from" (sp_things_from) [] := by
  have c_is_things := c_is_things (P := P) (w := w) (base := base) T
  refine mkCal T.d_things_from sc_things_from (fun _ _ _ _ _ _ us hl => match us, hl with | [_, _, _], _ => rfl) (fun vs H Q E h => ?_) (fun f cdv A outer s H vs Q E hr h => ?_)
  · obtain ⟨x, hx, a, _⟩ := h
    obtain ⟨v0, v1, v2, rfl, _⟩ := a3o a
    rfl
  · obtain ⟨x, hx, a, k⟩ := h
    obtain ⟨v0, v1, v2, rfl, p0, p1, p2⟩ := a3o a
    have hu := hu_of hr
    refine ⟨_, pss_cons (ps_if (pt_not (pt_val (pe_c c_is_things hr (by decide) (by rfl) (pa_cons (pv 0) (pa_cons (pv 1) (pa_nil)))))) (pss_one (ps_never)) (pss_nil))
      (pss_one (ps_ret (pe_callTy (T := "tuple") (cr_tupleK K) (by rfl) T.b_tuple (by decide +kernel) (pa_cons (pv 0) (pa_nil))))), ?_⟩
    have s0 : vS (x.1.map dN) v0 H := vS_L p0
    refine q_if (et_not (a := true) (et_v (ep_callP (x.1, x.2.1) hx (ea1 (mS _) (ep_var rfl (mS _) s0) (ea_1 (mI _) (ei_var rfl p1)))))) fun H1 e1 => ?_
    exact s_retP (P := vI (.tuple (x.1.map dN))) (e_tuple (ep_var rfl (mS _) (mS _ _ _ _ e1 s0))) fun v H2 e p => k v H2 (e1.trans e) p
/-! ### need_told -/
abbrev sp_need_told : Sp := spP (fun x : List Nat × Nat => x.1.length = x.2 ∧ x.2 < 64 ∧ ∀ t ∈ x.1, t < 8) (fun x => a2 (vS (x.1.map dN)) (vI (dN x.2))) fun x => vI (.tuple (x.1.map dN))
theorem c_need_told (T : Txt K mg c) : Cal P w K mg base 4 "need_told" (sp_need_told) [] := by
  have c_is_turn := c_is_turn (P := P) (w := w) (base := base) T
  refine mkCal T.d_need_told sc_need_told (fun _ _ _ _ _ _ us hl => match us, hl with | [_, _], _ => rfl) (fun vs H Q E h => ?_) (fun f cdv A outer s H vs Q E hr h => ?_)
  · obtain ⟨x, hx, a, _⟩ := h
    obtain ⟨v0, v1, rfl, _⟩ := a2o a
    rfl
  · obtain ⟨x, hx, a, k⟩ := h
    obtain ⟨v0, v1, rfl, p0, p1⟩ := a2o a
    have hu := hu_of hr
    refine ⟨_, pss_cons (ps_if ((pw_or (pt_not (pt_val (pe_callB (id := "isinstance") (cr_isiTK K) (by rfl) T.b_isinstance (by decide +kernel) (pa_cons (pv 0) (pa_cons (pe_tup (pa_cons (pe_ty (n := "list") (by rfl) T.b_list (by decide +kernel)) (pa_cons (pe_ty (n := "tuple") (by rfl) T.b_tuple (by decide +kernel)) (pa_nil)))) (pa_nil)))))) (pw_or (pt_cmpR op_ne (pe_callB (id := "len") (cr_lenK K) (by rfl) T.b_len (by decide +kernel) (pa_cons (pv 0) (pa_nil))) (pv 1) (nomark _)) (pw_or1 (pt_not (pt_val (pe_callB (id := "all") (cr_allK K rfl) (by rfl) T.b_all (by decide +kernel) (pa_cons (pe_lc (own := [("turn", 2)]) rfl sc_need_told.nd (pi_seqK K (pv 0)) (blkOk_by (N := N_need_told) (sc := defScope s_need_told) (own := [("turn", 2)]) (by decide +kernel)) (fun _ _ _ _ _ => pg_name (i := 2) sc_need_told.nd rfl (Or.inl rfl)) (fun _ _ _ _ _ => pts_nil) (fun _ _ _ _ _ => pe_c c_is_turn hr (by decide) (by rfl) (pa_cons (pv 2) (pa_nil)))) (pa_nil)))))))).pt) (pss_one (ps_never)) (pss_nil))
      (pss_one (ps_ret (pe_callTy (T := "tuple") (cr_tupleK K) (by rfl) T.b_tuple (by decide +kernel) (pa_cons (pv 0) (pa_nil))))), ?_⟩
    refine q_if (et_isb (et_or (a := false) (b := false) (et_not (a := true) (et_v (e_isLT (ds := x.1.map dN) (ep_var rfl (mS _) p0)))) fun _ => et_or (a := false) (b := false) (et_isb (et_t (e_neI (e_len (ep_var rfl (mS _) p0)) (ei_var rfl p1))) (by rw [List.length_map, hx.1, decide_eq_true rfl]; rfl)) fun _ => et_not (a := true) (et_v (EvP.isB (e_all (xs := x.1) (p := fun t => within (t : Int) 0 (some 7)) (lc_N1 (enc := dN) (fun t => .bool (within (t : Int) 0 (some 7))) (src_S (ep_var rfl (mS _) p0)) (by have := hx.1; have := hx.2.1; omega) (fun _ => rfl) fun a y H1 m e i => ep_callF (a : Int) (ea_1 (mI _) (ei_var rfl i)))) (List.all_eq_true.mpr fun t m => by have := hx.2.2 t m; simp [within]; omega)))) rfl) fun H1 e1 => ?_
    exact s_retP (P := vI (.tuple (x.1.map dN))) (e_tuple (ep_var rfl (mS _) (mS _ _ _ _ e1 p0))) fun v H2 e p => k v H2 (e1.trans e) p
/-! ### need_falls -/
abbrev sp_need_falls : Sp := spP (fun x : List Nat × Nat => x.1.length = x.2 ∧ x.2 < 64 ∧ ∀ t ∈ x.1, t < 2) (fun x => a2 (vS (x.1.map dN)) (vI (dN x.2))) fun x => vI (.tuple (x.1.map dN))
theorem c_need_falls (T : Txt K mg c) : Cal P w K mg base 4 "need_falls" (sp_need_falls) [] := by
  have c_is_bit := c_is_bit (P := P) (w := w) (base := base) T
  refine mkCal T.d_need_falls sc_need_falls (fun _ _ _ _ _ _ us hl => match us, hl with | [_, _], _ => rfl) (fun vs H Q E h => ?_) (fun f cdv A outer s H vs Q E hr h => ?_)
  · obtain ⟨x, hx, a, _⟩ := h
    obtain ⟨v0, v1, rfl, _⟩ := a2o a
    rfl
  · obtain ⟨x, hx, a, k⟩ := h
    obtain ⟨v0, v1, rfl, p0, p1⟩ := a2o a
    have hu := hu_of hr
    refine ⟨_, pss_cons (ps_if ((pw_or (pt_not (pt_val (pe_callB (id := "isinstance") (cr_isiTK K) (by rfl) T.b_isinstance (by decide +kernel) (pa_cons (pv 0) (pa_cons (pe_tup (pa_cons (pe_ty (n := "list") (by rfl) T.b_list (by decide +kernel)) (pa_cons (pe_ty (n := "tuple") (by rfl) T.b_tuple (by decide +kernel)) (pa_nil)))) (pa_nil)))))) (pw_or (pt_cmpR op_ne (pe_callB (id := "len") (cr_lenK K) (by rfl) T.b_len (by decide +kernel) (pa_cons (pv 0) (pa_nil))) (pv 1) (nomark _)) (pw_or1 (pt_not (pt_val (pe_callB (id := "all") (cr_allK K rfl) (by rfl) T.b_all (by decide +kernel) (pa_cons (pe_lc (own := [("fall", 2)]) rfl sc_need_falls.nd (pi_seqK K (pv 0)) (blkOk_by (N := N_need_falls) (sc := defScope s_need_falls) (own := [("fall", 2)]) (by decide +kernel)) (fun _ _ _ _ _ => pg_name (i := 2) sc_need_falls.nd rfl (Or.inl rfl)) (fun _ _ _ _ _ => pts_nil) (fun _ _ _ _ _ => pe_c c_is_bit hr (by decide) (by rfl) (pa_cons (pv 2) (pa_nil)))) (pa_nil)))))))).pt) (pss_one (ps_never)) (pss_nil))
      (pss_one (ps_ret (pe_callTy (T := "tuple") (cr_tupleK K) (by rfl) T.b_tuple (by decide +kernel) (pa_cons (pv 0) (pa_nil))))), ?_⟩
    refine q_if (et_isb (et_or (a := false) (b := false) (et_not (a := true) (et_v (e_isLT (ds := x.1.map dN) (ep_var rfl (mS _) p0)))) fun _ => et_or (a := false) (b := false) (et_isb (et_t (e_neI (e_len (ep_var rfl (mS _) p0)) (ei_var rfl p1))) (by rw [List.length_map, hx.1, decide_eq_true rfl]; rfl)) fun _ => et_not (a := true) (et_v (EvP.isB (e_all (xs := x.1) (p := fun t => within (t : Int) 0 (some 1)) (lc_N1 (enc := dN) (fun t => .bool (within (t : Int) 0 (some 1))) (src_S (ep_var rfl (mS _) p0)) (by have := hx.1; have := hx.2.1; omega) (fun _ => rfl) fun a y H1 m e i => ep_callF (a : Int) (ea_1 (mI _) (ei_var rfl i)))) (List.all_eq_true.mpr fun t m => by have := hx.2.2 t m; simp [within]; omega)))) rfl) fun H1 e1 => ?_
    exact s_retP (P := vI (.tuple (x.1.map dN))) (e_tuple (ep_var rfl (mS _) (mS _ _ _ _ e1 p0))) fun v H2 e p => k v H2 (e1.trans e) p
end
end Lk
end

section
set_option Elab.async false
set_option linter.all false
set_option maxRecDepth 100000
set_option maxHeartbeats 4000000
namespace Lk
open PySem PySem.Spec PyProof.Rows L2 Evl PySem.W C8
local macro_rules | `(tactic| walk_at "ex") => `(tactic| first | exact Ex.refl _ | assumption | (refine Ex.trans (H1 := ?g) ?a ?b; (case a => assumption); (case b => walk_at "ex")))
local macro_rules | `(tactic| walk_at "im") => `(tactic| first | assumption | exact Im.int _ | exact Im.bl _ | (refine Im.up (H := ?g) ?a ?b; (case a => assumption); (case b => walk_at "ex")))
local macro_rules | `(tactic| walk_at "ev") => `(tactic| first
  | exact ec_i | exact ec_b | exact ec_s | exact ec_n
  | (refine ei_var rfl ?_; walk_at "im")
  | (refine eo ?_ ?_ <;> walk_at "ev")
  | (refine eoB ?_ ?_ <;> walk_at "ev")
  | (refine e_eqI ?_ ?_ <;> walk_at "ev")
  | (refine e_neI ?_ ?_ <;> walk_at "ev")
  | (refine eu ?_ <;> walk_at "ev")
  | (refine e_not ?_ <;> walk_at "ev"))

section
variable {P : Program} {w : World} {K : PySem.W.Frag} {mg : Str → Option Value} {base : Heap} {c : Cs}
/-! ### pairs_in -/
abbrev sp_pairs_in : Sp := spP (fun ps : List (Nat × Nat) => (ps.map (·.1)).Nodup ∧ ps.length < 64) (fun ps => a1 (vL (ps.map pD))) fun ps => vL (ps.map pD)
theorem c_pairs_in (T : Txt K mg c) : Cal P w K mg base 2 "pairs_in" (sp_pairs_in) [] := by
  have c_is_integer := c_is_integer (P := P) (w := w) (base := base) T
  refine mkCal T.d_pairs_in sc_pairs_in (fun _ _ _ _ _ _ us hl => match us, hl with | [_], _ => rfl) (fun vs H Q E h => ?_) (fun f cdv A outer s H vs Q E hr h => ?_)
  · obtain ⟨x, hx, a, _⟩ := h
    obtain ⟨v0, rfl, _⟩ := a1o a
    rfl
  · obtain ⟨x, hx, a, k⟩ := h
    obtain ⟨v0, rfl, p0⟩ := a1o a
    have hu := hu_of hr
    refine ⟨_, pss_cons (ps_if (pt_val (pe_callB (id := "isinstance") (cr_isiK K) (by rfl) T.b_isinstance (by decide +kernel) (pa_cons (pv 0) (pa_cons (pe_ty (n := "dict") (by rfl) T.b_dict (by decide +kernel)) (pa_nil))))) (pss_never) (pss_nil))
      (pss_cons (ps_if (pt_not (pt_val (pe_callB (id := "isinstance") (cr_isiTK K) (by rfl) T.b_isinstance (by decide +kernel) (pa_cons (pv 0) (pa_cons (pe_tup (pa_cons (pe_ty (n := "list") (by rfl) T.b_list (by decide +kernel)) (pa_cons (pe_ty (n := "tuple") (by rfl) T.b_tuple (by decide +kernel)) (pa_nil)))) (pa_nil)))))) (pss_one (ps_ret (pe_non))) (pss_nil))
      (pss_cons (ps_if (pt_not (pt_val (pe_callB (id := "all") (cr_allK K rfl) (by rfl) T.b_all (by decide +kernel) (pa_cons (pe_lc (own := [("each", 1)]) rfl sc_pairs_in.nd (pi_seqK K (pv 0)) (blkOk_by (N := N_pairs_in) (sc := defScope s_pairs_in) (own := [("each", 1)]) (by decide +kernel)) (fun _ _ _ _ _ => pg_name (i := 1) sc_pairs_in.nd rfl (Or.inl rfl)) (fun _ _ _ _ _ => pts_nil) (fun _ _ _ _ _ => pe_and (pe_callB (id := "isinstance") (cr_isiTK K) (by rfl) T.b_isinstance (by decide +kernel) (pa_cons (pv 1) (pa_cons (pe_tup (pa_cons (pe_ty (n := "list") (by rfl) T.b_list (by decide +kernel)) (pa_cons (pe_ty (n := "tuple") (by rfl) T.b_tuple (by decide +kernel)) (pa_nil)))) (pa_nil)))) (pe_one (pe_cmpR op_eq (pe_callB (id := "len") (cr_lenK K) (by rfl) T.b_len (by decide +kernel) (pa_cons (pv 1) (pa_nil))) (pe_int) (nomark _))))) (pa_nil))))) (pss_one (ps_ret (pe_non))) (pss_nil))
      (pss_cons (ps_if ((pw_or (pt_not (pt_val (pe_callB (id := "all") (cr_allK K rfl) (by rfl) T.b_all (by decide +kernel) (pa_cons (pe_lc (own := [("each", 1)]) rfl sc_pairs_in.nd (pi_seqK K (pv 0)) (blkOk_by (N := N_pairs_in) (sc := defScope s_pairs_in) (own := [("each", 1)]) (by decide +kernel)) (fun _ _ _ _ _ => pg_name (i := 1) sc_pairs_in.nd rfl (Or.inl rfl)) (fun _ _ _ _ _ => pts_nil) (fun _ _ _ _ _ => pe_c c_is_integer hr (by decide) (by rfl) (pa_cons (pe_ix (ix_seqK K) (pv 1) (pe_int) (fun _ _ => rfl)) (pa_nil)))) (pa_nil))))) (pw_or1 (pt_cmpR op_ne (pe_lenSet hr.units rfl (by rfl) T.b_len (by rfl) T.b_set (pe_lc (own := [("each", 1)]) rfl sc_pairs_in.nd (pi_seqK K (pv 0)) (blkOk_by (N := N_pairs_in) (sc := defScope s_pairs_in) (own := [("each", 1)]) (by decide +kernel)) (fun _ _ _ _ _ => pg_name (i := 1) sc_pairs_in.nd rfl (Or.inl rfl)) (fun _ _ _ _ _ => pts_nil) (fun _ _ _ _ _ => pe_ix (ix_seqK K) (pv 1) (pe_int) (fun _ _ => rfl)))) (pe_callB (id := "len") (cr_lenK K) (by rfl) T.b_len (by decide +kernel) (pa_cons (pv 0) (pa_nil))) (nomark _)))).pt) (pss_one (ps_ret (pe_non))) (pss_nil))
      (pss_one (ps_ret (pe_lc (own := [("each", 1)]) rfl sc_pairs_in.nd (pi_seqK K (pv 0)) (blkOk_by (N := N_pairs_in) (sc := defScope s_pairs_in) (own := [("each", 1)]) (by decide +kernel)) (fun _ _ _ _ _ => pg_name (i := 1) sc_pairs_in.nd rfl (Or.inl rfl)) (fun _ _ _ _ _ => pts_nil) (fun _ _ _ _ _ => pe_callTy (T := "tuple") (cr_tupleK K) (by rfl) T.b_tuple (by decide +kernel) (pa_cons (pv 1) (pa_nil))))))))), ?_⟩
    have s0 : vS (x.map pD) v0 H := vS_L p0
    have lx : x.length ≤ 50000 := by have := hx.2; omega
    refine q_if (et_v (e_isi (ep_var rfl (mL _) p0) (mL _) fun v H1 p => ⟨_, ty_lst p, k_list_dict⟩)) fun H1 e1 => ?_
    refine q_if (et_not (a := true) (et_v (e_isLT (ds := x.map pD) (ep_var rfl (mS _) (mS _ _ _ _ e1 s0))))) fun H2 e2 => ?_
    have s2 := mS _ _ _ _ (e1.trans e2) s0
    refine q_if (et_not (a := true) (et_v (EvP.isB (e_all (xs := x) (p := fun _ => true) (lc_N1 (enc := pD) (fun _ => .bool true) (src_S (ep_var rfl (mS _) s2)) lx (fun _ => rfl) fun a y H1 m e i => e_and (a := true) (e_isLT (ds := [dN a.1, dN a.2]) (ep_var rfl (mS _) (vS_I i))) fun _ => EvP.isB (e_eqI (e_len (ep_var rfl (mS _) (vS_I i))) ec_i) rfl)) (by simp)))) fun H3 e3 => ?_
    have s3 := mS _ _ _ _ e3 s2
    refine q_if (et_isb (et_or (a := false) (b := false) (et_not (a := true) (et_v (EvP.isB (e_all (xs := x) (p := fun _ => true) (lc_N1 (enc := pD) (fun _ => .bool true) (src_S (ep_var rfl (mS _) s3)) lx (fun _ => rfl) fun a y H1 m e i => ep_callF (a.1 : Int) (ea_1 (mI _) (e_ix (n := 0) (ds := [dN a.1, dN a.2]) (ep_var rfl (mS _) (vS_I i)) ec_i rfl)))) (by simp)))) fun _ => et_isb (et_t (e_neI (e_lenSetN (ns := x.map (·.1)) (vSL (EvP.isL (lc_N1 (enc := pD) (fun a => dN a.1) (src_S (ep_var rfl (mS _) s3)) lx (fun _ => rfl) fun a y H1 m e i => e_ix (n := 0) (ds := [dN a.1, dN a.2]) (ep_var rfl (mS _) (vS_I i)) ec_i rfl) (by rw [List.map_map]; rfl))) (by rw [List.length_map]; exact hx.2) hx.1) (e_len (ep_var rfl (mS _) s3)))) (by rw [List.length_map, List.length_map, decide_eq_true rfl]; rfl)) rfl) fun H4 e4 => ?_
    have s4 := mS _ _ _ _ e4 s3
    exact s_retP (P := vL (x.map pD)) (lc_N1 (enc := pD) pD (src_S (ep_var rfl (mS _) s4)) lx (fun _ => rfl) fun a y H1 m e i => e_tuple (ds := [dN a.1, dN a.2]) (ep_var rfl (mS _) (vS_I i))) fun v H5 e p => k v H5 ((((e1.trans e2).trans e3).trans e4).trans e) p
/-! ### turns_from -/
abbrev sp_turns_from : Sp := spP (fun x : List (Nat × Nat) × List Nat => x.1.map (·.1) = x.2 ∧ x.2.Pairwise (· < ·) ∧ x.1.length < 64 ∧ ∀ p ∈ x.1, p.2 < 8) (fun x => a2 (vL (x.1.map pD)) (vI (.tuple (x.2.map dN)))) fun x => vI (.tuple (x.1.map pD))
theorem c_turns_from (T : Txt K mg c) : Cal P w K mg base 4 "turns_from" (sp_turns_from) [] := by
  have c_is_turn := c_is_turn (P := P) (w := w) (base := base) T
  have c_is_within := c_is_within (P := P) (w := w) (base := base) T
  have c_pairs_in := c_pairs_in (P := P) (w := w) (base := base) T
  refine mkCal T.d_turns_from sc_turns_from (fun _ _ _ _ _ _ us hl => match us, hl with | [_, _], _ => rfl) (fun vs H Q E h => ?_) (fun f cdv A outer s H vs Q E hr h => ?_)
  · obtain ⟨x, hx, a, _⟩ := h
    obtain ⟨v0, v1, rfl, _⟩ := a2o a
    rfl
  · obtain ⟨x, hx, a, k⟩ := h
    obtain ⟨v0, v1, rfl, p0, p1⟩ := a2o a
    have hu := hu_of hr
    refine ⟨_, pss_cons (ps_set (i := 2) sc_turns_from.nd rfl (Or.inl rfl) (pe_c c_pairs_in hr (by decide) (by rfl) (pa_cons (pv 0) (pa_nil))))
      (pss_cons (ps_if ((pw_or (pt_cmpR op_isN (pv 2) (pe_non) (nomark _)) (pw_or1 (pt_not (pt_val (pe_callB (id := "all") (cr_allK K rfl) (by rfl) T.b_all (by decide +kernel) (pa_cons (pe_lc (own := [("thing", 3), ("turn", 5)]) rfl sc_turns_from.nd (pi_seqK K (pv 2)) (blkOk_by (N := N_turns_from) (sc := defScope s_turns_from) (own := [("thing", 3), ("turn", 5)]) (by decide +kernel)) (fun _ _ _ _ _ => pg_tupK K (n := 2) rfl (pgs_cons (pg_name (i := 3) sc_turns_from.nd rfl (Or.inl rfl)) (pgs_cons (pg_name (i := 5) sc_turns_from.nd rfl (Or.inl rfl)) (pgs_nil)))) (fun _ _ _ _ _ => pts_nil) (fun _ _ _ _ _ => pe_and (pe_c c_is_within hr (by decide) (by rfl) (pa_cons (pv 3) (pa_cons (pe_int) (pa_cons (pe_non) (pa_nil))))) (pe_one (pe_c c_is_turn hr (by decide) (by rfl) (pa_cons (pv 5) (pa_nil)))))) (pa_nil))))))).pt) (pss_one (ps_never)) (pss_nil))
      (pss_cons (ps_if (pt_cmpR (op_neDK K hr.units) (pe_callB (id := "sorted") (cr_sortD hr) (by rfl) T.b_sorted (by decide +kernel) (pa_cons (pe_lc (own := [("thing", 3), ("_", 4)]) rfl sc_turns_from.nd (pi_seqK K (pv 2)) (blkOk_by (N := N_turns_from) (sc := defScope s_turns_from) (own := [("thing", 3), ("_", 4)]) (by decide +kernel)) (fun _ _ _ _ _ => pg_tupK K (n := 2) rfl (pgs_cons (pg_name (i := 3) sc_turns_from.nd rfl (Or.inl rfl)) (pgs_cons (pg_name (i := 4) sc_turns_from.nd rfl (Or.inl rfl)) (pgs_nil)))) (fun _ _ _ _ _ => pts_nil) (fun _ _ _ _ _ => pv 3)) (pa_nil))) (pe_callTy (T := "list") (cr_listK K) (by rfl) T.b_list (by decide +kernel) (pa_cons (pv 1) (pa_nil))) (nomark _)) (pss_one (ps_never)) (pss_nil))
      (pss_one (ps_ret (pe_callTy (T := "tuple") (cr_tupleK K) (by rfl) T.b_tuple (by decide +kernel) (pa_cons (pe_callB (id := "sorted") (cr_sortD hr) (by rfl) T.b_sorted (by decide +kernel) (pa_cons (pv 2) (pa_nil))) (pa_nil))))))), ?_⟩
    obtain ⟨ps, lk⟩ := x
    obtain ⟨e0, asc, l64, t8⟩ := hx
    dsimp only at e0 asc l64 t8 p0 p1
    subst e0
    have lx : ps.length ≤ 50000 := by omega
    have l2 : ps.length ≤ 1000 := by omega
    have nd : (ps.map (·.1)).Nodup := asc.imp fun {a b} h e => by omega
    refine q_set (P := vL (ps.map pD)) (ep_callP ps ⟨nd, l64⟩ (ea_1 (mL _) (ep_var rfl (mL _) p0))) fun v H1 e1 pv => ?_
    have sv := vS_L pv
    refine q_if (et_isb (et_or (a := false) (b := false) (et_t (e_isN (P := vL (ps.map pD)) (ep_var rfl (mL _) pv) (mL _) fun v H1 p => by obtain ⟨q, xs, rfl, _⟩ := p; rfl)) fun _ => et_not (a := true) (et_v (EvP.isB (e_all (xs := ps) (p := fun p => within (p.1 : Int) 0 none && within (p.2 : Int) 0 (some 7)) (lc_P1 (e1 := fun p => dN p.1) (e2 := fun p => dN p.2) (fun p => .bool (within (p.1 : Int) 0 none && within (p.2 : Int) 0 (some 7))) (src_S (enc := pD) (ep_var rfl (mS _) sv)) lx (fun _ _ => rfl) fun a y z H1 m e i1 i2 => e_and (ep_callF ((a.1 : Int), 0, none) (ea1 (mI _) (ei_var rfl i1) (ea1 (mI _) ec_i (ea_1 (mI _) ec_n)))) fun _ => ep_callF (a.2 : Int) (ea_1 (mI _) (ei_var rfl i2)))) (List.all_eq_true.mpr fun p m => by have := t8 p m; simp [within]; omega)))) rfl) fun H2 e2 => ?_
    have s2 := mS _ _ _ _ e2 sv
    refine q_if (et_isb (et_t (e_neLN (ns := ps.map (·.1)) (ms := ps.map (·.1)) (EvP.isL (e_sortN (ns := ps.map (·.1)) (vSL (EvP.isL (lc_P1 (e1 := fun p => dN p.1) (e2 := fun p => dN p.2) (fun p => dN p.1) (src_S (enc := pD) (ep_var rfl (mS _) s2)) lx (fun _ _ => rfl) fun a y z H1 m e i1 i2 => ei_var rfl i1) (by rw [List.map_map]; rfl))) (by rw [List.length_map]; exact l2)) (sortD_nats asc)) (e_list (ep_var rfl (mS _) (vS_I (p1.up (e1.trans e2))))))) (by rw [decide_eq_true rfl]; rfl)) fun H3 e3 => ?_
    have s3 := mS _ _ _ _ e3 s2
    refine s_retP (P := vI (.tuple (ps.map pD))) (EvP.is (e_tuple (vSL (e_sortP (ps := ps) (ep_var rfl (mS _) s3) l2))) ?_) fun v H4 e p => k v H4 (((e1.trans e2).trans e3).trans e) p
    rw [sortD_pairs]
    rw [List.pairwise_map] at asc
    exact asc.imp fun h => Or.inl h
end
end Lk
end

section
set_option Elab.async false
set_option linter.all false
set_option maxRecDepth 100000
set_option maxHeartbeats 4000000
namespace Lk
open PySem PySem.Spec PyProof.Rows L2 Evl PySem.W C8
local macro_rules | `(tactic| walk_at "ex") => `(tactic| first | exact Ex.refl _ | assumption | (refine Ex.trans (H1 := ?g) ?a ?b; (case a => assumption); (case b => walk_at "ex")))
local macro_rules | `(tactic| walk_at "im") => `(tactic| first | assumption | exact Im.int _ | exact Im.bl _ | (refine Im.up (H := ?g) ?a ?b; (case a => assumption); (case b => walk_at "ex")))
local macro_rules | `(tactic| walk_at "ev") => `(tactic| first
  | exact ec_i | exact ec_b | exact ec_s | exact ec_n
  | (refine ei_var rfl ?_; walk_at "im")
  | (refine eo ?_ ?_ <;> walk_at "ev")
  | (refine eoB ?_ ?_ <;> walk_at "ev")
  | (refine e_eqI ?_ ?_ <;> walk_at "ev")
  | (refine e_neI ?_ ?_ <;> walk_at "ev")
  | (refine eu ?_ <;> walk_at "ev")
  | (refine e_not ?_ <;> walk_at "ev"))

section
variable {P : Program} {w : World} {K : PySem.W.Frag} {mg : Str → Option Value} {base : Heap} {c : Cs}
/-! ### Net.__init__ -/
abbrev sp_Net_init : Sp := spI c.net NetD.Ok (fun x => a5 (vI (dN x.n)) (vL (x.ss.map pD)) (vL (([] : List Nat).map dN)) (vL (x.kept.map dN)) (vL (x.ts.map pD))) netF
theorem c_Net (T : Txt K mg c) : Mak P w K mg base 7 "Net" c.net (sp_Net_init (c := c)) [] := by
  have c_is_within := c_is_within (P := P) (w := w) (base := base) T
  have c_strings_from := c_strings_from (P := P) (w := w) (base := base) T
  have c_things_from := c_things_from (P := P) (w := w) (base := base) T
  have c_turns_from := c_turns_from (P := P) (w := w) (base := base) T
  refine mkMak T.m_Net_init T.g_Net sc_Net_init (fun _ _ _ _ _ _ us hl => match us, hl with | [_, _, _, _, _, _], _ => rfl) (fun vs H Q E h => ?_) (fun f cdv A outer s H vs Q E hr h => ?_)
  · obtain ⟨x, a, dx, ws, _, rfl, _, h, _⟩ := h; obtain ⟨_, _, _, _, _, rfl, _⟩ := a5o h; rfl
  · have hu := hu_of hr
    obtain ⟨x, a, dx, ws, ok, rfl, ha, h, k⟩ := h
    obtain ⟨v1, v2, v3, v4, v5, rfl, p1, p2, p3, p4, p5⟩ := a5o h
    have on1 := ok.n1
    have on4 := ok.n4
    refine ⟨_, pss_cons (ps_if (pt_not (pt_val (pe_c c_is_within hr (by decide) (by rfl) (pa_cons (pv 1) (pa_cons (pe_int) (pa_cons (pe_gc rfl T.g_MOST_THINGS_nets) (pa_nil))))))) (pss_one (ps_never)) (pss_nil))
      (pss_cons (ps_fld (pv 0) (pv 1) rfl)
      (pss_cons (ps_fld (pv 0) (pe_c c_strings_from hr (by decide) (by rfl) (pa_cons (pv 2) (pa_cons (pv 1) (pa_nil)))) rfl)
      (pss_cons (ps_fld (pv 0) (pe_c c_things_from hr (by decide) (by rfl) (pa_cons (pv 3) (pa_cons (pv 1) (pa_cons (pe_str) (pa_nil))))) rfl)
      (pss_cons (ps_fld (pv 0) (pe_c c_things_from hr (by decide) (by rfl) (pa_cons (pv 4) (pa_cons (pv 1) (pa_cons (pe_str) (pa_nil))))) rfl)
      (pss_cons (ps_fld (pv 0) (pe_callTy (T := "tuple") (cr_tupleK K) (by rfl) T.b_tuple (by decide +kernel) (pa_cons (pe_lc (own := [("thing", 6)]) rfl sc_Net_init.nd (pi_range1 (by rfl) T.b_range (pa_cons (pv 1) (pa_nil))) (blkOk_by (N := N_Net_init) (sc := defScope s_Net_init) (own := [("thing", 6)]) (by decide +kernel)) (fun _ _ _ _ _ => pg_name (i := 6) sc_Net_init.nd rfl (Or.inl rfl)) (fun _ _ _ _ _ => pts_one (pt_cmpR (op_notInK K) (pv 6) (pe_fldK K (pv 0)) (by rfl))) (fun _ _ _ _ _ => pv 6)) (pa_nil))) rfl)
      (pss_one (ps_fld (pv 0) (pe_c c_turns_from hr (by decide) (by rfl) (pa_cons (pv 5) (pa_cons (pe_fldK K (pv 0)) (pa_nil)))) rfl))))))), ?_⟩
    have i0 : NI a c.net dx [] H := ⟨[], ha, .nil⟩
    refine q_if (et_not (a := true) (et_v (EvP.isB (ep_callF ((x.n : Int), 1, some 120) (ea1 (mI _) (ei_var rfl p1) (ea1 (mI _) ec_i (ea_1 (mI _) (eiI ev_c))))) (by simp [within]; omega)))) fun H1 e1 => ?_
    have kx1 : Kx a H H1 := Kx.of e1
    refine q_ni (ei_var rfl (p1.up e1)) (ev_var rfl) (i0.up e1) T.cl_Net T.nNet_things (by show 0 < 1000; omega) fun H2 k2 i2 => ?_
    have kx2 := kx1.trans k2
    refine q_ni (d := .tuple (x.ss.map pD)) (EvP.is (d := .tuple (sortD (x.ss.map pD))) (ep_callP (x.ss, x.n) ⟨ok.sn, ok.sz, ok.sl⟩ (ea1 (mL _) (ep_var rfl (mL _) (i0.l kx2 p2)) (ea_1 (mI _) (ei_var rfl (i0.im kx2 p1))))) (by rw [sortD_pairs ok.ss])) (ev_var rfl) i2 T.cl_Net T.nNet_strings (by show 1 < 1000; omega) fun H3 k3 i3 => ?_
    have kx3 := kx2.trans k3
    refine q_ni (d := .tuple (([] : List Nat).map dN)) (ep_callP (([] : List Nat), x.n, ("given" : Str)) ⟨List.nodup_nil, by show 0 < 64; omega, fun _ m => by cases m⟩ (ea1 (mL _) (ep_var rfl (mL _) (i0.l kx3 p3)) (ea1 (mI _) (ei_var rfl (i0.im kx3 p1)) (ea_1 (mI _) ec_s)))) (ev_var rfl) i3 T.cl_Net T.nNet_given (by show 2 < 1000; omega) fun H4 k4 i4 => ?_
    have kx4 := kx3.trans k4
    refine q_ni (d := .tuple (x.kept.map dN)) (ep_callP (x.kept, x.n, ("kept" : Str)) ⟨ok.kn, ok.kz, ok.kl⟩ (ea1 (mL _) (ep_var rfl (mL _) (i0.l kx4 p4)) (ea1 (mI _) (ei_var rfl (i0.im kx4 p1)) (ea_1 (mI _) ec_s)))) (ev_var rfl) i4 T.cl_Net T.nNet_kept (by show 3 < 1000; omega) fun H5 k5 i5 => ?_
    have kx5 := kx4.trans k5
    refine q_ni (d := .tuple (x.looked.map dN)) (e_tuple (vSL (lc_N (enc := dN) (fun t => !decide (t ∈ x.kept)) dN (src_rng (src_R1 (ea_1 (mI _) (ei_var rfl (i0.im kx5 p1))) (by omega))) (by rw [List.length_range]; omega) (fun _ => rfl) (fun t y H6 m e i => et_t (e_ninN (ei_var rfl i) (vST (e_fo (ep_var rfl (mO _ _) (i5.up e).o) T.cl_Net T.nNet_kept rfl)))) fun t y H6 m ht e i => ei_var rfl i))) (ev_var rfl) i5 T.cl_Net T.nNet_looked (by show 4 < 1000; omega) fun H6 k6 i6 => ?_
    have kx6 := kx5.trans k6
    refine s_ni (d := .tuple (x.ts.map pD)) (ep_callP (x.ts, x.looked) ⟨ok.tl, x.looked_asc, ok.tz, ok.t8⟩ (ea1 (mL _) (ep_var rfl (mL _) (i0.l kx6 p5)) (ea_1 (mI _) (e_fo (ep_var rfl (mO _ _) i6.o) T.cl_Net T.nNet_looked rfl)))) (ev_var rfl) i6 T.cl_Net T.nNet_turns (by show 5 < 1000; omega) fun H7 k7 i7 => ?_
    exact k _ (kx6.trans k7) i7
end
end Lk
end

section
set_option Elab.async false
set_option linter.all false
set_option maxRecDepth 100000
set_option maxHeartbeats 4000000
namespace Lk
open PySem PySem.Spec PyProof.Rows L2 Evl PySem.W C8
local macro_rules | `(tactic| walk_at "ex") => `(tactic| first | exact Ex.refl _ | assumption | (refine Ex.trans (H1 := ?g) ?a ?b; (case a => assumption); (case b => walk_at "ex")))
local macro_rules | `(tactic| walk_at "im") => `(tactic| first | assumption | exact Im.int _ | exact Im.bl _ | (refine Im.up (H := ?g) ?a ?b; (case a => assumption); (case b => walk_at "ex")))
local macro_rules | `(tactic| walk_at "ev") => `(tactic| first
  | exact ec_i | exact ec_b | exact ec_s | exact ec_n
  | (refine ei_var rfl ?_; walk_at "im")
  | (refine eo ?_ ?_ <;> walk_at "ev")
  | (refine eoB ?_ ?_ <;> walk_at "ev")
  | (refine e_eqI ?_ ?_ <;> walk_at "ev")
  | (refine e_neI ?_ ?_ <;> walk_at "ev")
  | (refine eu ?_ <;> walk_at "ev")
  | (refine e_not ?_ <;> walk_at "ev"))

section
variable {P : Program} {w : World} {K : PySem.W.Frag} {mg : Str → Option Value} {base : Heap} {c : Cs}
def maskN (ts : List Nat) : Nat := (ts.map (2 ^ ·)).sum
def thingsN (m : Nat) : List Nat := (List.range (bitsN m)).filter fun t => decide (m / 2 ^ t &&& 1 = 1)
def stepM (l : List Nat) (p : Nat × Nat) : List Nat :=
  let l1 := l.set p.1 (l.getD p.1 0 ||| 2 ^ p.2)
  l1.set p.2 (l1.getD p.2 0 ||| 2 ^ p.1)
def masksN (n : Nat) (ss : List (Nat × Nat)) : List Nat := ss.foldl stepM (List.replicate n 0)
theorem stepM_len (l : List Nat) (p : Nat × Nat) : (stepM l p).length = l.length := by
  unfold stepM
  simp
theorem sum_cast (ts : List Nat) : (ts.map fun t => ((2 ^ t : Nat) : Int)).sum = (maskN ts : Int) := by
  unfold maskN
  induction ts with
  | nil => rfl
  | cons t r ih => rw [List.map_cons, List.map_cons, List.sum_cons, List.sum_cons, ih, Int.natCast_add]
theorem bitsN_le {m k : Nat} (h : m < 2 ^ k) : bitsN m ≤ k := by
  unfold bitsN
  by_cases e : m = 0
  · rw [if_pos e]; exact Nat.zero_le _
  · rw [if_neg e]
    exact (Nat.log2_lt e).mpr h
theorem getD_some {l : List Nat} {i : Nat} (h : i < l.length) : (l.map dN)[i]? = some (dN (l.getD i 0)) := by
  rw [List.getElem?_map, List.getElem?_eq_getElem h, List.getD_eq_getElem?_getD, List.getElem?_eq_getElem h]
  rfl
/-! ### mask_of -/
abbrev sp_mask_of : Sp := spP (fun ts : List Nat => ts.length ≤ 50000 ∧ ∀ t ∈ ts, t ≤ 1000) (fun ts => a1 (vS (ts.map dN))) fun ts => vI (dN (maskN ts))
theorem c_mask_of (T : Txt K mg c) : Cal P w K mg base 1 "mask_of" (sp_mask_of) [] := by
  refine mkCal T.d_mask_of sc_mask_of (fun _ _ _ _ _ _ us hl => match us, hl with | [_], _ => rfl) (fun vs H Q E h => ?_) (fun f cdv A outer s H vs Q E hr h => ?_)
  · obtain ⟨x, hx, a, _⟩ := h
    obtain ⟨v0, rfl, _⟩ := a1o a
    rfl
  · obtain ⟨x, hx, a, k⟩ := h
    obtain ⟨v0, rfl, p0⟩ := a1o a
    have hu := hu_of hr
    refine ⟨_, pss_one (ps_ret (pe_callB (id := "sum") (cr_sumK K rfl) (by rfl) T.b_sum (by decide +kernel) (pa_cons (pe_lc (own := [("thing", 1)]) rfl sc_mask_of.nd (pi_seqK K (pv 0)) (blkOk_by (N := N_mask_of) (sc := defScope s_mask_of) (own := [("thing", 1)]) (by decide +kernel)) (fun _ _ _ _ _ => pg_name (i := 1) sc_mask_of.nd rfl (Or.inl rfl)) (fun _ _ _ _ _ => pts_nil) (fun _ _ _ _ _ => pe_op op_shl (pe_int) (pv 1))) (pa_nil)))), ?_⟩
    exact s_retP (P := vI (dN (maskN x))) (EvP.isI (e_sum (xs := x) (f := fun t => ((2 ^ t : Nat) : Int)) (lc_N1 (enc := dN) (fun t => dN (2 ^ t)) (src_S (ep_var rfl (mS _) p0)) hx.1 (fun _ => rfl) fun t y H1 m e i => e_shl1 (ei_var rfl i) (by have := hx.2 t m; omega))) (sum_cast x)) fun v H1 e p => k v H1 e p
/-! ### things_of -/
abbrev sp_things_of : Sp := spP (fun m : Nat => m < 2 ^ 40) (fun m => a1 (vI (dN m))) fun m => vI (.tuple ((thingsN m).map dN))
theorem c_things_of (T : Txt K mg c) : Cal P w K mg base 1 "things_of" (sp_things_of) [] := by
  refine mkCal T.d_things_of sc_things_of (fun _ _ _ _ _ _ us hl => match us, hl with | [_], _ => rfl) (fun vs H Q E h => ?_) (fun f cdv A outer s H vs Q E hr h => ?_)
  · obtain ⟨x, hx, a, _⟩ := h
    obtain ⟨v0, rfl, _⟩ := a1o a
    rfl
  · obtain ⟨x, hx, a, k⟩ := h
    obtain ⟨v0, rfl, p0⟩ := a1o a
    have hu := hu_of hr
    refine ⟨_, pss_one (ps_ret (pe_callTy (T := "tuple") (cr_tupleK K) (by rfl) T.b_tuple (by decide +kernel) (pa_cons (pe_lc (own := [("thing", 1)]) rfl sc_things_of.nd (pi_range1 (by rfl) T.b_range (pa_cons (pe_bits (pv 0)) (pa_nil))) (blkOk_by (N := N_things_of) (sc := defScope s_things_of) (own := [("thing", 1)]) (by decide +kernel)) (fun _ _ _ _ _ => pg_name (i := 1) sc_things_of.nd rfl (Or.inl rfl)) (fun _ _ _ _ _ => pts_one (pt_cmpR op_eq (pe_op op_and (pe_op op_shr (pv 0) (pv 1)) (pe_int)) (pe_int) (nomark _))) (fun _ _ _ _ _ => pv 1)) (pa_nil)))), ?_⟩
    have hb := bitsN_le hx
    exact s_retP (P := vI (.tuple ((thingsN x).map dN))) (e_tuple (vSL (lc_N (enc := dN) (fun t => decide (x / 2 ^ t &&& 1 = 1)) dN (src_rng (src_R1 (ea_1 (mI _) (e_bitsN (ei_var rfl p0))) (by omega))) (by rw [List.length_range]; omega) (fun _ => rfl) (fun t y H1 m e i => et_isb (et_t (e_eqI (e_andN (e_shrN (ei_var rfl (p0.up e)) (ei_var rfl i)) ec_i) ec_i)) (by rw [decide_eq_decide]; exact ⟨fun h => Int.ofNat.inj h, fun h => congrArg Int.ofNat h⟩)) fun t y H1 m ht e i => ei_var rfl i))) fun v H1 e p => k v H1 e p
/-! ### free_of -/
abbrev sp_free_of : Sp := spP (fun x : NetD × List Nat => x.2.length ≤ 50000) (fun x => a2 (vNet c x.1) (vS (x.2.map dN))) fun x => vL (x.2.map dN)
theorem c_free_of (T : Txt K mg c) : Cal P w K mg base 1 "free_of" (sp_free_of (c := c)) [] := by
  refine mkCal T.d_free_of sc_free_of (fun _ _ _ _ _ _ us hl => match us, hl with | [_, _], _ => rfl) (fun vs H Q E h => ?_) (fun f cdv A outer s H vs Q E hr h => ?_)
  · obtain ⟨x, hx, a, _⟩ := h
    obtain ⟨v0, v1, rfl, _⟩ := a2o a
    rfl
  · obtain ⟨x, hx, a, k⟩ := h
    obtain ⟨v0, v1, rfl, p0, p1⟩ := a2o a
    have hu := hu_of hr
    refine ⟨_, pss_one (ps_ret (pe_lc (own := [("thing", 2)]) rfl sc_free_of.nd (pi_seqK K (pv 1)) (blkOk_by (N := N_free_of) (sc := defScope s_free_of) (own := [("thing", 2)]) (by decide +kernel)) (fun _ _ _ _ _ => pg_name (i := 2) sc_free_of.nd rfl (Or.inl rfl)) (fun _ _ _ _ _ => pts_one (pt_cmpR (op_notInK K) (pv 2) (pe_fldK K (pv 0)) (by rfl))) (fun _ _ _ _ _ => pv 2))), ?_⟩
    refine s_retP (P := vL (x.2.map dN)) (EvP.isL (lc_N (enc := dN) (fun t => !decide (t ∈ ([] : List Nat))) dN (src_S (ep_var rfl (mS _) p1)) hx (fun _ => rfl) (fun t y H1 m e i => et_t (e_ninN (ei_var rfl i) (vST (n_given T (ep_var rfl (mO _ _) (mO _ _ _ _ _ e p0)))))) fun t y H1 m ht e i => ei_var rfl i) ?_) fun v H1 e p => k v H1 e p
    exact congrArg (List.map dN) (List.filter_eq_self.mpr fun _ _ => by simp)
/-! ### masks_of -/
abbrev sp_masks_of : Sp := spP (fun x : NetD => x.Ok) (fun x => a1 (vNet c x)) fun x => vL ((masksN x.n x.ss).map dN)
theorem c_masks_of (T : Txt K mg c) : Cal P w K mg base 1 "masks_of" (sp_masks_of (c := c)) [] := by
  refine mkCal T.d_masks_of sc_masks_of (fun _ _ _ _ _ _ us hl => match us, hl with | [_], _ => rfl) (fun vs H Q E h => ?_) (fun f cdv A outer s H vs Q E hr h => ?_)
  · obtain ⟨x, hx, a, _⟩ := h
    obtain ⟨v0, rfl, _⟩ := a1o a
    rfl
  · obtain ⟨x, hx, a, k⟩ := h
    obtain ⟨v0, rfl, p0⟩ := a1o a
    have hu := hu_of hr
    refine ⟨_, pss_cons (ps_set (i := 1) sc_masks_of.nd rfl (Or.inl rfl) (pe_op op_rep (pe_lst (pa_cons (pe_int) (pa_nil))) (pe_fldK K (pv 0))))
      (pss_cons (ps_for PassesOwn.never rfl (pi_seqK K (pe_fldK K (pv 0))) (pg_tupK K (n := 2) rfl (pgs_cons (pg_name (i := 2) sc_masks_of.nd rfl (Or.inl rfl)) (pgs_cons (pg_name (i := 3) sc_masks_of.nd rfl (Or.inl rfl)) (pgs_nil))))
      (pss_cons (ps_asg (pe_op op_or (pe_ix (ix_seqK K) (pv 1) (pv 2) (fun _ _ => rfl)) (pe_op op_shl (pe_int) (pv 3))) (pg_sub (pv 1) (pv 2) set_list))
      (pss_one (ps_asg (pe_op op_or (pe_ix (ix_seqK K) (pv 1) (pv 3) (fun _ _ => rfl)) (pe_op op_shl (pe_int) (pv 2))) (pg_sub (pv 1) (pv 3) set_list)))))
      (pss_one (ps_ret (pv 1)))), ?_⟩
    have n4 := hx.n4
    refine q_new (ds := List.replicate x.n (dN 0)) (ep_repF (d := dN 0) ec_i (n_things T (ep_var rfl (mO _ _) p0)) (by omega)) fun p xs H1 e1 hn h1 im => ?_
    refine q_for (xs := x.ss) (enc := pD) (st_T (n_strings T (ep_var rfl (mO _ _) (mO _ _ _ _ _ e1 p0)))) fun H2 e2 => ⟨fun l σ' H' => ∃ o2 o3 ys ns, σ' = [some v0, some (.ref p), o2, o3] ∧ Ex H H' ∧ H' p = some (.lst ys) ∧ ImAll H' ys (ns.map dN) ∧ ns.length = x.n ∧ ns = l.foldl stepM (List.replicate x.n 0), ⟨_, _, xs, _, rfl, e1.trans e2, e2 _ _ h1, by rw [List.foldl_nil, List.map_replicate]; exact im.up e2, List.length_replicate, rfl⟩, ?_, ?_⟩
    · intro l a r y σ' H' G hl tx pv ex im2
      obtain ⟨o2, o3, ys, ns, rfl, eH, hp, hi, ln, hf⟩ := pv
      have am : a ∈ x.ss := by rw [hl]; exact List.mem_append_right _ List.mem_cons_self
      have ab := hx.sl a am
      refine g_pair im2 fun u w iu iw => ?_
      have hp1 := ex _ _ hp
      have ly : ys.length = x.n := by rw [hi.len, List.length_map, ln]
      have l1 : a.1 < ns.length := by omega
      have l2 : a.2 < ns.length := by omega
      have sG : vS (ns.map dN) (.ref p) G := ⟨p, ys, rfl, .inl hp1, hi.up ex⟩
      refine q_setP (j := a.1) hp1 (e_orN (e_ix (ep_var rfl (mS _) sG) (ei_var rfl iu) (getD_some l1)) (e_shl1 (ei_var rfl iw) (by omega))) (mI _) (ev_var rfl) (ei_var rfl iu) (by omega) fun v H3 e3 pv => ?_
      have t3 : Tx G (upd H3 p (.lst (ys.set a.1 v))) := (Tx.of e3).trans (Tx.lst (e3 _ _ hp1))
      have t3' : Tx H3 (upd H3 p (.lst (ys.set a.1 v))) := Tx.lst (e3 _ _ hp1)
      have e3' : Ex H (upd H3 p (.lst (ys.set a.1 v))) := ((eH.trans ex).trans e3).mut hn
      have hp3 : (upd H3 p (.lst (ys.set a.1 v))) p = some (.lst (ys.set a.1 v)) := upd_same
      have i3 : ImAll (upd H3 p (.lst (ys.set a.1 v))) (ys.set a.1 v) ((ns.set a.1 (ns.getD a.1 0 ||| 2 ^ a.2)).map dN) := by
        rw [List.map_set]
        exact (((hi.up ex).up e3).mv t3').set (Im.mv t3' pv)
      generalize upd H3 p (.lst (ys.set a.1 v)) = H4 at t3 e3' hp3 i3
      have iu4 := iu.mv t3
      have iw4 := iw.mv t3
      have sG4 : vS ((ns.set a.1 (ns.getD a.1 0 ||| 2 ^ a.2)).map dN) (.ref p) H4 := ⟨p, _, rfl, .inl hp3, i3⟩
      refine s_setP (j := a.2) hp3 (e_orN (e_ix (ep_var rfl (mS _) sG4) (ei_var rfl iw4) (getD_some (by rw [List.length_set]; exact l2))) (e_shl1 (ei_var rfl iu4) (by omega))) (mI _) (ev_var rfl) (ei_var rfl iw4) (by rw [List.length_set]; omega) fun v2 H5 e5 pv5 => ?_
      have t5 : Tx H5 (upd H5 p (.lst ((ys.set a.1 v).set a.2 v2))) := Tx.lst (e5 _ _ hp3)
      refine ⟨(((tx.trans (Tx.of ex)).trans t3).trans (Tx.of e5)).trans t5, _, _, _, stepM ns a, rfl, (e3'.trans e5).mut hn, upd_same, ?_, by rw [stepM_len]; exact ln, by rw [List.foldl_append, ← hf]; rfl⟩
      show ImAll _ _ (((ns.set a.1 (ns.getD a.1 0 ||| 2 ^ a.2)).set a.2 _).map dN)
      rw [List.map_set]
      exact ((i3.up e5).mv t5).set (Im.mv t5 pv5)
    · rintro σ' H' tx ⟨o2, o3, ys, ns, rfl, eH, hp, hi, ln, hf⟩
      have sL : vL ((masksN x.n x.ss).map dN) (.ref p) H' := ⟨p, ys, rfl, hp, by unfold masksN; rw [← hf]; exact hi⟩
      exact s_retP (P := vL ((masksN x.n x.ss).map dN)) (ep_var rfl (mL _) sL) fun v H6 e6 p6 => k v H6 (eH.trans e6) p6
end
end Lk
end

section
set_option Elab.async false
set_option linter.all false
set_option maxRecDepth 100000
set_option maxHeartbeats 4000000
namespace Lk
open PySem PySem.Spec PyProof.Rows L2 Evl PySem.W C8
local macro_rules | `(tactic| walk_at "ex") => `(tactic| first | exact Ex.refl _ | assumption | (refine Ex.trans (H1 := ?g) ?a ?b; (case a => assumption); (case b => walk_at "ex")))
local macro_rules | `(tactic| walk_at "im") => `(tactic| first | assumption | exact Im.int _ | exact Im.bl _ | (refine Im.up (H := ?g) ?a ?b; (case a => assumption); (case b => walk_at "ex")))
local macro_rules | `(tactic| walk_at "ev") => `(tactic| first
  | exact ec_i | exact ec_b | exact ec_s | exact ec_n
  | (refine ei_var rfl ?_; walk_at "im")
  | (refine eo ?_ ?_ <;> walk_at "ev")
  | (refine eoB ?_ ?_ <;> walk_at "ev")
  | (refine e_eqI ?_ ?_ <;> walk_at "ev")
  | (refine e_neI ?_ ?_ <;> walk_at "ev")
  | (refine eu ?_ <;> walk_at "ev")
  | (refine e_not ?_ <;> walk_at "ev"))

section
variable {P : Program} {w : World} {K : PySem.W.Frag} {mg : Str → Option Value} {base : Heap} {c : Cs}
def clearedN : Nat → List (Nat × (Nat × Nat)) → Nat → Nat → Nat × Nat
  | 0, _, v, m => (v, m)
  | f + 1, rows, v, m => if v = 0 then (v, m) else match getA rows (bitsN v) with
    | some r => clearedN f rows (xorN v r.1) (xorN m r.2)
    | none => (v, m)
def RowsOk (rows : List (Nat × (Nat × Nat))) : Prop := ∀ r ∈ rows, bitsN r.2.1 = r.1 ∧ r.2.1 < 32
theorem xor_small : ∀ v < 32, ∀ i < 32, xorN v i < 32 ∧ (bitsN i = bitsN v → v ≠ 0 → bitsN (xorN v i) < bitsN v) := by decide +kernel
theorem bits_pos {v : Nat} (h : v ≠ 0) : 0 < bitsN v := by
  unfold bitsN
  rw [if_neg h]
  exact Nat.succ_pos _
theorem bits_small : ∀ v < 32, bitsN v ≤ 5 := by decide +kernel
theorem clearedN_lt {rows : List (Nat × (Nat × Nat))} (ok : RowsOk rows) : ∀ (f v m : Nat), v < 32 → (clearedN f rows v m).1 < 32
  | 0, _, _, h => h
  | f + 1, v, m, h => by
    unfold clearedN
    by_cases z : v = 0
    · rw [if_pos z]; exact h
    · rw [if_neg z]
      cases g : getA rows (bitsN v) with
      | none => exact h
      | some r =>
        obtain ⟨_, q⟩ := ok _ (getA_mem g)
        exact clearedN_lt ok f _ _ (xor_small v h r.1 q).1
def rowStep (a : List (Nat × (Nat × Nat)) × List Nat) (p : Nat × Nat) : List (Nat × (Nat × Nat)) × List Nat :=
  let r := clearedN 64 a.1 p.1 p.2
  if r.1 = 0 then (a.1, a.2 ++ [r.2]) else (putA a.1 (bitsN r.1) r, a.2)
def rowsN (ps : List (Nat × Nat)) : List (Nat × (Nat × Nat)) × List Nat := ps.foldl rowStep ([], [])
theorem rowStep_ok {a : List (Nat × (Nat × Nat)) × List Nat} {p : Nat × Nat} (ok : RowsOk a.1) (h : p.1 < 32) : RowsOk (rowStep a p).1 := by
  unfold rowStep
  by_cases z : (clearedN 64 a.1 p.1 p.2).1 = 0
  · rw [if_pos z]; exact ok
  · rw [if_neg z]
    intro r m
    rcases mem_putA m with e | m
    · rw [e]; exact ⟨rfl, clearedN_lt ok _ _ _ h⟩
    · exact ok r m
theorem rowStep_len (a : List (Nat × (Nat × Nat)) × List Nat) (p : Nat × Nat) : (rowStep a p).1.length + (rowStep a p).2.length ≤ a.1.length + a.2.length + 1 := by
  unfold rowStep
  by_cases z : (clearedN 64 a.1 p.1 p.2).1 = 0
  · rw [if_pos z, List.length_append]; exact Nat.le_refl _
  · rw [if_neg z]
    have := putA_len (clearedN 64 a.1 p.1 p.2) a.1 (bitsN (clearedN 64 a.1 p.1 p.2).1)
    show (putA _ _ _).length + a.2.length ≤ _
    omega
/-- a dict of rows -/
abbrev vRows (rows : List (Nat × (Nat × Nat))) : VP := vD (encA pD rows)
/-! ### cleared -/
abbrev sp_cleared : Sp := spP (fun x : List (Nat × (Nat × Nat)) × Nat × Nat => RowsOk x.1 ∧ x.2.1 < 32) (fun x => a3 (vRows x.1) (vI (dN x.2.1)) (vI (dN x.2.2))) fun x => vI (pD (clearedN 64 x.1 x.2.1 x.2.2))
theorem c_cleared (T : Txt K mg c) : Cal P w K mg base 1 "cleared" (sp_cleared) [] := by
  refine mkCal T.d_cleared sc_cleared (fun _ _ _ _ _ _ us hl => match us, hl with | [_, _, _], _ => rfl) (fun vs H Q E h => ?_) (fun f cdv A outer s H vs Q E hr h => ?_)
  · obtain ⟨x, hx, a, _⟩ := h
    obtain ⟨v0, v1, v2, rfl, _⟩ := a3o a
    rfl
  · obtain ⟨x, hx, a, k⟩ := h
    obtain ⟨v0, v1, v2, rfl, p0, p1, p2⟩ := a3o a
    have hu := hu_of hr
    refine ⟨_, pss_cons (ps_while PassesOwn.never ((pw_and (pt_cmpR op_gt (pv 1) (pe_int) (nomark _)) (pw_and1 (pt_cmp (pc_din hu (pe_bits (pv 1)) (pv 0)) (by rfl)))).pt)
      (pss_cons (ps_asg (pe_dget hu (pv 0) (pe_bits (pv 1)) (fun _ _ => rfl)) (pg_tupK K (n := 2) rfl (pgs_cons (pg_name (i := 3) sc_cleared.nd rfl (Or.inl rfl)) (pgs_cons (pg_name (i := 4) sc_cleared.nd rfl (Or.inl rfl)) (pgs_nil)))))
      (pss_one (ps_par (i := 1) (j := 2) rfl sc_cleared.nd rfl rfl (by decide) rfl rfl (pa_cons (pe_op op_xor (pv 1) (pv 3)) (pa_cons (pe_op op_xor (pv 2) (pv 4)) (pa_nil))) (by rfl)))))
      (pss_one (ps_ret (pe_tupZ (pa_cons (pv 1) (pa_cons (pv 2) (pa_nil)))))), ?_⟩
    obtain ⟨rows, v, m⟩ := x
    obtain ⟨ok, hv⟩ := hx
    dsimp only at ok hv p0 p1 p2
    refine q_while (fun f σ' H' => ∃ v' m' o3 o4 w1 w2, σ' = [some v0, some w1, some w2, o3, o4] ∧ Ex H H' ∧ Im H' w1 (dN v') ∧ Im H' w2 (dN m') ∧ v' < 32 ∧ bitsN v' ≤ f ∧ clearedN f rows v' m' = clearedN 64 rows v m) 64 ⟨v, m, _, _, _, _, rfl, Ex.refl _, p1, p2, hv, by have := bits_small v hv; omega, rfl⟩ ?_
    · rintro f σ' H' ⟨v', m', o3, o4, w1, w2, rfl, eH, i1, i2, lt, bl, hc⟩
      have d1 : vRows rows v0 H' := mD _ _ _ _ eH p0
      refine ⟨_, et_and (et_t (eoB (g := fun i j => decide (i > j)) (ei_var rfl i1) ec_i)) fun _ => et_t (e_din (e_bitsN (ei_var rfl i1)) (ep_var rfl (mD _) d1)), fun hb H1 e1 => ?_, fun hb H1 e1 => ?_⟩
      · rw [Bool.and_eq_true, decide_eq_true_eq] at hb
        have nz : v' ≠ 0 := by omega
        have bp := bits_pos nz
        rw [getA_enc, Option.isSome_map] at hb
        obtain ⟨r, hr⟩ := Option.isSome_iff_exists.mp hb.2
        obtain ⟨ok1, ok2⟩ := ok _ (getA_mem hr)
        dsimp only at ok1 ok2
        obtain ⟨x1, x2⟩ := xor_small v' lt r.1 ok2
        cases f with
        | zero => omega
        | succ f =>
          have hc' : clearedN f rows (xorN v' r.1) (xorN m' r.2) = clearedN 64 rows v m := by
            rw [← hc]
            show _ = if v' = 0 then _ else _
            rw [if_neg nz, hr]
          refine ⟨_, fun σ2 H2 n => ⟨f, Nat.lt_succ_self f, n⟩, ?_⟩
          refine q_unp (EvP.imp (e_dget (ep_var rfl (mD _) (mD _ _ _ _ e1 d1)) (e_bitsN (ei_var rfl (i1.up e1))) (by rw [getA_enc, hr]; rfl)) fun v H2 _ p => vP_I p) fun a b H2 e2 ia ib => ?_
          refine s_par (e_xorN (ei_var rfl (i1.up (e1.trans e2))) (ei_var rfl ia)) (e_xorN (ei_var rfl (i2.up (e1.trans e2))) (ei_var rfl ib)) (mI _) fun x y H3 e3 ix iy => ?_
          exact ⟨_, _, _, _, _, _, rfl, ((eH.trans e1).trans e2).trans e3, ix, iy, x1, by have := x2 ok1 nz; omega, hc'⟩
      · have fin : clearedN 64 rows v m = (v', m') := by
          rw [← hc]
          cases f with
          | zero => rfl
          | succ f =>
            show (if v' = 0 then _ else _) = _
            by_cases z : v' = 0
            · rw [if_pos z]
            · rw [if_neg z]
              have : getA rows (bitsN v') = none := by
                rw [getA_enc, Option.isSome_map] at hb
                cases g : getA rows (bitsN v') with
                | none => rfl
                | some r =>
                  rw [g] at hb
                  have : decide ((v' : Int) > 0) = true := decide_eq_true (by omega)
                  rw [this] at hb
                  cases hb
              rw [this]
        have k' : ∀ y H', Ex H H' → vI (pD (v', m')) y H' → Q y H' := fun y H' e p => k y H' e (by show vI (pD (clearedN 64 rows v m)) y H'; rw [fin]; exact p)
        exact s_retP (P := vI (pD (v', m'))) (ep_tup (ea_cons (ei_var rfl (i1.up e1)) (ea_cons (ei_var rfl (i2.up e1)) ea_nil)) (by show 2 ≤ 100000; omega)) fun v H2 e2 p => k' v H2 ((eH.trans e1).trans e2) p
/-! ### rows_of -/
abbrev sp_rows_of : Sp := spN (fun ps : List (Nat × Nat) => ps.length ≤ 1000 ∧ ∀ p ∈ ps, p.1 < 32) (fun ps => a1 (vL (ps.map pD))) fun ps H0 => vP (vDF H0 (encA pD (rowsN ps).1)) (vL ((rowsN ps).2.map dN))
theorem c_rows_of (T : Txt K mg c) : Cal P w K mg base 2 "rows_of" (sp_rows_of) [] := by
  have c_cleared := c_cleared (P := P) (w := w) (base := base) T
  refine mkCal T.d_rows_of sc_rows_of (fun _ _ _ _ _ _ us hl => match us, hl with | [_], _ => rfl) (fun vs H Q E h => ?_) (fun f cdv A outer s H vs Q E hr h => ?_)
  · obtain ⟨x, hx, a, _⟩ := h
    obtain ⟨v0, rfl, _⟩ := a1o a
    rfl
  · obtain ⟨x, hx, a, k⟩ := h
    obtain ⟨v0, rfl, p0⟩ := a1o a
    have hu := hu_of hr
    refine ⟨_, pss_cons (ps_par (i := 1) (j := 2) rfl sc_rows_of.nd rfl rfl (by decide) rfl rfl (pa_cons (pe_dnewK) (pa_cons (pe_lst (pa_nil)) (pa_nil))) (by rfl))
      (pss_cons (ps_for PassesOwn.never rfl (pi_seqK K (pv 0)) (pg_tupK K (n := 2) rfl (pgs_cons (pg_name (i := 3) sc_rows_of.nd rfl (Or.inl rfl)) (pgs_cons (pg_name (i := 4) sc_rows_of.nd rfl (Or.inl rfl)) (pgs_nil))))
      (pss_cons (ps_asg (pe_c c_cleared hr (by decide) (by rfl) (pa_cons (pv 1) (pa_cons (pv 3) (pa_cons (pv 4) (pa_nil))))) (pg_tupK K (n := 2) rfl (pgs_cons (pg_name (i := 3) sc_rows_of.nd rfl (Or.inl rfl)) (pgs_cons (pg_name (i := 4) sc_rows_of.nd rfl (Or.inl rfl)) (pgs_nil)))))
      (pss_one (ps_if (pt_cmpR op_eq (pv 3) (pe_int) (nomark _)) (pss_one (ps_expr (pe_bm PySem.F.plainAttrs_list PySem.F.slot_list_append PySem.F.type_list_append mt_append (pv 2) (pa_cons (pv 4) (pa_nil))))) (pss_one (ps_dput hu (pv 1) (pe_bits (pv 3)) (pe_tupZ (pa_cons (pv 3) (pa_cons (pv 4) (pa_nil)))) rfl))))))
      (pss_one (ps_ret (pe_tupZ (pa_cons (pv 1) (pa_cons (pv 2) (pa_nil))))))), ?_⟩
    obtain ⟨pp, ws, rfl, hpp, imp⟩ := p0
    refine q_par (P := vDF H []) (R := vF H []) ep_dnew ep_nilF (mDF _) fun va vb H1 e1 pa pb => ?_
    obtain ⟨d, kvs, rfl, hnd, hd, imd⟩ := pa
    obtain ⟨q, ys, rfl, hnq, hq, imq⟩ := pb
    refine q_forLv (xs := x) (enc := pD) rfl (e1 _ _ hpp) (imp.up e1) (fun l σ' H' => ∃ o3 o4 kvs ys, σ' = [some (.ref pp), some (.ref d), some (.ref q), o3, o4] ∧ Ex H H' ∧ H' d = some (.dK kvs) ∧ H' q = some (.lst ys) ∧ DkIm H' kvs (encA pD (rowsN l).1) ∧ ImAll H' ys ((rowsN l).2.map dN) ∧ RowsOk (rowsN l).1 ∧ (rowsN l).1.length + (rowsN l).2.length ≤ l.length) ⟨_, _, kvs, ys, rfl, e1, hd, hq, imd, imq, (by intro r m; cases m), Nat.le_refl _⟩ ?_ ?_ ?_
    · rintro l σ' H' ⟨o3, o4, kvs, ys, rfl, eH, _⟩
      exact eH _ _ hpp
    · rintro l a r y σ' H' hl tx ⟨o3, o4, kvs, ys, rfl, eH, hd, hq, imd, imq, ok, ln⟩ im
      have am : a ∈ x := by rw [hl]; exact List.mem_append_right _ List.mem_cons_self
      have lx : l.length ≤ x.length := by rw [hl, List.length_append]; exact Nat.le_add_right _ _
      have hst : rowsN (l ++ [a]) = rowStep (rowsN l) a := by unfold rowsN; rw [List.foldl_append]; rfl
      have ok' := rowStep_ok (p := a) ok (hx.2 a am)
      have ln' := rowStep_len (rowsN l) a
      have x1 := hx.1
      refine g_pair im fun u w iu iw => ?_
      have dD : vRows (rowsN l).1 (.ref d) H' := ⟨d, kvs, rfl, hd, imd⟩
      refine q_unp (EvP.imp (ep_callP ((rowsN l).1, a.1, a.2) ⟨ok, hx.2 a am⟩ (ea1 (mD _) (ep_var rfl (mD _) dD) (ea1 (mI _) (ei_var rfl iu) (ea_1 (mI _) (ei_var rfl iw))))) fun v H2 _ p => vP_I p) fun vx vy H3 e3 ix iy => ?_
      refine s_if (et_t (e_eqN (ei_var rfl ix) ec_i)) (fun hb H4 e4 => ?_) fun hb H4 e4 => ?_
      · have z := of_decide_eq_true hb
        have e : rowStep (rowsN l) a = ((rowsN l).1, (rowsN l).2 ++ [(clearedN 64 (rowsN l).1 a.1 a.2).2]) := if_pos z
        have hq4 := (e3.trans e4) _ _ hq
        refine s_appP (ev_var rfl) hq4 (ei_var rfl (iy.up e4)) (by rw [imq.len, List.length_map]; omega) fun v H5 e5 pv => ?_
        have t5 : Tx H5 (upd H5 q (.lst (ys ++ [v]))) := Tx.lst (e5 _ _ hq4)
        have e34 := (e3.trans e4).trans e5
        have nq : d ≠ q := fun z => by rw [z, hq] at hd; cases hd
        refine ⟨(tx.trans (Tx.of e34)).trans t5, _, _, kvs, _, rfl, (eH.trans e34).mut hnq, by rw [upd_ne nq]; exact e34 _ _ hd, upd_same, ?_, ?_, ?_, ?_⟩
        · rw [hst, e]; exact (imd.mv (Tx.of e34)).mv t5
        · rw [hst, e, List.map_append]
          exact ((imq.up e34).mv t5).app (.cons (Im.mv t5 pv) .nil)
        · rw [hst]; exact ok'
        · rw [hst, List.length_append]; exact Nat.le_trans ln' (Nat.add_le_add_right ln 1)
      · have z := of_decide_eq_false hb
        have e : rowStep (rowsN l) a = (putA (rowsN l).1 (bitsN (clearedN 64 (rowsN l).1 a.1 a.2).1) (clearedN 64 (rowsN l).1 a.1 a.2), (rowsN l).2) := if_neg z
        have hd4 := (e3.trans e4) _ _ hd
        refine s_dput (P := vI (pD (clearedN 64 (rowsN l).1 a.1 a.2))) hd4 (ev_var rfl) (e_bitsN (ei_var rfl (ix.up e4))) (ep_tup (ea_cons (ei_var rfl (ix.up e4)) (ea_cons (ei_var rfl (iy.up e4)) ea_nil)) (by show 2 ≤ 100000; omega)) (mI _) (by rw [imd.len]; unfold encA; rw [List.length_map]; omega) fun v H5 e5 pv => ?_
        have e34 := (e3.trans e4).trans e5
        have nq : q ≠ d := fun z => by rw [z, hd] at hq; cases hq
        have t5 : Tx H5 (upd H5 d (.dK (putK kvs (.inl ((bitsN (clearedN 64 (rowsN l).1 a.1 a.2).1 : Nat) : Int)) v))) := Tx.dic (e5 _ _ hd4)
        refine ⟨(tx.trans (Tx.of e34)).trans t5, _, _, _, ys, rfl, (eH.trans e34).mut hnd, upd_same, by rw [upd_ne nq]; exact e34 _ _ hq, ?_, ?_, ?_, ?_⟩
        · rw [hst, e]
          have q := ((imd.mv (Tx.of e34)).mv t5).put (n := bitsN (clearedN 64 (rowsN l).1 a.1 a.2).1) (Im.mv t5 pv)
          rw [putA_enc] at q
          exact q
        · rw [hst, e]; exact (imq.up e34).mv t5
        · rw [hst]; exact ok'
        · rw [hst, List.length_append]; exact Nat.le_trans ln' (Nat.add_le_add_right ln 1)
    · rintro σ' H' tx ⟨o3, o4, kvs, ys, rfl, eH, hd, hq, imd, imq, ok, ln⟩
      exact s_retP (ep_pair (ep_var rfl (mDF (H0 := H) _) ⟨d, kvs, rfl, hnd, hd, imd⟩) (ep_var rfl (mL _) ⟨q, ys, rfl, hq, imq⟩) (mDF _) (mL _)) fun v H2 e2 p => k v H2 (eH.trans e2) p
end
end Lk
end

section
set_option Elab.async false
set_option linter.all false
set_option maxRecDepth 100000
set_option maxHeartbeats 4000000
namespace Lk
open PySem PySem.Spec PyProof.Rows L2 Evl PySem.W C8
local macro_rules | `(tactic| walk_at "ex") => `(tactic| first | exact Ex.refl _ | assumption | (refine Ex.trans (H1 := ?g) ?a ?b; (case a => assumption); (case b => walk_at "ex")))
local macro_rules | `(tactic| walk_at "im") => `(tactic| first | assumption | exact Im.int _ | exact Im.bl _ | (refine Im.up (H := ?g) ?a ?b; (case a => assumption); (case b => walk_at "ex")))
local macro_rules | `(tactic| walk_at "ev") => `(tactic| first
  | exact ec_i | exact ec_b | exact ec_s | exact ec_n
  | (refine ei_var rfl ?_; walk_at "im")
  | (refine eo ?_ ?_ <;> walk_at "ev")
  | (refine eoB ?_ ?_ <;> walk_at "ev")
  | (refine e_eqI ?_ ?_ <;> walk_at "ev")
  | (refine e_neI ?_ ?_ <;> walk_at "ev")
  | (refine eu ?_ <;> walk_at "ev")
  | (refine e_not ?_ <;> walk_at "ev"))

section
variable {P : Program} {w : World} {K : PySem.W.Frag} {mg : Str → Option Value} {base : Heap} {c : Cs}
theorem rowsN_ok {ps : List (Nat × Nat)} (h : ∀ p ∈ ps, p.1 < 32) : RowsOk (rowsN ps).1 := by
  have go : ∀ (ps : List (Nat × Nat)) (a : List (Nat × (Nat × Nat)) × List Nat), (∀ p ∈ ps, p.1 < 32) → RowsOk a.1 → RowsOk (ps.foldl rowStep a).1 := fun ps => by
    induction ps with
    | nil => intro a _ ok; exact ok
    | cons p r ih =>
      intro a h ok
      exact ih _ (fun q m => h q (List.mem_cons_of_mem _ m)) (rowStep_ok ok (h p List.mem_cons_self))
  exact go ps _ h (by intro r m; cases m)
def metStep (rows : List (Nat × (Nat × Nat))) (found : List (Nat × Nat)) (t : Nat) : List (Nat × Nat) :=
  let r := clearedN 64 rows (2 ^ t) 0
  if r.1 = 0 then putA found t r.2 else found
def rowPairs (masks : List Nat) (whole : Nat) (ts : List Nat) : List (Nat × Nat) := ts.map fun t => (masks.getD t 0 &&& whole, 2 ^ t)
def metN (masks left done : List Nat) : List (Nat × Nat) := left.foldl (metStep (rowsN (rowPairs masks (maskN left) done)).1) []
theorem metStep_len (rows : List (Nat × (Nat × Nat))) (found : List (Nat × Nat)) (t : Nat) : (metStep rows found t).length ≤ found.length + 1 := by
  unfold metStep
  by_cases z : (clearedN 64 rows (2 ^ t) 0).1 = 0
  · rw [if_pos z]; exact putA_len _ _ _
  · rw [if_neg z]; exact Nat.le_succ _
theorem pow_small : ∀ t < 5, 2 ^ t < 32 := by decide
def MsOk (masks : List Nat) : Prop := masks.length ≤ 4 ∧ ∀ m ∈ masks, m < 32
theorem MsOk.at_ {masks : List Nat} (o : MsOk masks) {t : Nat} (h : t < masks.length) : masks.getD t 0 < 32 := by
  rw [List.getD_eq_getElem?_getD, List.getElem?_eq_getElem h]
  exact o.2 _ (List.getElem_mem h)
theorem rowPairs_lt {masks ts : List Nat} {whole : Nat} (o : MsOk masks) (h : ∀ t ∈ ts, t < masks.length) : ∀ p ∈ rowPairs masks whole ts, p.1 < 32 := fun p m => by
  obtain ⟨t, ht, rfl⟩ := List.mem_map.mp m
  exact Nat.lt_of_le_of_lt Nat.and_le_left (o.at_ (h t ht))
/-! ### met_alone -/
abbrev sp_met_alone : Sp := spN (fun x : List Nat × List Nat × List Nat => MsOk x.1 ∧ (∀ t ∈ x.2.1, t < x.1.length) ∧ (∀ t ∈ x.2.2, t < x.1.length) ∧ x.2.1.length ≤ 100 ∧ x.2.2.length ≤ 100) (fun x => a3 (vL (x.1.map dN)) (vL (x.2.1.map dN)) (vL (x.2.2.map dN))) fun x H0 => vDF H0 (encA dN (metN x.1 x.2.1 x.2.2))
theorem c_met_alone (T : Txt K mg c) : Cal P w K mg base 3 "met_alone" (sp_met_alone) [] := by
  have c_cleared := c_cleared (P := P) (w := w) (base := base) T
  have c_mask_of := c_mask_of (P := P) (w := w) (base := base) T
  have c_rows_of := c_rows_of (P := P) (w := w) (base := base) T
  refine mkCal T.d_met_alone sc_met_alone (fun _ _ _ _ _ _ us hl => match us, hl with | [_, _, _], _ => rfl) (fun vs H Q E h => ?_) (fun f cdv A outer s H vs Q E hr h => ?_)
  · obtain ⟨x, hx, a, _⟩ := h
    obtain ⟨v0, v1, v2, rfl, _⟩ := a3o a
    rfl
  · obtain ⟨x, hx, a, k⟩ := h
    obtain ⟨v0, v1, v2, rfl, p0, p1, p2⟩ := a3o a
    have hu := hu_of hr
    refine ⟨_, pss_cons (ps_asg (pe_tupZ (pa_cons (pe_c c_mask_of hr (by decide) (by rfl) (pa_cons (pv 1) (pa_nil))) (pa_cons (pe_dnewK) (pa_nil)))) (pg_tupK K (n := 2) rfl (pgs_cons (pg_name (i := 3) sc_met_alone.nd rfl (Or.inr rfl)) (pgs_cons (pg_name (i := 4) sc_met_alone.nd rfl (Or.inl rfl)) (pgs_nil)))))
      (pss_cons (ps_set (i := 6) sc_met_alone.nd rfl (Or.inl rfl) (pe_ix (ix_seqK K) (pe_c c_rows_of hr (by decide) (by rfl) (pa_cons (pe_lc (own := [("thing", 5)]) rfl sc_met_alone.nd (pi_seqK K (pv 2)) (blkOk_by (N := N_met_alone) (sc := defScope s_met_alone) (own := [("thing", 5)]) (by decide +kernel)) (fun _ _ _ _ _ => pg_name (i := 5) sc_met_alone.nd rfl (Or.inl rfl)) (fun _ _ _ _ _ => pts_nil) (fun _ _ _ _ _ => pe_tupZ (pa_cons (pe_op op_and (pe_ix (ix_seqK K) (pv 0) (pv 5) (fun _ _ => rfl)) (pv 3)) (pa_cons (pe_op op_shl (pe_int) (pv 5)) (pa_nil))))) (pa_nil))) (pe_int) (fun _ _ => rfl)))
      (pss_cons (ps_for PassesOwn.never rfl (pi_seqK K (pv 1)) (pg_name (i := 5) sc_met_alone.nd rfl (Or.inl rfl))
      (pss_cons (ps_asg (pe_c c_cleared hr (by decide) (by rfl) (pa_cons (pv 6) (pa_cons (pe_op op_shl (pe_int) (pv 5)) (pa_cons (pe_int) (pa_nil))))) (pg_tupK K (n := 2) rfl (pgs_cons (pg_name (i := 7) sc_met_alone.nd rfl (Or.inl rfl)) (pgs_cons (pg_name (i := 8) sc_met_alone.nd rfl (Or.inl rfl)) (pgs_nil)))))
      (pss_one (ps_if (pt_cmpR op_eq (pv 7) (pe_int) (nomark _)) (pss_one (ps_dput hu (pv 4) (pv 5) (pv 8) rfl)) (pss_nil)))))
      (pss_one (ps_ret (pv 4))))), ?_⟩
    obtain ⟨masks, left, done⟩ := x
    obtain ⟨ok, hl, hd, ll, ld⟩ := hx
    dsimp only at ok hl hd ll ld p0 p1 p2
    have m4 := ok.1
    have l2 : ∀ t ∈ left, t ≤ 1000 := fun t m => by have := hl t m; omega
    refine q_unp (ep_pair (P := vI (dN (maskN left))) (R := vDF H []) (ep_callP left ⟨by omega, l2⟩ (ea_1 (mS _) (ep_var rfl (mS _) (vS_L p1)))) ep_dnew (mI _) (mDF _)) fun va vb H1 e1 iw pb => ?_
    obtain ⟨d, kvs, rfl, hnd, hd1, imd⟩ := pb
    have pok : ∀ p ∈ rowPairs masks (maskN left) done, p.1 < 32 := rowPairs_lt ok hd
    refine q_set (P := vDF H1 (encA pD (rowsN (rowPairs masks (maskN left) done)).1)) (e_fst (ep_callN (rowPairs masks (maskN left) done) ⟨by unfold rowPairs; rw [List.length_map]; omega, pok⟩ (ea_1 (mL _) (EvP.isL (lc_N1 (enc := dN) (fun t => pD (masks.getD t 0 &&& maskN left, 2 ^ t)) (src_S (ep_var rfl (mS _) (mS _ _ _ _ e1 (vS_L p2)))) (by omega) (fun _ => rfl) fun t y H2 m e i => ep_tup (ea_cons (e_andN (e_ix (ep_var rfl (mS _) (mS _ _ _ _ (e1.trans e) (vS_L p0))) (ei_var rfl i) (getD_some (hd t m))) (ei_var rfl (iw.up e))) (ea_cons (e_shl1 (ei_var rfl i) (by have := hd t m; omega)) ea_nil)) (by show 2 ≤ 100000; omega)) (by unfold rowPairs; rw [List.map_map]; rfl))) fun H3 v H4 e p => by obtain ⟨q, a, b, r, h1, h2, h3⟩ := p; exact ⟨q, a, b, r, h1, vDF_an e h2, h3⟩)) fun vr H2 e2 prF => ?_
    have pr := vDF_D prF
    have nvr : vr ≠ .ref d := by
      obtain ⟨q, _, rfl, nq, _⟩ := prF
      intro z
      cases z
      rw [hd1] at nq
      cases nq
    obtain ⟨pp, ws, rfl, hpp, imp⟩ := p1
    have e12 := e1.trans e2
    refine q_forLv (xs := left) (enc := dN) rfl (e12 _ _ hpp) (imp.up e12) (fun l σ' H' => ∃ o5 o7 o8 kvs, σ' = [some v0, some (.ref pp), some v2, some va, some (.ref d), o5, some vr, o7, o8] ∧ Ex H H' ∧ vRows (rowsN (rowPairs masks (maskN left) done)).1 vr H' ∧ H' d = some (.dK kvs) ∧ DkIm H' kvs (encA dN (l.foldl (metStep (rowsN (rowPairs masks (maskN left) done)).1) [])) ∧ (l.foldl (metStep (rowsN (rowPairs masks (maskN left) done)).1) []).length ≤ l.length) ⟨_, _, _, kvs, rfl, e12, pr, e2 _ _ hd1, imd.mv (Tx.of e2), Nat.le_refl _⟩ ?_ ?_ ?_
    · rintro l σ' H' ⟨o5, o7, o8, kvs, rfl, eH, _⟩
      exact eH _ _ hpp
    · rintro l t r y σ' H' hlt tx ⟨o5, o7, o8, kvs, rfl, eH, dr, hd, imd, ln⟩ im
      generalize hrs : (rowsN (rowPairs masks (maskN left) done)).1 = rows at *
      have rok : RowsOk rows := hrs ▸ rowsN_ok pok
      have tm : t ∈ left := by rw [hlt]; exact List.mem_append_right _ List.mem_cons_self
      have lx : l.length ≤ left.length := by rw [hlt, List.length_append]; exact Nat.le_add_right _ _
      have t5 : t < 5 := by have := hl t tm; omega
      have hst : (l ++ [t]).foldl (metStep rows) [] = metStep rows (l.foldl (metStep rows) []) t := by rw [List.foldl_append]; rfl
      have ln' := metStep_len rows (l.foldl (metStep rows) []) t
      refine q_unp (EvP.imp (ep_callP (rows, 2 ^ t, 0) ⟨rok, pow_small t t5⟩ (ea1 (mD _) (ep_var rfl (mD _) dr) (ea1 (mI _) (e_shl1 (ei_var rfl im) (by omega)) (ea_1 (mI _) ec_i)))) fun v H2 _ p => vP_I p) fun vx vy H3 e3 ix iy => ?_
      refine s_if (et_t (e_eqN (ei_var rfl ix) ec_i)) (fun hb H4 e4 => ?_) fun hb H4 e4 => ?_
      · have z := of_decide_eq_true hb
        have e : metStep rows (l.foldl (metStep rows) []) t = putA (l.foldl (metStep rows) []) t (clearedN 64 rows (2 ^ t) 0).2 := if_pos z
        have hd4 := (e3.trans e4) _ _ hd
        refine s_dput (P := vI (dN (clearedN 64 rows (2 ^ t) 0).2)) hd4 (ev_var rfl) (ei_var rfl (im.up (e3.trans e4))) (ei_var rfl (iy.up e4)) (mI _) (by rw [imd.len]; unfold encA; rw [List.length_map]; omega) fun v H5 e5 pv => ?_
        have e34 := (e3.trans e4).trans e5
        have t5 : Tx H5 (upd H5 d (.dK (putK kvs (.inl (t : Int)) v))) := Tx.dic (e5 _ _ hd4)
        refine ⟨(tx.trans (Tx.of e34)).trans t5, _, _, _, _, rfl, (eH.trans e34).mut hnd, mD_dic (mD _ _ _ _ e34 dr) (e5 _ _ hd4) nvr Kx.upd, upd_same, ?_, ?_⟩
        · rw [hst, e]
          have q := ((imd.mv (Tx.of e34)).mv t5).put (n := t) (Im.mv t5 pv)
          rw [putA_enc] at q
          exact q
        · rw [hst, List.length_append]; exact Nat.le_trans ln' (Nat.add_le_add_right ln 1)
      · have z := of_decide_eq_false hb
        have e : metStep rows (l.foldl (metStep rows) []) t = l.foldl (metStep rows) [] := if_neg z
        have e34 := e3.trans e4
        exact ⟨tx.trans (Tx.of e34), _, _, _, _, rfl, eH.trans e34, mD _ _ _ _ e34 dr, e34 _ _ hd, by rw [hst, e]; exact imd.mv (Tx.of e34), by rw [hst, List.length_append]; exact Nat.le_trans ln' (Nat.add_le_add_right ln 1)⟩
    · rintro σ' H' tx ⟨o5, o7, o8, kvs, rfl, eH, dr, hd, imd, ln⟩
      exact s_retP (P := vDF H (encA dN (metN masks left done))) (ep_var rfl (mDF _) ⟨d, kvs, rfl, hnd, hd, imd⟩) fun v H3 e3 p => k v H3 (eH.trans e3) p
end
end Lk
end

section
set_option Elab.async false
set_option linter.all false
set_option maxRecDepth 100000
set_option maxHeartbeats 4000000
namespace Lk
open PySem PySem.Spec PyProof.Rows L2 Evl PySem.W C8
local macro_rules | `(tactic| walk_at "ex") => `(tactic| first | exact Ex.refl _ | assumption | (refine Ex.trans (H1 := ?g) ?a ?b; (case a => assumption); (case b => walk_at "ex")))
local macro_rules | `(tactic| walk_at "im") => `(tactic| first | assumption | exact Im.int _ | exact Im.bl _ | (refine Im.up (H := ?g) ?a ?b; (case a => assumption); (case b => walk_at "ex")))
local macro_rules | `(tactic| walk_at "ev") => `(tactic| first
  | exact ec_i | exact ec_b | exact ec_s | exact ec_n
  | (refine ei_var rfl ?_; walk_at "im")
  | (refine eo ?_ ?_ <;> walk_at "ev")
  | (refine eoB ?_ ?_ <;> walk_at "ev")
  | (refine e_eqI ?_ ?_ <;> walk_at "ev")
  | (refine e_neI ?_ ?_ <;> walk_at "ev")
  | (refine eu ?_ <;> walk_at "ev")
  | (refine e_not ?_ <;> walk_at "ev"))

section
variable {P : Program} {w : World} {K : PySem.W.Frag} {mg : Str → Option Value} {base : Heap} {c : Cs}
def bitAt (t m : Nat) : Bool := decide (m / 2 ^ t &&& 1 = 1)
def nothN (masks left done : List Nat) : List Nat := (rowsN (rowPairs masks (maskN done) left)).2
def showN (masks left done wanted : List Nat) : List (Nat × List Nat) := wanted.map fun t => (t, thingsN (((nothN masks left done).filter (bitAt t)).headD 0))
abbrev rowD (r : Nat × List Nat) : PyData := .tuple [dN r.1, .tuple (r.2.map dN)]
def ShowOk (masks left done wanted : List Nat) : Prop := (∀ t ∈ wanted, (nothN masks left done).filter (bitAt t) ≠ []) ∧ ∀ m ∈ nothN masks left done, m < 2 ^ 40
theorem rowStep_len2 (a : List (Nat × (Nat × Nat)) × List Nat) (p : Nat × Nat) : (rowStep a p).2.length ≤ a.2.length + 1 := by
  unfold rowStep
  by_cases z : (clearedN 64 a.1 p.1 p.2).1 = 0
  · rw [if_pos z, List.length_append]; exact Nat.le_refl _
  · rw [if_neg z]; exact Nat.le_succ _
theorem noth_len (ps : List (Nat × Nat)) : (rowsN ps).2.length ≤ ps.length := by
  have go : ∀ (ps : List (Nat × Nat)) (a : List (Nat × (Nat × Nat)) × List Nat), (ps.foldl rowStep a).2.length ≤ a.2.length + ps.length := fun ps => by
    induction ps with
    | nil => intro a; exact Nat.le_refl _
    | cons p r ih =>
      intro a
      have h1 := ih (rowStep a p)
      have h2 := rowStep_len2 a p
      rw [List.foldl_cons, List.length_cons]
      omega
  have h := go ps ([], [])
  rw [List.length_nil, Nat.zero_add] at h
  exact h
/-! ### showing -/
abbrev sp_showing : Sp := spP (fun x : List Nat × List Nat × List Nat × List Nat => MsOk x.1 ∧ (∀ t ∈ x.2.1, t < x.1.length) ∧ (∀ t ∈ x.2.2.1, t < x.1.length) ∧ x.2.1.length ≤ 100 ∧ x.2.2.1.length ≤ 100 ∧ x.2.2.2.length ≤ 100 ∧ ShowOk x.1 x.2.1 x.2.2.1 x.2.2.2) (fun x => a4 (vL (x.1.map dN)) (vL (x.2.1.map dN)) (vL (x.2.2.1.map dN)) (vL (x.2.2.2.map dN))) fun x => vL ((showN x.1 x.2.1 x.2.2.1 x.2.2.2).map rowD)
theorem c_showing (T : Txt K mg c) : Cal P w K mg base 3 "showing" (sp_showing) [] := by
  have c_mask_of := c_mask_of (P := P) (w := w) (base := base) T
  have c_rows_of := c_rows_of (P := P) (w := w) (base := base) T
  have c_things_of := c_things_of (P := P) (w := w) (base := base) T
  refine mkCal T.d_showing sc_showing (fun _ _ _ _ _ _ us hl => match us, hl with | [_, _, _, _], _ => rfl) (fun vs H Q E h => ?_) (fun f cdv A outer s H vs Q E hr h => ?_)
  · obtain ⟨x, hx, a, _⟩ := h
    obtain ⟨v0, v1, v2, v3, rfl, _⟩ := a4o a
    rfl
  · obtain ⟨x, hx, a, k⟩ := h
    obtain ⟨v0, v1, v2, v3, rfl, p0, p1, p2, p3⟩ := a4o a
    have hu := hu_of hr
    refine ⟨_, pss_cons (ps_set (i := 4) sc_showing.nd rfl (Or.inr rfl) (pe_c c_mask_of hr (by decide) (by rfl) (pa_cons (pv 2) (pa_nil))))
      (pss_cons (ps_set (i := 5) sc_showing.nd rfl (Or.inr rfl) (pe_ix (ix_seqK K) (pe_c c_rows_of hr (by decide) (by rfl) (pa_cons (pe_lc (own := [("thing", 6)]) rfl sc_showing.nd (pi_seqK K (pv 1)) (blkOk_by (N := N_showing) (sc := defScope s_showing) (own := [("thing", 6)]) (by decide +kernel)) (fun _ _ _ _ _ => pg_name (i := 6) sc_showing.nd rfl (Or.inl rfl)) (fun _ _ _ _ _ => pts_nil) (fun _ _ _ _ _ => pe_tupZ (pa_cons (pe_op op_and (pe_ix (ix_seqK K) (pv 0) (pv 6) (fun _ _ => rfl)) (pv 4)) (pa_cons (pe_op op_shl (pe_int) (pv 6)) (pa_nil))))) (pa_nil))) (pe_int) (fun _ _ => rfl)))
      (pss_one (ps_ret (pe_lc (own := [("thing", 6)]) rfl sc_showing.nd (pi_seqK K (pv 3)) (blkOk_by (N := N_showing) (sc := defScope s_showing) (own := [("thing", 6)]) (by decide +kernel)) (fun _ _ _ _ _ => pg_name (i := 6) sc_showing.nd rfl (Or.inr rfl)) (fun _ _ _ _ _ => pts_nil) (fun _ _ _ _ _ => pe_tupZ (pa_cons (pv 6) (pa_cons (pe_c c_things_of hr (by decide) (by rfl) (pa_cons (pe_ix (ix_seqK K) (pe_lc (own := [("made", 7)]) rfl sc_showing.nd (pi_seqK K (pv 5)) (blkOk_by (own := [("made", 7)]) (by rfl)) (fun _ _ _ _ _ => pg_name (i := 7) sc_showing.nd rfl (Or.inl rfl)) (fun _ _ _ _ _ => pts_one (pt_cmpR op_eq (pe_op op_and (pe_op op_shr (pv 7) (pv 6)) (pe_int)) (pe_int) (nomark _))) (fun _ _ _ _ _ => pv 7)) (pe_int) (fun _ _ => rfl)) (pa_nil))) (pa_nil)))))))), ?_⟩
    obtain ⟨masks, left, done, wanted⟩ := x
    obtain ⟨ok, hl, hd, ll, ld, lw, sh, sm⟩ := hx
    dsimp only at ok hl hd ll ld lw sh sm p0 p1 p2 p3
    have m4 := ok.1
    refine q_set (P := vI (dN (maskN done))) (ep_callP done ⟨by omega, fun t m => by have := hd t m; omega⟩ (ea_1 (mS _) (ep_var rfl (mS _) (vS_L p2)))) fun vw H1 e1 iw => ?_
    have pok : ∀ p ∈ rowPairs masks (maskN done) left, p.1 < 32 := rowPairs_lt ok hl
    refine q_set (P := vL ((nothN masks left done).map dN)) (e_snd (ep_callN (rowPairs masks (maskN done) left) ⟨by unfold rowPairs; rw [List.length_map]; omega, pok⟩ (ea_1 (mL _) (EvP.isL (lc_N1 (enc := dN) (fun t => pD (masks.getD t 0 &&& maskN done, 2 ^ t)) (src_S (ep_var rfl (mS _) (mS _ _ _ _ e1 (vS_L p1)))) (by omega) (fun _ => rfl) fun t y H2 m e i => ep_tup (ea_cons (e_andN (e_ix (ep_var rfl (mS _) (mS _ _ _ _ (e1.trans e) (vS_L p0))) (ei_var rfl i) (getD_some (hl t m))) (ei_var rfl (iw.up e))) (ea_cons (e_shl1 (ei_var rfl i) (by have := hl t m; omega)) ea_nil)) (by show 2 ≤ 100000; omega)) (by unfold rowPairs; rw [List.map_map]; rfl))) fun H3 v H4 e p => by obtain ⟨q, a, b, r, h1, h2, h3⟩ := p; exact ⟨q, a, b, r, h1, vDF_an e h2, h3⟩)) fun vn H2 e2 pn => ?_
    have nl : (nothN masks left done).length ≤ 100 := by
      have h := noth_len (rowPairs masks (maskN done) left)
      have z : (rowPairs masks (maskN done) left).length = left.length := List.length_map _
      rw [z] at h
      exact Nat.le_trans h ll
    generalize hno : nothN masks left done = noth at *
    have e12 := e1.trans e2
    refine s_retP (P := vL ((wanted.map fun t => (t, thingsN ((noth.filter (bitAt t)).headD 0))).map rowD)) (EvP.isL (lc_N1 (enc := dN) (fun t => rowD (t, thingsN ((noth.filter (bitAt t)).headD 0))) (src_S (ep_var rfl (mS _) (mS _ _ _ _ e12 (vS_L p3)))) (by omega) (fun _ => rfl) fun t y H3 m e i => ?_) (by rw [List.map_map]; rfl)) fun v H3 e p => k v H3 (e12.trans e) ?_
    · obtain ⟨m0, ms, hm⟩ : ∃ m0 ms, noth.filter (bitAt t) = m0 :: ms := by
        cases h : noth.filter (bitAt t) with
        | nil => exact absurd h (sh t m)
        | cons a r => exact ⟨a, r, rfl⟩
      have mm : m0 ∈ noth := (List.mem_filter.mp (hm ▸ List.mem_cons_self : m0 ∈ noth.filter (bitAt t))).1
      rw [hm]
      refine ep_tup (ea_cons (ei_var rfl i) (ea_cons (ep_callP m0 (sm m0 mm) (ea_1 (mI _) (e_ix (n := 0) (ds := (noth.filter (bitAt t)).map dN) (vSL (lc_N (enc := dN) (bitAt t) dN (src_S (ep_var rfl (mS _) (mS _ _ _ _ e (vS_L pn)))) (by omega) (fun _ => rfl) (fun q z H4 mq e4 iq => et_t (EvP.isB (e_eqI (e_andN (e_shrN (ei_var rfl iq) (ei_var rfl (i.up e4))) ec_i) ec_i) (decide_eq_decide.mpr ⟨fun h => Int.ofNat.inj h, fun h => congrArg Int.ofNat h⟩))) fun q z H4 mq ht e4 iq => ei_var rfl iq)) ec_i (by rw [hm]; rfl)))) ea_nil)) (by show 2 ≤ 100000; omega)
    · show vL ((wanted.map fun t => (t, thingsN (((nothN masks left done).filter (bitAt t)).headD 0))).map rowD) v H3
      rw [hno]
      exact p
end
end Lk
end

section
set_option Elab.async false
set_option linter.all false
set_option maxRecDepth 100000
set_option maxHeartbeats 4000000
namespace Lk
open PySem PySem.Spec PyProof.Rows L2 Evl PySem.W C8
local macro_rules | `(tactic| walk_at "ex") => `(tactic| first | exact Ex.refl _ | assumption | (refine Ex.trans (H1 := ?g) ?a ?b; (case a => assumption); (case b => walk_at "ex")))
local macro_rules | `(tactic| walk_at "im") => `(tactic| first | assumption | exact Im.int _ | exact Im.bl _ | (refine Im.up (H := ?g) ?a ?b; (case a => assumption); (case b => walk_at "ex")))
local macro_rules | `(tactic| walk_at "ev") => `(tactic| first
  | exact ec_i | exact ec_b | exact ec_s | exact ec_n
  | (refine ei_var rfl ?_; walk_at "im")
  | (refine eo ?_ ?_ <;> walk_at "ev")
  | (refine eoB ?_ ?_ <;> walk_at "ev")
  | (refine e_eqI ?_ ?_ <;> walk_at "ev")
  | (refine e_neI ?_ ?_ <;> walk_at "ev")
  | (refine eu ?_ <;> walk_at "ev")
  | (refine e_not ?_ <;> walk_at "ev"))

section
variable {P : Program} {w : World} {K : PySem.W.Frag} {mg : Str → Option Value} {base : Heap} {c : Cs}
theorem metN_sub {masks left done : List Nat} : ∀ p ∈ metN masks left done, p.1 ∈ left := by
  have go : ∀ (rows : List (Nat × (Nat × Nat))) (l : List Nat) (acc : List (Nat × Nat)), (∀ p ∈ acc, p.1 ∈ left) → (∀ t ∈ l, t ∈ left) → ∀ p ∈ l.foldl (metStep rows) acc, p.1 ∈ left := fun rows l => by
    induction l with
    | nil => intro acc h _; exact h
    | cons t r ih =>
      intro acc h hl
      refine ih _ (fun p m => ?_) fun t m => hl t (List.mem_cons_of_mem _ m)
      unfold metStep at m
      by_cases z : (clearedN 64 rows (2 ^ t) 0).1 = 0
      · rw [if_pos z] at m
        rcases mem_putA m with e | m
        · rw [e]; exact hl t List.mem_cons_self
        · exact h p m
      · rw [if_neg z] at m; exact h p m
  exact go _ left [] (fun p m => by cases m) fun t m => m
theorem metN_len (masks left done : List Nat) : (metN masks left done).length ≤ left.length := by
  have go : ∀ (rows : List (Nat × (Nat × Nat))) (l : List Nat) (acc : List (Nat × Nat)), (l.foldl (metStep rows) acc).length ≤ acc.length + l.length := fun rows l => by
    induction l with
    | nil => intro acc; exact Nat.le_refl _
    | cons t r ih =>
      intro acc
      have h1 := ih (metStep rows acc t)
      have h2 := metStep_len rows acc t
      rw [List.foldl_cons, List.length_cons]; omega
  have h := go (rowsN (rowPairs masks (maskN left) done)).1 left []
  rw [List.length_nil, Nat.zero_add] at h
  exact h
theorem getA_of_mem {α : Type} {n : Nat} {d : α} : ∀ {ps : List (Nat × α)}, (n, d) ∈ ps → (getA ps n).isSome = true
  | [], h => by cases h
  | p :: r, h => by
    unfold getA
    by_cases e : p.1 = n
    · rw [if_pos e]; rfl
    · rw [if_neg e]
      rcases List.mem_cons.mp h with z | h
      · rw [← z] at e; exact absurd rfl e
      · exact getA_of_mem h
def layN : Nat → List Nat → List Nat → List Nat → List (List Nat) → List (Nat × Nat) → List (List Nat) × List (Nat × Nat) × List Nat
  | 0, _, _, left, layers, lots => (layers, lots, left)
  | f + 1, masks, done, left, layers, lots =>
    if left = [] then (layers, lots, left) else
    if (metN masks left done).isEmpty = true then (layers, lots, left) else
    layN f masks (done ++ isort ((metN masks left done).map (·.1))) (left.filter fun t => !(getA (metN masks left done) t).isSome) (isort ((metN masks left done).map (·.1)) :: layers) (mergeA lots (metN masks left done))
def laysN (x : NetD) : List (List Nat) × List (Nat × Nat) × List Nat := layN 8 (masksN x.n x.ss) x.kept x.looked [] []
abbrev tupN (ts : List Nat) : PyData := .tuple (ts.map dN)
theorem masksN_ok {x : NetD} (o : x.Ok) : MsOk (masksN x.n x.ss) ∧ (masksN x.n x.ss).length = x.n := by
  have go : ∀ (ss : List (Nat × Nat)) (l : List Nat), (∀ p ∈ ss, p.1 < p.2 ∧ p.2 < x.n) → (∀ m ∈ l, m < 32) → (∀ m ∈ ss.foldl stepM l, m < 32) ∧ (ss.foldl stepM l).length = l.length := fun ss => by
    induction ss with
    | nil => intro l _ h; exact ⟨h, rfl⟩
    | cons p r ih =>
      intro l hs h
      have n4 := o.n4
      have hp := hs p List.mem_cons_self
      have gd : ∀ (l : List Nat) i, (∀ m ∈ l, m < 32) → l.getD i 0 < 32 := fun l i h => by
        rw [List.getD_eq_getElem?_getD]
        cases e : l[i]? with
        | none => show 0 < 32; omega
        | some a => exact h a (List.mem_of_getElem? e)
      have st : ∀ (l : List Nat) i v, (∀ m ∈ l, m < 32) → v < 32 → ∀ m ∈ l.set i v, m < 32 := fun l i v h hv m hm => by
        rcases List.mem_or_eq_of_mem_set hm with z | z
        · exact h m z
        · rw [z]; exact hv
      have or32 : ∀ a k, a < 32 → k < 5 → a ||| 2 ^ k < 32 := fun a k ha hk => Nat.or_lt_two_pow (n := 5) ha (pow_small k hk)
      have h1 := st l p.1 _ h (or32 _ p.2 (gd l p.1 h) (by omega))
      have h2 := st _ p.2 _ h1 (or32 _ p.1 (gd _ p.2 h1) (by omega))
      obtain ⟨a, b⟩ := ih (stepM l p) (fun q m => hs q (List.mem_cons_of_mem _ m)) h2
      exact ⟨a, b.trans (stepM_len l p)⟩
  obtain ⟨a, b⟩ := go x.ss (List.replicate x.n 0) o.sl (fun m h => by rw [List.eq_of_mem_replicate h]; omega)
  rw [List.length_replicate] at b
  exact ⟨⟨by show (masksN x.n x.ss).length ≤ 4; unfold masksN; rw [b]; exact o.n4, a⟩, b⟩
theorem looked_lt {x : NetD} : ∀ t ∈ x.looked, t < x.n := fun t m => List.mem_range.mp (List.mem_filter.mp m).1
/-! ### layers_in -/
abbrev sp_layers_in : Sp := spP (fun x : NetD => x.Ok) (fun x => a1 (vNet c x)) fun x => vT3 (vL ((laysN x).1.map tupN)) (vD (encA dN (laysN x).2.1)) (vL ((laysN x).2.2.map dN))
theorem c_layers_in (T : Txt K mg c) : Cal P w K mg base 4 "layers_in" (sp_layers_in (c := c)) [] := by
  have c_free_of := c_free_of (P := P) (w := w) (base := base) T
  have c_masks_of := c_masks_of (P := P) (w := w) (base := base) T
  have c_met_alone := c_met_alone (P := P) (w := w) (base := base) T
  refine mkCal T.d_layers_in sc_layers_in (fun _ _ _ _ _ _ us hl => match us, hl with | [_], _ => rfl) (fun vs H Q E h => ?_) (fun f cdv A outer s H vs Q E hr h => ?_)
  · obtain ⟨x, hx, a, _⟩ := h
    obtain ⟨v0, rfl, _⟩ := a1o a
    rfl
  · obtain ⟨x, hx, a, k⟩ := h
    obtain ⟨v0, rfl, p0⟩ := a1o a
    have hu := hu_of hr
    refine ⟨_, pss_cons (ps_asg (pe_tupZ (pa_cons (pe_c c_masks_of hr (by decide) (by rfl) (pa_cons (pv 0) (pa_nil))) (pa_cons (pe_c c_free_of hr (by decide) (by rfl) (pa_cons (pv 0) (pa_cons (pe_fldK K (pv 0)) (pa_nil)))) (pa_cons (pe_callTy (T := "list") (cr_listK K) (by rfl) T.b_list (by decide +kernel) (pa_cons (pe_fldK K (pv 0)) (pa_nil))) (pa_cons (pe_lst (pa_nil)) (pa_cons (pe_dnewK) (pa_nil))))))) (pg_tupK K (n := 5) rfl (pgs_cons (pg_name (i := 1) sc_layers_in.nd rfl (Or.inl rfl)) (pgs_cons (pg_name (i := 2) sc_layers_in.nd rfl (Or.inl rfl)) (pgs_cons (pg_name (i := 3) sc_layers_in.nd rfl (Or.inl rfl)) (pgs_cons (pg_name (i := 4) sc_layers_in.nd rfl (Or.inl rfl)) (pgs_cons (pg_name (i := 5) sc_layers_in.nd rfl (Or.inl rfl)) (pgs_nil))))))))
      (pss_cons (ps_while PassesOwn.never (pt_cmpR (op_neDK K hr.units) (pv 3) (pe_lst (pa_nil)) (nomark _))
      (pss_cons (ps_set (i := 6) sc_layers_in.nd rfl (Or.inr rfl) (pe_c c_met_alone hr (by decide) (by rfl) (pa_cons (pv 1) (pa_cons (pv 3) (pa_cons (pv 2) (pa_nil))))))
      (pss_cons (ps_if (pt_cmpR (op_eqE hr.units0) (pv 6) (pe_dnewK) (nomark _)) (pss_one (ps_break)) (pss_nil))
      (pss_cons (ps_par (i := 4) (j := 3) rfl sc_layers_in.nd rfl rfl (by decide) rfl rfl (pa_cons (pe_lst (pa_cons (pe_callTy (T := "tuple") (cr_tupleK K) (by rfl) T.b_tuple (by decide +kernel) (pa_cons (pe_callB (id := "sorted") (cr_sortDI rfl) (by rfl) T.b_sorted (by decide +kernel) (pa_cons (pv 6) (pa_nil))) (pa_nil))) (StX.pa_star (pv 4) (pa_nil)))) (pa_cons (pe_lc (own := [("thing", 7)]) rfl sc_layers_in.nd (pi_seqK K (pv 3)) (blkOk_by (N := N_layers_in) (sc := defScope s_layers_in) (own := [("thing", 7)]) (by decide +kernel)) (fun _ _ _ _ _ => pg_name (i := 7) sc_layers_in.nd rfl (Or.inl rfl)) (fun _ _ _ _ _ => pts_one (pt_cmp (pc_dnotin hu (pv 7) (pv 6)) (by rfl))) (fun _ _ _ _ _ => pv 7)) (pa_nil))) (by rfl))
      (pss_cons (ps_set (i := 2) sc_layers_in.nd rfl (Or.inl rfl) (pe_op op_cat (pv 2) (pe_c c_free_of hr (by decide) (by rfl) (pa_cons (pv 0) (pa_cons (pe_callB (id := "sorted") (cr_sortDI rfl) (by rfl) T.b_sorted (by decide +kernel) (pa_cons (pv 6) (pa_nil))) (pa_nil))))))
      (pss_one (ps_expr (pe_dupd (pv 5) (pv 6) ⟨rfl, rfl, rfl, rfl⟩))))))))
      (pss_one (ps_ret (pe_tupZ (pa_cons (pv 4) (pa_cons (pv 5) (pa_cons (pv 3) (pa_nil)))))))), ?_⟩
    obtain ⟨mok, mlen⟩ := masksN_ok hx
    have n4 := hx.n4
    have kz := hx.kz
    have lk := x.looked_len
    have net : ∀ {H'}, Ex H H' → vNet c x v0 H' := fun e => mO _ _ _ _ _ e p0
    refine q_unp5 (ep_t5 (P := vL ((masksN x.n x.ss).map dN)) (R := vL (x.kept.map dN)) (S := vL (x.looked.map dN)) (T5 := vL []) (T6 := vDF H []) (ep_callP x hx (ea_1 (mO _ _) (ep_var rfl (mO _ _) p0))) (ep_callP (x, x.kept) (by show x.kept.length ≤ 50000; omega) (ea1 (mO _ _) (ep_var rfl (mO _ _) p0) (ea_1 (mS _) (vST (n_kept T (ep_var rfl (mO _ _) p0)))))) (e_list (vST (n_looked T (ep_var rfl (mO _ _) p0)))) (EvP.imp ep_nilF fun v H1 _ p => vF_L p) ep_dnew (mL _) (mL _) (mL _) (mL _) (mDF _)) fun vm vd vl vy vt H1 e1 pm pd pl py pt => ?_
    obtain ⟨dl, kvs, rfl, hnd, hdl, imd⟩ := pt
    refine q_while (fun f σ' H' => ∃ o6 o7 vd vl vy kvs done left layers lots, σ' = [some v0, some vm, some vd, some vl, some vy, some (.ref dl), o6, o7] ∧ Ex H H' ∧ vL ((masksN x.n x.ss).map dN) vm H' ∧ vL (done.map dN) vd H' ∧ vL (left.map dN) vl H' ∧ vL (layers.map tupN) vy H' ∧ H' dl = some (.dK kvs) ∧ DkIm H' kvs (encA dN lots) ∧ (∀ t ∈ left, t < x.n) ∧ (∀ t ∈ done, t < x.n) ∧ left.length ≤ f ∧ left.length ≤ 4 ∧ done.length + 4 * f ≤ 99 ∧ lots.length + 4 * f ≤ 40 ∧ layers.length + f ≤ 10 ∧ layN f (masksN x.n x.ss) done left layers lots = laysN x) 8 ⟨_, _, vd, vl, vy, kvs, x.kept, x.looked, [], [], rfl, e1, pm, pd, pl, py, hdl, imd, looked_lt, hx.kl, by omega, by omega, by omega, by show 0 + 4 * 8 ≤ 40; omega, by show 0 + 8 ≤ 10; omega, rfl⟩ ?_
    rintro f σ' H' ⟨o6, o7, vd, vl, vy, kvs, done, left, layers, lots, rfl, eH, pm, pd, pl, py, hdl, imd, ll, ld, lf, l4, zd, zl, zy, hlay⟩
    have fin : ∀ {H1 : Hp} {o6 o7 : Option V}, Ex H' H1 → laysN x = (layers, lots, left) → EvP (tTupZ (tCons (tVar 4) (tCons (tVar 5) (tCons (tVar 3) tNil)))) [some v0, some vm, some vd, some vl, some vy, some (.ref dl), o6, o7] H1 (vT3 (vL ((laysN x).1.map tupN)) (vD (encA dN (laysN x).2.1)) (vL ((laysN x).2.2.map dN))) := fun {H1 o6 o7} e h => by
      rw [h]
      exact ep_t3 (ep_var rfl (mL _) (mL _ _ _ _ e py)) (ep_var rfl (mD _) (mD _ _ _ _ e ⟨dl, kvs, rfl, hdl, imd⟩)) (ep_var rfl (mL _) (mL _ _ _ _ e pl)) (mL _) (mD _) (mL _)
    refine ⟨_, et_t (e_neLN (ns := left) (ms := []) (ep_var rfl (mL _) pl) (EvP.imp ep_nilF fun v H1 _ p => vF_L p)), fun hb H1 ea => ?_, fun hb H1 ea => ?_⟩
    · have ne : left ≠ [] := by
        intro z
        rw [z] at hb
        exact absurd hb (by decide)
      cases f with
      | zero => exact absurd (List.eq_nil_of_length_eq_zero (by omega)) ne
      | succ f =>
        refine ⟨_, fun σ2 H2 n => ⟨f, Nat.lt_succ_self f, n⟩, ?_⟩
        have hstep : laysN x = if (metN (masksN x.n x.ss) left done).isEmpty = true then (layers, lots, left) else layN f (masksN x.n x.ss) (done ++ isort ((metN (masksN x.n x.ss) left done).map (·.1))) (left.filter fun t => !(getA (metN (masksN x.n x.ss) left done) t).isSome) (isort ((metN (masksN x.n x.ss) left done).map (·.1)) :: layers) (mergeA lots (metN (masksN x.n x.ss) left done)) := by
          rw [← hlay]
          show (if left = [] then _ else _) = _
          rw [if_neg ne]
        have fl := metN_len (masksN x.n x.ss) left done
        have fs := metN_sub (masks := masksN x.n x.ss) (left := left) (done := done)
        refine q_set (P := vDF H1 (encA dN (metN (masksN x.n x.ss) left done))) (ep_callN (masksN x.n x.ss, left, done) ⟨mok, fun t m => by rw [mlen]; exact ll t m, fun t m => by rw [mlen]; exact ld t m, by show left.length ≤ 100; omega, by show done.length ≤ 100; omega⟩ (ea1 (mL _) (ep_var rfl (mL _) (mL _ _ _ _ ea pm)) (ea1 (mL _) (ep_var rfl (mL _) (mL _ _ _ _ ea pl)) (ea_1 (mL _) (ep_var rfl (mL _) (mL _ _ _ _ ea pd))))) fun H3 v H4 e p => vDF_an e p) fun vf H2 eb pf => ?_
        have eab := ea.trans eb
        have hf0 := vDF_D pf
        obtain ⟨df, kvf, rfl, ndf, hdf, imf⟩ := pf
        have ne2 : dl ≠ df := fun z => by rw [← z, ea _ _ hdl] at ndf; cases ndf
        refine Evl.q_when (et_t (e_eqE (ep_var rfl (mD _) hf0) ep_dnew)) (fun hb2 H3 ec => ?_) fun hb2 H3 ec => ?_
        · have emp : (metN (masksN x.n x.ss) left done).isEmpty = true := by
            cases h : metN (masksN x.n x.ss) left done with
            | nil => rfl
            | cons a r => rw [h] at hb2; exact hb2
          rw [if_pos emp] at hstep
          exact s_retP (fin (eab.trans ec) hstep) fun v H4 e p => k v H4 ((eH.trans (eab.trans ec)).trans e) p
        · have emp : ¬ (metN (masksN x.n x.ss) left done).isEmpty = true := by
            cases h : metN (masksN x.n x.ss) left done with
            | nil => rw [h] at hb2; exact absurd hb2 (by decide)
            | cons a r => exact Bool.false_ne_true
          rw [if_neg emp] at hstep
          have eabc := eab.trans ec
          have hf3 := mD _ _ _ _ ec hf0
          have klen : ((encA dN (metN (masksN x.n x.ss) left done)).map (·.1)) = (metN (masksN x.n x.ss) left done).map (·.1) := by unfold encA; rw [List.map_map]; rfl
          have short : (left.filter fun t => !(getA (metN (masksN x.n x.ss) left done) t).isSome).length < left.length := by
            rw [List.length_filter_lt_length_iff_exists]
            cases h : metN (masksN x.n x.ss) left done with
            | nil => rw [h] at emp; exact absurd rfl emp
            | cons a r =>
              refine ⟨a.1, fs a (by rw [h]; exact List.mem_cons_self), ?_⟩
              rw [getA_of_mem (d := a.2) List.mem_cons_self]
              decide
          generalize hfo : metN (masksN x.n x.ss) left done = found at *
          have flen : (encA dN found).length < 64 := by unfold encA; rw [List.length_map]; omega
          have srt : ∀ {H4 : Hp} {o7 : Option V} {vd vl vy : V}, vD (encA dN found) (.ref df) H4 → EvP (tCB rSortDI (tCons (tVar 6) tNil)) [some v0, some vm, some vd, some vl, some vy, some (.ref dl), some (.ref df), o7] H4 (vL ((isort (found.map (·.1))).map dN)) := fun {H4 o7 vd vl vy} h => by
            have q := e_sortDI (σ := [some v0, some vm, some vd, some vl, some vy, some (.ref dl), some (.ref df), o7]) (ep_var (k := 6) rfl (mD _) h) flen
            rw [klen] at q
            exact q
          refine q_par (P := vL ((isort (found.map (·.1)) :: layers).map tupN)) (R := vL ((left.filter fun t => !(getA found t).isSome).map dN)) (EvP.isL (ep_lst (ea_cons (e_tuple (vSL (srt hf3))) (ea_star (ep_var rfl (mS _) (vS_L (mL _ _ _ _ eabc py))) ea_nil)) (by rw [List.length_cons, List.length_append, List.length_map]; show layers.length + 0 + 1 ≤ 100000; omega)) (by rw [List.append_nil]; rfl)) (lc_N (enc := dN) (fun t => !(getA found t).isSome) dN (src_S (ep_var rfl (mS _) (vS_L (mL _ _ _ _ eabc pl)))) (by omega) (fun _ => rfl) (fun t y H4 m e i => et_t (EvP.isB (e_dnotin (ei_var rfl i) (ep_var rfl (mD _) (mD _ _ _ _ e hf3))) (by rw [getA_enc, Option.isSome_map]))) fun t y H4 m ht e i => ei_var rfl i) (mL _) fun vy2 vl2 H4 ed py2 pl2 => ?_
          have kz2 : (isort (found.map (·.1))).length = found.length := by rw [(isort_perm _).length_eq, List.length_map]
          refine q_set (P := vL ((done ++ isort (found.map (·.1))).map dN)) (EvP.isL (e_cat (ep_var rfl (mL _) (mL _ _ _ _ (eabc.trans ed) pd)) (ep_callP (x, (isort (found.map (fun q : Nat × Nat => q.1)) : List Nat)) (by show (isort (found.map (·.1))).length ≤ 50000; omega) (ea1 (mO _ _) (ep_var rfl (mO _ _) (net (eH.trans (eabc.trans ed)))) (ea_1 (mS _) (vSL (srt (mD _ _ _ _ ed hf3)))))) (by rw [List.length_map, List.length_map]; show done.length + (isort (found.map (·.1))).length ≤ 100000; omega)) (by rw [List.map_append])) fun vd2 H5 ee pd2 => ?_
          have e5 := (eabc.trans ed).trans ee
          have hd5 := e5 _ _ hdl
          have hf5 := ((ec.trans ed).trans ee) _ _ hdf
          have imf5 := imf.mv (Tx.of ((ec.trans ed).trans ee))
          have im5 := imd.mv (Tx.of e5)
          have flz := mergeA_len found lots
          refine ⟨.ref dl, rfl, dl, kvs, rfl, hd5, .ref df, rfl, df, kvs, kvf, rfl, ne2, hd5, hf5, by rw [imd.len, imf.len]; unfold encA; rw [List.length_map, List.length_map]; exact sz_of (by omega), ?_⟩
          have t6 : Tx H5 (upd H5 dl (.dK (mergeK kvs kvf))) := Tx.dic hd5
          have kx : Kx dl H5 (upd H5 dl (.dK (mergeK kvs kvf))) := Kx.upd
          refine ⟨_, _, vd2, vl2, vy2, _, done ++ isort (found.map (·.1)), left.filter fun t => !(getA found t).isSome, isort (found.map (·.1)) :: layers, mergeA lots found, rfl, (eH.trans e5).mut hnd, mL_dic (mL _ _ _ _ e5 pm) hd5 kx, mL_dic pd2 hd5 kx, mL_dic (mL _ _ _ _ ee pl2) hd5 kx, mL_dic (mL _ _ _ _ ee py2) hd5 kx, upd_same, ?_, ?_, ?_, ?_, ?_, ?_, ?_, ?_, hstep.symm⟩
          · have q := DkIm.merge (im5.mv t6) (imf5.mv t6)
            rw [mergeA_enc] at q
            exact q
          · exact fun t m => ll t (List.mem_filter.mp m).1
          · intro t m
            rcases List.mem_append.mp m with m | m
            · exact ld t m
            · obtain ⟨p, hp, rfl⟩ := List.mem_map.mp ((isort_perm _).mem_iff.mp m)
              exact ll _ (fs p hp)
          · omega
          · omega
          · rw [List.length_append]; omega
          · omega
          · rw [List.length_cons]; omega
    · have emp : left = [] := by
        by_cases z : left = []
        · exact z
        · rw [decide_eq_false z] at hb; exact absurd hb (by decide)
      have hl : laysN x = (layers, lots, left) := by
        rw [← hlay]
        cases f with
        | zero => rfl
        | succ f =>
          show (if left = [] then _ else _) = _
          rw [if_pos emp]
      exact s_retP (fin ea hl) fun v H4 e p => k v H4 ((eH.trans ea).trans e) p
end
end Lk
end

section
set_option Elab.async false
set_option linter.all false
set_option maxRecDepth 100000
set_option maxHeartbeats 4000000
namespace Lk
open PySem PySem.Spec PyProof.Rows L2 Evl PySem.W C8
local macro_rules | `(tactic| walk_at "ex") => `(tactic| first | exact Ex.refl _ | assumption | (refine Ex.trans (H1 := ?g) ?a ?b; (case a => assumption); (case b => walk_at "ex")))
local macro_rules | `(tactic| walk_at "im") => `(tactic| first | assumption | exact Im.int _ | exact Im.bl _ | (refine Im.up (H := ?g) ?a ?b; (case a => assumption); (case b => walk_at "ex")))
local macro_rules | `(tactic| walk_at "ev") => `(tactic| first
  | exact ec_i | exact ec_b | exact ec_s | exact ec_n
  | (refine ei_var rfl ?_; walk_at "im")
  | (refine eo ?_ ?_ <;> walk_at "ev")
  | (refine eoB ?_ ?_ <;> walk_at "ev")
  | (refine e_eqI ?_ ?_ <;> walk_at "ev")
  | (refine e_neI ?_ ?_ <;> walk_at "ev")
  | (refine eu ?_ <;> walk_at "ev")
  | (refine e_not ?_ <;> walk_at "ev"))
/-! Data with lists within; a field as a target. -/
mutual
inductive Dm (H : Hp) : V → PyData → Prop
  | int (i : Int) : Dm H (.int i) (.int i)
  | tup {a : Addr} {xs : List V} {ds : List PyData} : (H a = some (.tup xs) ∨ Tz H a xs) → DmAll H xs ds → Dm H (.ref a) (.tuple ds)
  | lst {a : Addr} {xs : List V} {ds : List PyData} : H a = some (.lst xs) → DmAll H xs ds → Dm H (.ref a) (.list ds)
inductive DmAll (H : Hp) : List V → List PyData → Prop
  | nil : DmAll H [] []
  | cons {v : V} {vs : List V} {d : PyData} {ds : List PyData} : Dm H v d → DmAll H vs ds → DmAll H (v :: vs) (d :: ds)
end
mutual
theorem Dm.up {H H' : Hp} (e : Ex H H') : ∀ {v : V} {d : PyData}, Dm H v d → Dm H' v d
  | _, _, .int i => .int i
  | _, _, .tup h r => .tup (h.imp (e _ _) (Tz.up e)) (DmAll.up e r)
  | _, _, .lst h r => .lst (e _ _ h) (DmAll.up e r)
theorem DmAll.up {H H' : Hp} (e : Ex H H') : ∀ {vs : List V} {ds : List PyData}, DmAll H vs ds → DmAll H' vs ds
  | _, _, .nil => .nil
  | _, _, .cons h r => .cons (Dm.up e h) (DmAll.up e r)
end
theorem DmAll.len {H : Hp} : ∀ {vs : List V} {ds : List PyData}, DmAll H vs ds → vs.length = ds.length
  | _, _, .nil => rfl
  | _, _, .cons _ r => congrArg Nat.succ (DmAll.len r)
theorem DmAll.get {H : Hp} : ∀ {vs : List V} {ds : List PyData} {i : Nat} {x : V}, DmAll H vs ds → vs[i]? = some x → ∃ d, ds[i]? = some d ∧ Dm H x d
  | _, _, _, _, .nil, e => by simp at e
  | _, _, 0, _, .cons h _, e => by simp at e; subst e; exact ⟨_, rfl, h⟩
  | _, _, i + 1, x, .cons _ t, e => by
    obtain ⟨d, h1, h2⟩ := DmAll.get (i := i) (x := x) t (by simpa using e)
    exact ⟨d, by simpa using h1, h2⟩
abbrev vM (d : PyData) : VP := fun v H => Dm H v d
theorem mM (d : PyData) : Mono (vM d) := fun _ _ _ e h => h.up e
/-- lists within become tuples -/
def fixD : PyData → PyData
  | .list ds => .tuple (fixDs ds)
  | .tuple ds => .tuple (fixDs ds)
  | d => d
where fixDs : List PyData → List PyData
  | [] => []
  | d :: r => fixD d :: fixDs r
theorem fixDs_map : ∀ ds : List PyData, fixD.fixDs ds = ds.map fixD
  | [] => by simp [fixD.fixDs]
  | d :: r => by rw [fixD.fixDs, fixDs_map r]; rfl
/-- ints, lists and tuples of such, n deep -/
def OkD : Nat → PyData → Prop
  | 0, d => ∃ i, d = .int i
  | n + 1, d => (∃ i, d = .int i) ∨ ∃ ds : List PyData, (d = .list ds ∨ d = .tuple ds) ∧ ds.length ≤ 1000 ∧ ∀ e ∈ ds, OkD n e
section
variable {K : PySem.W.Frag} {σ : L2.St} {H : Hp} {tl te : TE} {vs : List Nat} {j : Nat} {ds : List PyData}
def vMS (ds : List PyData) : VP := fun v H => ∃ p xs, v = .ref p ∧ (H p = some (.lst xs) ∨ H p = some (.tup xs) ∨ Tz H p xs) ∧ DmAll H xs ds
theorem mMS (ds : List PyData) : Mono (vMS ds) := fun _ _ _ e h => by
  obtain ⟨p, xs, r, h, i⟩ := h
  exact ⟨p, xs, r, h.imp (e _ _) fun h => h.imp (e _ _) (Tz.up e), i.up e⟩
theorem src_M (h : EvP tl σ H (vMS ds)) : Src (iSeq K tl) σ H ds.length (fun i x G => ∃ d, ds[i]? = some d ∧ Dm G x d) := fun H1 e K' q =>
  h H1 e _ fun v H2 e2 p => by
    obtain ⟨a, ws, rfl, hp, im⟩ := p
    have len : ws.length = ds.length := im.len
    rcases hp with hp | hp
    · refine ⟨a, rfl, .inl ⟨⟨ws, sqL_inj hp⟩, q _ H2 e2 (fun i H' e3 hi => ?_) fun H' e3 => ⟨ws, sqL_inj (e3 _ _ hp), by omega⟩⟩⟩
      have hi' : i < ws.length := by omega
      refine ⟨⟨ws, ws[i], sqL_inj (e3 _ _ hp), List.getElem?_eq_getElem hi'⟩, fun x G hy => ?_⟩
      obtain ⟨rfl, fx⟩ := hy
      obtain ⟨d, hd, him⟩ := im.get (fx ws (sqL_inj (e3 _ _ hp)))
      exact ⟨Ex.refl _, Tx.refl _, d, hd, him.up e3⟩
    · have sq : ∀ {H'}, Ex H2 H' → SqT K H' a ws := fun e3 => hp.elim (fun h => SqT.of (e3 _ _ h)) fun h => (h.up e3).sq
      refine ⟨a, rfl, .inr ⟨⟨ws, sq (Ex.refl _)⟩, q _ H2 e2 (fun i H' e3 hi => ?_) fun H' e3 => ⟨ws, sq e3, by omega⟩⟩⟩
      have hi' : i < ws.length := by omega
      refine ⟨⟨ws, ws[i], sq e3, List.getElem?_eq_getElem hi'⟩, fun x G hy => ?_⟩
      obtain ⟨rfl, fx⟩ := hy
      obtain ⟨d, hd, him⟩ := im.get (fx ws (sq e3))
      exact ⟨Ex.refl _, Tx.refl _, d, hd, him.up e3⟩
/-- a comprehension over items that bear S -/
theorem lc_S {α : Type} {xs : List α} {wi : TI} (S : α → VP) (ms : ∀ a, Mono (S a)) (G : α → PyData) (h : Src wi σ H xs.length (fun i x G => ∃ a, xs[i]? = some a ∧ S a x G)) (hz : xs.length ≤ 50000) (hw : ∀ x, wipe ((wipe σ vs).set j (some x)) vs = wipe σ vs)
    (he : ∀ a x H1, a ∈ xs → Ex H H1 → S a x H1 → EvP te ((wipe σ vs).set j (some x)) H1 (vI (G a))) : EvP (tLc wi (gName j) tYes te vs) σ H (vL (xs.map G)) := by
  refine lc_any xs.length hz (fun i => (xs[i]?.map fun _ => true).getD false) (fun i => (xs[i]?.map G).getD .none) _ (fun i σ' G => ∃ a x, xs[i]? = some a ∧ σ' = (wipe σ vs).set j (some x) ∧ S a x G) h trivial ?_ ?_ ?_ ?_ ?_
  · rintro i x G hi eG ⟨a, ha, im⟩ k hk
    exact hk _ ⟨a, x, ha, rfl, im⟩ (hw x)
  · rintro i σ' G hi eG ⟨a, x, ha, rfl, im⟩
    rw [show (xs[i]?.map fun _ => true).getD false = true by rw [ha]; rfl]
    exact et_yes
  · rintro i σ' G' hi hf eG ⟨a, x, ha, rfl, im⟩
    rw [show (xs[i]?.map G).getD .none = G a by rw [ha]; rfl]
    exact he a x G' (List.mem_of_getElem? ha) eG im
  · rintro i σ' G G' e ⟨a, x, ha, rfl, im⟩
    exact ⟨a, x, ha, rfl, ms a _ _ _ e im⟩
  · intro p ys G' e hp im
    rw [rfm (fun _ => true) G PyData.none xs, List.filter_eq_self.mpr (fun _ _ => rfl)] at im
    exact ⟨p, ys, rfl, hp, im⟩
theorem e_isLTm (h : EvP te σ H (vMS ds)) : EvP (tCB (rIsiT K) (tCons te (tCons (tTup (tCons (tC (.ty "list")) (tCons (tC (.ty "tuple")) tNil))) tNil))) σ H (vI (.bool true)) :=
  e_isi2 h (mMS _) fun v H1 p => by
    obtain ⟨a, xs, rfl, hp, _⟩ := p
    rcases hp with hp | hp | hp
    · exact ⟨_, .base (.lst hp), k2_list⟩
    · exact ⟨_, .base (.tup hp), k2_tuple⟩
    · exact ⟨_, hp.ty, k2_tuple⟩
end
theorem vMS_of {H : Hp} {v : V} {d : PyData} {ds : List PyData} (h : d = .list ds ∨ d = .tuple ds) (m : Dm H v d) : vMS ds v H := by
  rcases h with rfl | rfl
  · cases m with
    | lst h r => exact ⟨_, _, rfl, .inl h, r⟩
  · cases m with
    | tup h r => exact ⟨_, _, rfl, .inr h, r⟩
/-- o.f as a target -/
def gFld (K : PySem.W.Frag) (ta : TE) (f : Str) : TG := fun v σ H Q => ta σ H fun x H2 => ∃ a C dx fs, x = .ref a ∧ H2 a = some (.ins C dx fs) ∧ Cls K C ∧ NoAttr K C f ∧ fs.length < 1000 ∧ Q σ (upd H2 a (.ins C dx (putF f v fs)))
theorem pg_attr {X : Cx} {o : Expr} {f : Str} {pos : Pos} {ta : TE} (ho : PE X o ta) : PG X (.Attribute o f pos) (gFld X.K ta f) := ⟨fun pins s σ H v u Q I r h => by
  rw [arm_assign_Attribute]
  refine wpAny_bind (wpAny_holding (thn (ho.run pins s σ H _ I h) fun ov s1 ⟨x, H1, I1, rx, a, C, dx, fs, ex, ea, c, n, l, q⟩ => ?_))
  subst ex
  obtain rfl : ov = Value.ref a := rx
  refine wpAny_bind (wpAny_standAt (wpAny_bind (wpAny_holding (setattr_ok I1 ea c n l r fun s2 I2 => ?_))))
  exact wpAny_release ⟨σ, _, I2, q⟩⟩
theorem pe_nev {X : Cx} {e : Expr} : PE X e (fun _ _ _ => False) := ⟨fun _ _ _ _ _ _ h => h.elim⟩
end Lk
end

section
set_option Elab.async false
set_option linter.all false
set_option maxRecDepth 100000
set_option maxHeartbeats 4000000
namespace Lk
open PySem PySem.Spec PyProof.Rows L2 Evl PySem.W C8
local macro_rules | `(tactic| walk_at "ex") => `(tactic| first | exact Ex.refl _ | assumption | (refine Ex.trans (H1 := ?g) ?a ?b; (case a => assumption); (case b => walk_at "ex")))
local macro_rules | `(tactic| walk_at "im") => `(tactic| first | assumption | exact Im.int _ | exact Im.bl _ | (refine Im.up (H := ?g) ?a ?b; (case a => assumption); (case b => walk_at "ex")))
local macro_rules | `(tactic| walk_at "ev") => `(tactic| first
  | exact ec_i | exact ec_b | exact ec_s | exact ec_n
  | (refine ei_var rfl ?_; walk_at "im")
  | (refine eo ?_ ?_ <;> walk_at "ev")
  | (refine eoB ?_ ?_ <;> walk_at "ev")
  | (refine e_eqI ?_ ?_ <;> walk_at "ev")
  | (refine e_neI ?_ ?_ <;> walk_at "ev")
  | (refine eu ?_ <;> walk_at "ev")
  | (refine e_not ?_ <;> walk_at "ev"))
section
variable {P : Program} {w : World} {K : PySem.W.Frag} {mg : Str → Option Value} {base : Heap} {c : Cs}
/-! ### fixed -/
abbrev sp_fixed (n : Nat) : Sp := spP (OkD n) (fun d => a1 (vM d)) fun d => vI (fixD d)
theorem c_fixed (T : Txt K mg c) : ∀ n, Cal P w K mg base (n + 1) "fixed" (sp_fixed n) []
  | 0 => by
    refine mkCal T.d_fixed sc_fixed (fun _ _ _ _ _ _ us hl => match us, hl with | [_], _ => rfl) (fun vs H Q E h => ?_) (fun f cdv A outer s H vs Q E hr h => ?_)
    · obtain ⟨x, hx, a, _⟩ := h
      obtain ⟨v0, rfl, _⟩ := a1o a
      rfl
    · obtain ⟨x, hx, a, k⟩ := h
      obtain ⟨v0, rfl, p0⟩ := a1o a
      refine ⟨_, pss_one (ps_ret (pe_ifExp (pt_val (pe_callB (id := "isinstance") (cr_isiTK K) (by rfl) T.b_isinstance (by decide +kernel) (pa_cons (pv 0) (pa_cons (pe_tup (pa_cons (pe_ty (n := "list") (by rfl) T.b_list (by decide +kernel)) (pa_cons (pe_ty (n := "tuple") (by rfl) T.b_tuple (by decide +kernel)) (pa_nil)))) (pa_nil))))) pe_nev (pv 0))), ?_⟩
      obtain ⟨i, rfl⟩ := hx
      cases p0
      exact s_retP (ep_if (et_v (e_isLTi (ei_var rfl (.int i)))) (fun z => nomatch z) fun _ => ei_var rfl (.int i)) fun v H1 e p => k v H1 e p
  | n + 1 => by
    have c_ih := c_fixed T n
    refine mkCal T.d_fixed sc_fixed (fun _ _ _ _ _ _ us hl => match us, hl with | [_], _ => rfl) (fun vs H Q E h => ?_) (fun f cdv A outer s H vs Q E hr h => ?_)
    · obtain ⟨x, hx, a, _⟩ := h
      obtain ⟨v0, rfl, _⟩ := a1o a
      rfl
    · obtain ⟨x, hx, a, k⟩ := h
      obtain ⟨v0, rfl, p0⟩ := a1o a
      refine ⟨_, pss_one (ps_ret (pe_ifExp (pt_val (pe_callB (id := "isinstance") (cr_isiTK K) (by rfl) T.b_isinstance (by decide +kernel) (pa_cons (pv 0) (pa_cons (pe_tup (pa_cons (pe_ty (n := "list") (by rfl) T.b_list (by decide +kernel)) (pa_cons (pe_ty (n := "tuple") (by rfl) T.b_tuple (by decide +kernel)) (pa_nil)))) (pa_nil))))) (pe_callTy (T := "tuple") (cr_tupleK K) (by rfl) T.b_tuple (by decide +kernel) (pa_cons (pe_lc (own := [("each", 1)]) rfl sc_fixed.nd (pi_seqK K (pv 0)) (blkOk_by (N := N_fixed) (sc := defScope s_fixed) (own := [("each", 1)]) (by decide +kernel)) (fun _ _ _ _ _ => pg_name (i := 1) sc_fixed.nd rfl (Or.inl rfl)) (fun _ _ _ _ _ => pts_nil) (fun _ _ _ _ _ => pe_c c_ih hr (Nat.le_refl _) (by rfl) (pa_cons (pv 1) (pa_nil)))) (pa_nil))) (pv 0))), ?_⟩
      rcases hx with ⟨i, rfl⟩ | ⟨ds, hd, hl, ho⟩
      · cases p0
        exact s_retP (ep_if (et_v (e_isLTi (ei_var rfl (.int i)))) (fun z => nomatch z) fun _ => ei_var rfl (.int i)) fun v H1 e p => k v H1 e p
      · have p1 := vMS_of hd p0
        have e0 : fixD x = .tuple (ds.map fixD) := by rcases hd with rfl | rfl <;> rw [fixD, fixDs_map]
        refine s_retP (P := vI (fixD x)) ?_ fun v H1 e p => k v H1 e p
        rw [e0]
        exact ep_if (et_v (e_isLTm (ep_var rfl (mMS _) p1))) (fun _ => e_tuple (vSL (lc_S (fun d => vM d) mM fixD (src_M (ep_var rfl (mMS _) p1)) (by omega) (fun _ => rfl) fun d y H1 m e i => ep_callP d (ho d m) (ea_1 (mM _) (ep_var rfl (mM _) i))))) fun z => nomatch z
/-! ### Paper.__init__ -/
def spPaperB (K : PySem.W.Frag) : Sp := fun vs H Q _ => ∃ (C a dx : Addr) (wd : Str) (p : V) (ds : List PyData), vs = [.ref a, .str wd, p] ∧ H a = some (.ins C dx []) ∧ Cls K C ∧ NoAttr K C "word" ∧ NoAttr K C "parts" ∧ Dm H p (.tuple ds) ∧ OkD 8 (.tuple ds) ∧ ∀ H', Kx a H H' → NI a C dx [("word", .str wd), ("parts", fixD (.tuple ds))] H' → Q .non H'
def spPaper (K : PySem.W.Frag) : Sp := fun vs H Q E => ∃ ws rest, vs = ws ++ rest ∧ ws.length = (["self", "word"] : List Str).length ∧ rest.length ≤ sizeLine ∧ ∀ p, H p = none → spPaperB K (ws ++ [V.ref p]) (upd H p (.tup rest)) Q E
theorem cxUp0 : StX.CXUp L2.CX0 := fun _ _ _ _ _ _ _ _ _ _ _ z => z
/-- data along a change at an instance -/
theorem Dm.ni {a C dx : Addr} {fs : List (Str × PyData)} {H H1 : Hp} (hn : NI a C dx fs H) (k : Kx a H H1) : ∀ {v : V} {d : PyData}, Dm H v d → Dm H1 v d := by
  obtain ⟨f, h1, _⟩ := hn
  have nt : ∀ b xs, H b = some (.tup xs) → H1 b = some (.tup xs) := fun b xs h => k b _ (fun z => by rw [z, h1] at h; cases h) h
  have nl : ∀ b xs, H b = some (.lst xs) → H1 b = some (.lst xs) := fun b xs h => k b _ (fun z => by rw [z, h1] at h; cases h) h
  intro v d h
  exact Dm.rec (motive_1 := fun v d _ => Dm H1 v d) (motive_2 := fun vs ds _ => DmAll H1 vs ds) (fun i => .int i) (fun h _ r => .tup (h.imp (nt _ _) (Kx.tx k (nt_ins h1) _ _)) r) (fun h _ r => .lst (nl _ _ h) r) .nil (fun _ _ h r => .cons h r) h
theorem c_Paper_init (T : Txt K mg c) {f2 : Addr} {fd2 : FuncData} (F : FunD K "__init__" "Paper.__init__" (defArgs s_Paper_init) (defBody s_Paper_init) (defScope s_Paper_init) [] [] f2 fd2) : FnR P w K mg base L2.CX0 10 f2 (spPaper K) := by
  have c_fixed := c_fixed (P := P) (w := w) (base := base) T 8
  obtain ⟨oc, od, dV, kV, doc, pm, an, cdv, ct, osl, rfl, lk, hcd, hD, _⟩ := F.ex
  obtain rfl : dV = .none := by
    rcases hD with ⟨_, e⟩ | ⟨e, _⟩
    · exact e
    · exact absurd rfl e
  refine StX.fn_star (ps := ["self", "word"]) (pv := "parts") (N := N_Paper_init) (sp := spPaperB K) lk hcd sc_Paper_init cxUp0 ?_ fun A outer s H vs Q E hr h => ?_
  · exact StX.bind_star2 (p1 := "self") (p2 := "word") (pv := "parts") (B := fun us => bindArgs (PySem.W.fnOf "__init__" "Paper.__init__" (defArgs s_Paper_init) (defBody s_Paper_init) (defScope s_Paper_init) .none kV doc pm an cdv ct) ⟨us, []⟩) (fun a b => rfl) fun a b r rs => rfl
  · obtain ⟨C, a, dx, wd, p, ds, rfl, ha, hc, n1, n2, hd, ok, k⟩ := h
    have hu := hu_of hr
    suffices q : ∃ t, PSs (cxOf L2.CX0 P w K mg base N_Paper_init "Paper.__init__" (defScope s_Paper_init) f2 cdv A outer s H E).nox (defBody s_Paper_init) t ∧ t { nx := fun _ H' => Q .non H', rt := Q } (start N_Paper_init [.ref a, .str wd, p]) H by
      obtain ⟨t, h1, h2⟩ := q
      exact ⟨t, h1.nox, h2⟩
    refine ⟨_, pss_cons (ps_fld (pv 0) (pv 1) rfl)
      (pss_one (ps_fld (pv 0) (pe_c c_fixed hr (by decide) (by rfl) (pa_cons (pv 2) (pa_nil))) rfl)), ?_⟩
    have i0 : NI a C dx [] H := ⟨[], ha, .nil⟩
    refine q_ni (d := .str wd) (ei_var rfl (.str wd)) (ev_var rfl) i0 hc n1 (by show 0 < 1000; omega) fun H1 k1 i1 => ?_
    refine s_ni (d := fixD (.tuple ds)) (ep_callP (PyData.tuple ds) ok (ea_1 (mM _) (ep_var rfl (mM _) (Dm.ni i0 k1 hd)))) (ev_var rfl) i1 hc n2 (by show 1 < 1000; omega) fun H2 k2 i2 => ?_
    exact k _ (k1.trans k2) i2
end
end Lk
end

section
set_option Elab.async false
set_option linter.all false
set_option maxRecDepth 100000
set_option maxHeartbeats 4000000
namespace Lk
open PySem PySem.Spec PyProof.Rows L2 Evl PySem.W C8
local macro_rules | `(tactic| walk_at "ex") => `(tactic| first | exact Ex.refl _ | assumption | (refine Ex.trans (H1 := ?g) ?a ?b; (case a => assumption); (case b => walk_at "ex")))
local macro_rules | `(tactic| walk_at "im") => `(tactic| first | assumption | exact Im.int _ | exact Im.bl _ | (refine Im.up (H := ?g) ?a ?b; (case a => assumption); (case b => walk_at "ex")))
local macro_rules | `(tactic| walk_at "ev") => `(tactic| first
  | exact ec_i | exact ec_b | exact ec_s | exact ec_n
  | (refine ei_var rfl ?_; walk_at "im")
  | (refine eo ?_ ?_ <;> walk_at "ev")
  | (refine eoB ?_ ?_ <;> walk_at "ev")
  | (refine e_eqI ?_ ?_ <;> walk_at "ev")
  | (refine e_neI ?_ ?_ <;> walk_at "ev")
  | (refine eu ?_ <;> walk_at "ev")
  | (refine e_not ?_ <;> walk_at "ev"))
/-! Lots, Stuck. -/
/-- a class that may be made by its name, by a positional promise -/
structure MakR (P : Program) (w : World) (K : PySem.W.Frag) (mg : Str → Option Value) (base : Heap) (k : Nat) (x : Str) (C : Addr) (sp : Sp) : Prop where
  ex : ∃ f : Addr, Mk K C f ∧ FnR P w K mg base L2.CX0 k f sp ∧ mg x = some (.ref C)
theorem pe_mkR {X : Cx} {k j : Nat} {C : Addr} {x : Str} {sp : Sp} {p pos : Pos} {e : Expr} {es : List Expr} {t : TA} (c : MakR X.prog X.w X.K X.mg X.base k x C sp) (hr : Room j X.A) (hk : k + 1 ≤ j) (hg : Gl X x) (ha : PA X (e :: es) t)
    (hdb : (x == ("__debug__" : Str)) = false := by decide) (he : starEach (e :: es) X.env = (false, eval e X.env) :: starEach es X.env := by rfl) (hpl : (backTo pos (starEach es X.env)).any (·.1) = false := by rfl) :
    PE X (.Call (.Name x p) (e :: es) [] pos) (StX.tMakeR C sp L2.E0 t) := by
  obtain ⟨f, M, F, hm⟩ := c.ex
  exact StX.pe_makeR M F (hr.mono hk) hg hm L2.pass0 ha hdb he hpl
theorem ep_mkR {α : Type} {pre : α → Prop} {arg : α → AV} {fds : α → List (Str × PyData)} {σ : L2.St} {H : Hp} {ta : TA} {C : Addr} {E : XK} (x : α) (hp : pre x) (h : EvAs ta σ H (arg x)) (ma : ∀ vs H H', Ex H H' → arg x vs H → arg x vs H') : EvP (StX.tMakeR C (spI C pre arg fds) E ta) σ H (vO C (fds x)) := fun H1 e Q q =>
  h H1 e _ fun vs H2 e2 a o dx ho hd ne => by
    have eo : Ex H2 (upd (upd H2 dx (.own o)) o (.ins C dx [])) := fun b u hb => by
      have n1 : b ≠ o := fun z => by rw [z, ho] at hb; cases hb
      have n2 : b ≠ dx := fun z => by rw [z, hd] at hb; cases hb
      rw [upd_ne n1, upd_ne n2]
      exact hb
    refine ⟨x, o, dx, vs, hp, rfl, upd_same, ma _ _ _ eo a, fun H3 k f => ⟨rfl, ?_⟩⟩
    obtain ⟨fs, h1, h2⟩ := f
    have e3 : Ex H2 H3 := fun b u hb => k b u (fun z => by rw [z, ho] at hb; cases hb) (eo b u hb)
    exact q _ _ (e2.trans e3) ⟨o, dx, fs, rfl, h1, h2⟩
abbrev lotsF (x : PyData × PyData) : List (Str × PyData) := [("word", .str "lots"), ("parts", .tuple [fixD x.1, fixD x.2]), ("layers", fixD x.1), ("lots", fixD x.2)]
abbrev stuckF (x : PyData × PyData) : List (Str × PyData) := [("word", .str "stuck"), ("parts", .tuple [fixD x.1, fixD x.2]), ("left", fixD x.1), ("shows", fixD x.2)]
abbrev OkP (x : PyData × PyData) : Prop := OkD 7 x.1 ∧ OkD 7 x.2
abbrev sp_Lots (c : Cs) : Sp := spI c.lots OkP (fun x => a2 (vM x.1) (vM x.2)) lotsF
abbrev sp_Stuck (c : Cs) : Sp := spI c.stuck OkP (fun x => a2 (vM x.1) (vM x.2)) stuckF
/-- self.f, self.g = self.parts -/
theorem s_two {K : PySem.W.Frag} {σ : L2.St} {H : Hp} {a C dx : Addr} {ds : List (Str × PyData)} {f g : Str} {d e : PyData} {D : Ends} (hs : Ev (tVar 0) σ H (.ref a)) (hs2 : σ[0]? = some (some (.ref a))) (i : NI a C dx ds H) (c : Cls K C) (np : NoAttr K C "parts") (n1 : NoAttr K C f) (n2 : NoAttr K C g) (z : ds.length < 900) (l : ds.lookup ("parts" : Str) = some (.tuple [d, e])) (k : ∀ H1, Kx a H H1 → NI a C dx (putD g e (putD f d ds)) H1 → D.nx σ H1) :
    tAsg (tFld K (tVar 0) "parts") (gTup K 2 (gCons (gFld K (tVar 0) f) (gCons (gFld K (tVar 0) g) gNil))) D σ H := by
  refine (e_fo (ep_var hs2 (mO _ _) i.o) c np l) H (Ex.refl H) _ fun v H1 e1 p => ?_
  obtain ⟨q, xs, rfl, hq, im⟩ := Im.isTup p
  obtain ⟨x, y, rfl, i1, i2⟩ := im.two
  obtain ⟨fs, h1, h2⟩ := i.up e1
  have fl := h2.len
  refine ⟨q, [x, y], rfl, sqT_inj hq, rfl, x, [y], rfl, .ref a, hs2, a, C, dx, fs, rfl, h1, c, n1, by omega, y, [], rfl, .ref a, hs2, a, C, dx, putF f x fs, rfl, upd_same, c, n2, ?_, rfl, ?_⟩
  · have : ∀ (fs : List (Str × V)), (putF f x fs).length ≤ fs.length + 1 := fun fs => by
      induction fs with
      | nil => exact Nat.le_refl _
      | cons p r ih =>
        unfold putF
        by_cases z : p.1 = f
        · rw [if_pos z]; exact Nat.le_succ _
        · rw [if_neg z]; exact Nat.succ_le_succ ih
    have := this fs
    omega
  · have t1 : Tx H1 (upd H1 a (.ins C dx (putF f x fs))) := (Kx.upd (p := a)).tx (nt_ins h1)
    have k1 : Kx a H1 (upd H1 a (.ins C dx (putF f x fs))) := Kx.upd
    have g2 : (upd H1 a (.ins C dx (putF f x fs))) a = some (.ins C dx (putF f x fs)) := upd_same
    generalize upd H1 a (.ins C dx (putF f x fs)) = H2 at t1 k1 g2
    have t2 : Tx H2 (upd H2 a (.ins C dx (putF g y (putF f x fs)))) := (Kx.upd (p := a)).tx (nt_ins g2)
    exact k _ (((Kx.of e1).trans k1).trans Kx.upd) ⟨_, upd_same, FsIm.put ((i2.mv t1).mv t2) ((FsIm.put (i1.mv t1) (h2.mv t1)).mv t2)⟩
section
variable {w : World} {K : PySem.W.Frag} {mg : Str → Option Value} {base : Heap} {c : Cs}
theorem sc_Lots : SupScope ["self", "layers", "lots"] (defScope s_Lots_init) := ⟨rfl, rfl, rfl, by decide +kernel, by decide +kernel, by decide +kernel, fun us hl i y u h1 h2 => match us, hl with
  | [a, b, d], _ => match i with
    | 0 => by cases h1; cases h2; rfl
    | 1 => by cases h1; cases h2; rfl
    | 2 => by cases h1; cases h2; rfl
    | n + 3 => by simp at h1⟩
theorem sc_Stuck : SupScope ["self", "left", "shows"] (defScope s_Stuck_init) := ⟨rfl, rfl, rfl, by decide +kernel, by decide +kernel, by decide +kernel, fun us hl i y u h1 h2 => match us, hl with
  | [a, b, d], _ => match i with
    | 0 => by cases h1; cases h2; rfl
    | 1 => by cases h1; cases h2; rfl
    | 2 => by cases h1; cases h2; rfl
    | n + 3 => by simp at h1⟩
theorem c_Lots (T : Txt K mg c) : MakR c.prog w K mg base 14 "Lots" c.lots (sp_Lots c) := by
  obtain ⟨f, f2, fd2, M, D, F⟩ := T.m_Lots_init
  have FP := c_Paper_init (P := c.prog) (w := w) (base := base) T F
  refine ⟨f, M, ?_, T.g_Lots⟩
  refine fn_super (k := 13) D sc_Lots T.b_super rfl (fun _ _ _ _ _ _ _ us hl => match us, hl with | [_, _, _], _ => rfl) rfl rfl rfl rfl (fun env => rfl) (fun env => rfl) (fun env => rfl) (fun env h => by unfold interactive; rw [h]; rfl) (fun env => rfl) FP ?_
  intro X H vs Q E hK hP hw hmg hbase hcalm hN hsc hr h
  obtain ⟨x, a, dx, ws, ok, rfl, ha, h, k⟩ := h
  obtain ⟨v1, v2, rfl, p1, p2⟩ := a2o h
  subst hK
  refine ⟨by decide, rfl, a, dx, [v1, v2], [], _, _, rfl, ha, pa_cons pe_str (pa_cons (pe_var (i := 1) (x := "layers") (by rw [hN]; rfl) (.inl (by rw [hsc]; rfl))) (pa_cons (pe_var (i := 2) (x := "lots") (by rw [hN]; rfl) (.inl (by rw [hsc]; rfl))) pa_nil)), pss_one (ps_asg (pe_fldK X.K (pe_var (i := 0) (x := "self") (by rw [hN]; rfl) (.inl (by rw [hsc]; rfl)))) (pg_tupK X.K (n := 2) hcalm (pgs_cons (pg_attr (pe_var (i := 0) (x := "self") (by rw [hN]; rfl) (.inl (by rw [hsc]; rfl)))) (pgs_cons (pg_attr (pe_var (i := 0) (x := "self") (by rw [hN]; rfl) (.inl (by rw [hsc]; rfl)))) pgs_nil)))), ?_⟩
  refine ⟨v1, rfl, v2, rfl, [.ref a, .str "lots"], [v1, v2], rfl, rfl, by show 2 ≤ sizeLine; decide, fun p hp => ?_⟩
  have e0 : Ex H (upd H p (.tup [v1, v2])) := Ex.new hp
  refine ⟨c.lots, a, dx, "lots", .ref p, [x.1, x.2], rfl, e0 _ _ ha, T.cl_Lots, T.nLots_word, T.nLots_parts, .tup (.inl upd_same) (.cons (p1.up e0) (.cons (p2.up e0) .nil)), .inr ⟨_, .inr rfl, by show 2 ≤ 1000; omega, fun d m => ?_⟩, fun H' kx ni => ?_⟩
  · rcases List.mem_cons.mp m with rfl | m
    · exact ok.1
    · rw [List.mem_singleton] at m
      rw [m]; exact ok.2
  · refine s_two (a := a) (C := c.lots) (dx := dx) (d := fixD x.1) (e := fixD x.2) (ev_var rfl) rfl ni T.cl_Lots T.nLots_parts T.nLots_layers T.nLots_lots (by show 2 < 900; omega) rfl fun H2 k2 i2 => ?_
    exact k _ (((Kx.of e0).trans kx).trans k2) i2
theorem c_Stuck (T : Txt K mg c) : MakR c.prog w K mg base 14 "Stuck" c.stuck (sp_Stuck c) := by
  obtain ⟨f, f2, fd2, M, D, F⟩ := T.m_Stuck_init
  have FP := c_Paper_init (P := c.prog) (w := w) (base := base) T F
  refine ⟨f, M, ?_, T.g_Stuck⟩
  refine fn_super (k := 13) D sc_Stuck T.b_super rfl (fun _ _ _ _ _ _ _ us hl => match us, hl with | [_, _, _], _ => rfl) rfl rfl rfl rfl (fun env => rfl) (fun env => rfl) (fun env => rfl) (fun env h => by unfold interactive; rw [h]; rfl) (fun env => rfl) FP ?_
  intro X H vs Q E hK hP hw hmg hbase hcalm hN hsc hr h
  obtain ⟨x, a, dx, ws, ok, rfl, ha, h, k⟩ := h
  obtain ⟨v1, v2, rfl, p1, p2⟩ := a2o h
  subst hK
  refine ⟨by decide, rfl, a, dx, [v1, v2], [], _, _, rfl, ha, pa_cons pe_str (pa_cons (pe_var (i := 1) (x := "left") (by rw [hN]; rfl) (.inl (by rw [hsc]; rfl))) (pa_cons (pe_var (i := 2) (x := "shows") (by rw [hN]; rfl) (.inl (by rw [hsc]; rfl))) pa_nil)), pss_one (ps_asg (pe_fldK X.K (pe_var (i := 0) (x := "self") (by rw [hN]; rfl) (.inl (by rw [hsc]; rfl)))) (pg_tupK X.K (n := 2) hcalm (pgs_cons (pg_attr (pe_var (i := 0) (x := "self") (by rw [hN]; rfl) (.inl (by rw [hsc]; rfl)))) (pgs_cons (pg_attr (pe_var (i := 0) (x := "self") (by rw [hN]; rfl) (.inl (by rw [hsc]; rfl)))) pgs_nil)))), ?_⟩
  refine ⟨v1, rfl, v2, rfl, [.ref a, .str "stuck"], [v1, v2], rfl, rfl, by show 2 ≤ sizeLine; decide, fun p hp => ?_⟩
  have e0 : Ex H (upd H p (.tup [v1, v2])) := Ex.new hp
  refine ⟨c.stuck, a, dx, "stuck", .ref p, [x.1, x.2], rfl, e0 _ _ ha, T.cl_Stuck, T.nStuck_word, T.nStuck_parts, .tup (.inl upd_same) (.cons (p1.up e0) (.cons (p2.up e0) .nil)), .inr ⟨_, .inr rfl, by show 2 ≤ 1000; omega, fun d m => ?_⟩, fun H' kx ni => ?_⟩
  · rcases List.mem_cons.mp m with rfl | m
    · exact ok.1
    · rw [List.mem_singleton] at m
      rw [m]; exact ok.2
  · refine s_two (a := a) (C := c.stuck) (dx := dx) (d := fixD x.1) (e := fixD x.2) (ev_var rfl) rfl ni T.cl_Stuck T.nStuck_parts T.nStuck_left T.nStuck_shows (by show 2 < 900; omega) rfl fun H2 k2 i2 => ?_
    exact k _ (((Kx.of e0).trans kx).trans k2) i2
end
end Lk
end

section
set_option Elab.async false
set_option linter.all false
set_option maxRecDepth 100000
set_option maxHeartbeats 4000000
namespace Lk
open PySem PySem.Spec PyProof.Rows L2 Evl PySem.W C8
local macro_rules | `(tactic| walk_at "ex") => `(tactic| first | exact Ex.refl _ | assumption | (refine Ex.trans (H1 := ?g) ?a ?b; (case a => assumption); (case b => walk_at "ex")))
local macro_rules | `(tactic| walk_at "im") => `(tactic| first | assumption | exact Im.int _ | exact Im.bl _ | (refine Im.up (H := ?g) ?a ?b; (case a => assumption); (case b => walk_at "ex")))
local macro_rules | `(tactic| walk_at "ev") => `(tactic| first
  | exact ec_i | exact ec_b | exact ec_s | exact ec_n
  | (refine ei_var rfl ?_; walk_at "im")
  | (refine eo ?_ ?_ <;> walk_at "ev")
  | (refine eoB ?_ ?_ <;> walk_at "ev")
  | (refine e_eqI ?_ ?_ <;> walk_at "ev")
  | (refine e_neI ?_ ?_ <;> walk_at "ev")
  | (refine eu ?_ <;> walk_at "ev")
  | (refine e_not ?_ <;> walk_at "ev"))
theorem fm_congr {α β : Type} {f g : α → Option β} : ∀ l : List α, (∀ a ∈ l, f a = g a) → l.filterMap f = l.filterMap g
  | [], _ => rfl
  | a :: rels, h => by rw [List.filterMap_cons, List.filterMap_cons, h a List.mem_cons_self, fm_congr rels fun b m => h b (List.mem_cons_of_mem _ m)]
/-! tuple[::-1]; dict(tuple of pairs); enumerate(tuple); zip of unlike lengths. -/
section
variable {prog : Program} {w : World} {A : Around} {E : Value → Shared → Prop} {s : Shared}
theorem sliceApplied_rev {sl : Addr} {vl vu vs : Value} {n : Nat} {Q : Int × Int × Nat → Shared → Prop} (isS : s.heap.IsSliceOf sl vl vu vs) (pLo : IsPart vl none) (pUp : IsPart vu none) (pSt : IsPart vs (some (-1)))
    (h : Q ((n : Int) - 1, -1, n) s) : wpAny (model prog w) A (Builtin.Slice.sliceApplied (.ref sl) (pure (n : Int))) Q E s := by
  obtain ⟨so, atS, clsS, datS⟩ := id isS
  unfold Builtin.Slice.sliceApplied Builtin.Slice.sliceFields
  refine wpAny_bind (wpAny_bind (wpAny_field atS datS (x := vl) rfl (wpAny_bind (wpAny_field atS datS (x := vu) rfl (wpAny_bind (wpAny_field atS datS (x := vs) rfl (wpAny_pure ?_)))))))
  refine wpAny_bind (HT.slicePart_ pSt ?_)
  show wpAny _ _ (if ((-1 : Int) == 0) = true then _ else _) _ _ s
  rw [if_neg (by decide)]
  refine wpAny_bind (HT.slicePart_ pLo (wpAny_bind (HT.slicePart_ pUp (wpAny_bind (wpAny_pure ?_)))))
  have e : Builtin.Slice.sliceAdjust none none (-1) (n : Int) = ((n : Int) - 1, -1) := by
    unfold Builtin.Slice.sliceAdjust
    simp
  have eqL2 : Builtin.Slice.slicePlaces ((n : Int) - 1) (-1) (-1) = n := by
    unfold Builtin.Slice.slicePlaces
    have h1 : ¬ ((-1 : Int) > 0) := by decide
    simp only [h1, if_false]
    by_cases h : (-1 : Int) < (n : Int) - 1
    · first
        | (simp only [h, if_true]; rw [show (- -1 : Int) = 1 by decide, Int.ediv_one]; omega)
        | (simp [h]; omega)
    · have z : n = 0 := by omega
      subst z
      simp
  show wpAny _ _ (match Builtin.Slice.sliceAdjust none none (-1) (n : Int) with | (lo, hi) => pure (lo, (-1 : Int), Builtin.Slice.slicePlaces lo hi (-1))) _ _ s
  rw [e]
  show wpAny _ _ (pure ((n : Int) - 1, (-1 : Int), Builtin.Slice.slicePlaces ((n : Int) - 1) (-1) (-1))) _ _ s
  rw [eqL2]
  exact wpAny_pure h
theorem pick_rev (xs : Array Value) : ((List.range xs.size).filterMap fun (m : Nat) => xs[((xs.size : Int) - 1 + (m : Int) * -1).toNat]?).toArray = xs.toList.reverse.toArray := by
  have h := PySem.W.krv_pick xs
  unfold slicePick at h
  rw [PySem.W.krv_bounds] at h
  have h2 : ((sliceRange ((xs.size : Int) - 1) (-1) (-1)).filterMap (xs[·]?)).toArray = xs.toList.reverse.toArray := h
  rw [PySem.W.krv_sliceRange, List.filterMap_map] at h2
  rw [← h2]
  congr 1
  refine fm_congr _ fun m notMods => ?_
  have lt := List.mem_range.mp notMods
  show xs[((xs.size : Int) - 1 + (m : Int) * -1).toNat]? = xs[xs.size - 1 - m]?
  rw [show ((xs.size : Int) - 1 + (m : Int) * -1).toNat = xs.size - 1 - m by omega]
theorem getItem_tuple_rev {t sl : Addr} {items : Array Value} {vl vu vs : Value} {Q : Value → Shared → Prop} (isT : IsTup s.heap t items) (isS : s.heap.IsSliceOf sl vl vu vs) (pLo : IsPart vl none) (pUp : IsPart vu none) (pSt : IsPart vs (some (-1)))
    (h : Q (.ref s.heap.objs.size) { s with heap := s.heap.push { cls := .type "tuple", data := .seq items.toList.reverse.toArray } }) (hsz : items.size ≤ sizeLine) : wpAny (model prog w) A (getItem (.ref t) (.ref sl)) Q E s := by
  have fits : sizeOk (.seq items.toList.reverse.toArray) := by
    show items.toList.reverse.toArray.size ≤ sizeLine
    rw [List.size_toArray, List.length_reverse, Array.length_toList]
    exact hsz
  obtain ⟨so, atS, clsS, datS⟩ := id isS
  have tyS : s.TypeIs (.ref sl) "slice" := ⟨so, atS, clsS⟩
  unfold getItem
  try with_reducible refine wpAny_holding ?_
  first | refine wpAny_bind (wpAny_pure ?_) | skip
  refine wpAny_bind (wpAny_sequenceKey isT.typeIs (by decide) ?_)
  refine wpAny_bind (wpAny_callSpecial?_slot (name := Str.ofString "__getitem__") isT.typeIs PyProof.Rows.slot_tuple_getitem
    (wpAny_call_entry PyProof.Rows.slot_tuple_getitem isT.typeIs entry_tuple_getitem ?_ (args_tuple_getitem _ _)))
  show wpAny _ _ (Builtin.Tuple.tupleItemsOf (.ref t) >>= _) _ _ s
  refine wpAny_bind (tupleItemsOf_ isT ?_)
  refine wpAny_bind (wpAny_typeOf tyS ?_)
  rw [if_pos (by decide)]
  refine wpAny_bind (sliceApplied_rev isS pLo pUp pSt ?_)
  have notOne : ¬ ((((items.size : Int) - 1) == 0 && (-1 : Int) == 1 && items.size == items.size) = true) := by
    intro q
    rw [Bool.and_eq_true, Bool.and_eq_true] at q
    exact absurd (eq_of_beq q.1.2) (by decide)
  show wpAny _ _ (if (((items.size : Int) - 1) == 0 && (-1 : Int) == 1 && items.size == items.size) = true then _ else _) _ _ s
  rw [if_neg notOne, pick_rev]
  first
    | exact wpAny_bind (m := Builtin.Tuple.tupleExact _) (wpAny_newObj_type (wpAny_pure ⟨_, rfl, wpAny_pure h⟩) fits)
    | exact wpAny_bind (m := Builtin.Tuple.tupleExact _) (wpAny_newObj_type (wpAny_bind (wpAny_pure (wpAny_pure ⟨_, rfl, wpAny_pure h⟩))) fits)
    | exact wpAny_bind (wpAny_bind (m := Builtin.Tuple.tupleExact _) (wpAny_newObj_type (wpAny_pure (wpAny_pure ⟨_, rfl, wpAny_pure h⟩)) fits))
    | exact wpAny_bind (wpAny_bind (m := Builtin.Tuple.tupleExact _) (wpAny_newObj_type (wpAny_pure ⟨_, rfl, wpAny_pure h⟩) fits))
end
def tRevT (K : PySem.W.Frag) (te : TE) : TE := fun σ H Q => te σ H fun x H1 => ∃ a xs, x = .ref a ∧ SqT K H1 a xs ∧ ∀ (p : Addr) (o : Obj), o.dict = none → H1 p = none → Q (.ref p) (upd H1 p (.frz o (.tup xs.reverse)))
theorem pe_revT {X : Cx} {e : Expr} {te : TE} {k : Nat} {p1 p2 p3 pos : Pos} (he2 : PE X e te) : PE X (.Subscript e (.Slice none none (some (.UnaryOp .USub (.Constant (.int 1) k p1) p2)) p3) pos) (tRevT X.K te) := by
  refine ⟨fun pins s σ H Q I h => ?_⟩
  refine Subscript_ (thn (he2.run pins s σ H _ I h) fun v s1 ⟨x, H1, I1, rl, want⟩ => ?_)
  obtain ⟨a, xs, eqx, tq, q⟩ := want
  subst eqx
  cases rl
  have stepP : PO X (some (.UnaryOp .USub (.Constant (.int 1) k p1) p2)) (tPart (tUn (rU fun i => .int (-i)) (tC (.int 1)))) := po_some (pe_un un_neg pe_int)
  refine wpAny_Slice (thn (po_none.run pins s1 σ H1 (fun o H2 => o = none ∧ H2 = H1) I1 ⟨rfl, rfl⟩) fun vl s2 ⟨l, H2, I2, pLo, eqL, eqL2⟩ => ?_)
  subst eqL eqL2
  refine thn (po_none.run pins s2 σ H2 (fun o H3 => o = none ∧ H3 = H2) I2 ⟨rfl, rfl⟩) fun vu s3 ⟨u, H3, I3, pUp, eqU, eqU2⟩ => ?_
  subst eqU eqU2
  refine thn (stepP.run pins s3 σ H3 (fun o H4 => o = some (-1) ∧ H4 = H3) I3 ⟨1, rfl, -1, rfl, rfl, rfl⟩) fun vs s4 ⟨o, H4, I4, pSt, eqO, eqO2⟩ => ?_
  subst eqO eqO2
  have J5 : Inv X pins σ H4 { s4 with heap := s4.heap.push { cls := .type "slice", data := .fields #[vl, vu, vs] } } := I4.kept (t' := s4.toks) fun b ob q => Heap.get?_push_of_some _ q
  obtain ⟨cells, rels, isT, zl⟩ := J5.tuple tq
  have lens := rels.length
  show wpAny (model X.prog X.w) X.A (subscriptTail e (.Slice none none (some (.UnaryOp .USub (.Constant (.int 1) k p1) p2)) p3) (.ref a) (.ref s4.heap.objs.size)) (EP X pins σ Q) X.xe { s4 with heap := s4.heap.push { cls := .type "slice", data := .fields #[vl, vu, vs] } }
  refine tail_any (ops := [.ref a, .ref s4.heap.objs.size]) isT.typeIs (PyProof.Rows.slot_tuple_getitem.lookup) ?_ (by with_unfolding_all rfl)
  refine getItem_tuple_rev isT (Heap.IsSliceOf.new _ vl vu vs) pLo pUp pSt ?_ (by rw [List.size_toArray]; omega)
  have new := J5.laid (t' := s4.toks) (o := .frz { cls := .type "tuple", data := .seq cells.toArray.toList.reverse.toArray } (.tup xs.reverse)) (h' := (s4.heap.push { cls := .type "slice", data := .fields #[vl, vu, vs] }).push { cls := .type "tuple", data := .seq cells.toArray.toList.reverse.toArray }) (fun b ob q => Heap.get?_push_of_some _ q) (Nat.le_refl _)
    ⟨Heap.get?_push_size _ rfl, by rw [List.length_reverse]; exact zl, cells.reverse, rels.reverse, IsTup.new _ _⟩
  exact ⟨.ref _, _, new, rfl, q _ _ rfl (J5.hok.fresh (Nat.le_refl _))⟩
section
variable {K : PySem.W.Frag} {σ : L2.St} {H : Hp} {te : TE} {α : Type} {enc : α → PyData} {xs : List α}
theorem e_revT (h : EvP te σ H (vI (.tuple (xs.map enc)))) : EvP (tRevT K te) σ H (vI (.tuple (xs.reverse.map enc))) := fun H1 e Q q => h H1 e _ fun v H2 eqL2 p => by
  obtain ⟨a, ws, rfl, at_, im⟩ := p.isTup
  refine ⟨a, ws, rfl, at_.sq, fun t o d isT => q _ _ (eqL2.trans (Ex.new isT)) (.tup (Tz.new d) ?_)⟩
  rw [List.map_reverse]
  exact im.rev.mv (Tx.new isT)
end
/-! dict of a tuple of pairs -/
theorem pairs_of2 {X : Cx} {pins : List (Addr × Obj)} {σ : L2.St} {H : Hp} {s : Shared} (I : Inv X pins σ H s) : ∀ {pSt : List Addr} {kvs : List (Key × V)}, Paired (fun p kv => SqT X.K H p [kV kv.1, kv.2]) pSt kvs →
    ∃ (made : List (Key × Value)) (vals_ : List (Value × Value)), KV kvs made ∧ made.length = pSt.length ∧ vals_.length = pSt.length ∧ ∀ (j : Nat) (vp : Value × Value), vals_[j]? = some vp → ∃ (b : Addr) (k : Key), pSt[j]? = some b ∧ made[j]? = some (k, vp.2) ∧ IsTup s.heap b #[vp.1, vp.2] ∧ keyIs k vp.1 = true
  | _, _, .nil => ⟨[], [], .nil, rfl, rfl, fun j q e => by simp at e⟩
  | _, _, .cons (a := p) (b := kv) h t => by
    obtain ⟨made, vals_, rels, lnA, lnB, at_⟩ := pairs_of2 I t
    obtain ⟨cells, rels2, isT, _⟩ := I.tuple h
    obtain ⟨u, y, eqi, relK, relY⟩ := vals2 rels2
    subst eqi
    refine ⟨(kv.1, y) :: made, (u, y) :: vals_, .cons ⟨rfl, relY⟩ rels, by rw [List.length_cons, List.length_cons, lnA], by rw [List.length_cons, List.length_cons, lnB], fun j vp e => ?_⟩
    cases j with
    | zero =>
      have e' : (u, y) = vp := Option.some.inj e
      subst e'
      exact ⟨p, kv.1, rfl, rfl, isT, kV_is (P := X.prog) (w := X.w) relK⟩
    | succ j =>
      obtain ⟨b, k, e1, eqL2, eqU2, eqO2⟩ := at_ j vp (by simpa using e)
      exact ⟨b, k, by simpa using e1, by simpa using eqL2, eqU2, eqO2⟩
abbrev rDictT (K : PySem.W.Frag) : List V → Hp → VK → Prop := fun xs H Q => ∃ (a : Addr) (pSt : List Addr) (kvs : List (Key × V)), xs = [.ref a] ∧ Tz H a (pSt.map V.ref) ∧ Paired (fun p kv => SqT K H p [kV kv.1, kv.2]) pSt kvs ∧
    ∀ p, H p = none → Q (.ref p) (upd H p (.dK (mergeK [] kvs)))
theorem cr_dictT {X : Cx} (K : PySem.W.Frag) (hcalm : X.calm = true) (hK : X.K = K := by rfl) : CallR X (.type "dict") (rDictT K) := by
  subst hK
  intro pins s σ H xs us Q I rels q
  obtain ⟨a, pSt, kvs, eqx, tq2, at_, q⟩ := q
  subst eqx
  obtain ⟨u, eqU, rx⟩ := vals1 rels
  subst eqU
  cases rx
  obtain ⟨cells, rels2, ⟨o', ho', hc, n, hdat⟩, zl⟩ := I.tuple (X := X) tq2.sq
  obtain ⟨o, hdn, hfr⟩ := tq2
  have ho : s.heap.get? a = some o := (I.hok a _ hfr).1
  rw [ho] at ho'
  cases ho'
  have eqi := refs_at rels2
  subst eqi
  rw [List.length_map] at zl
  obtain ⟨made, vals_, relKV, lnA, lnB, atPr⟩ := pairs_of2 I at_
  have P := PairArg.tuple (prog := X.prog) (w := X.w) a (pSt.map Value.ref).toArray (fun j => pSt.getD j 0) vals_
  refine PySem.call_dict_pairs (knd := mixKind X.prog X.w) (kvs := made) P (I.ok.hd hcalm) ⟨⟨_, n, ho, hc, hdn, hdat⟩, by simp [lnB], fun j k v hj => ?_⟩ ⟨by omega, fun i key v hi => ?_⟩ (by omega) fun h' tk dict' k => ?_
  · obtain ⟨b, kk, e1, eqL2, eqU2, eqO2⟩ := atPr j (k, v) hj
    refine ⟨by simp [e1], .inl ?_⟩
    have e5 : pSt.getD j 0 = b := by rw [List.getD_eq_getElem?_getD, e1]; rfl
    show s.heap.IsTuple (pSt.getD j 0) #[k, v]
    rw [e5]
    exact eqU2
  · obtain ⟨b, kk, e1, eqL2, eqU2, eqO2⟩ := atPr i (key, v) hi
    exact ⟨kk, eqL2, eqO2⟩
  · have notMods : (s.heap.objs.size == sysModules) = false := beq_eq_false_iff_ne.mpr (Nat.ne_of_gt I.big)
    have lens : (mergeK [] kvs).length ≤ sizeLine := by
      refine Nat.le_trans (length_mergeK kvs []) ?_
      rw [List.length_nil, Nat.zero_add, relKV.length, lnA]
      exact zl
    exact ⟨.ref s.heap.objs.size, upd H s.heap.objs.size (.dK (mergeK [] kvs)), I.laid (t' := tk) (fun b o e => k b o (by simp) e) (Nat.le_refl _) (show ObjOk X.prog X.w _ _ _ (.dK (mergeK [] kvs)) from ⟨lens, notMods, merged [] made, KV.merge relKV .nil, dict'⟩), rfl, q _ (I.hok.fresh (Nat.le_refl _))⟩
/-- tuples of pairs (number, data) -/
abbrev prD (p : Nat × PyData) : PyData := .tuple [dN p.1, p.2]
theorem pairs_im {K : PySem.W.Frag} {H : Hp} : ∀ {ws : List V} {pSt : List (Nat × PyData)}, ImAll H ws (pSt.map prD) → ∃ (as : List Addr) (kvs : List (Key × V)), ws = as.map V.ref ∧ Paired (fun p kv => SqT K H p [kV kv.1, kv.2]) as kvs ∧ DkIm H kvs pSt
  | [], [], _ => ⟨[], [], rfl, .nil, .nil⟩
  | [], _ :: _, h => nomatch h
  | _ :: _, [], h => nomatch h
  | x :: xs, p :: pSt, h => by
    cases h with
    | cons h rels =>
      obtain ⟨as, kvs, e, pr, dk⟩ := pairs_im (K := K) rels
      obtain ⟨a, ys, rfl, t, im⟩ := h.isTup
      obtain ⟨u, v, rfl, i1, i2⟩ := im.two
      cases Im.isInt i1
      exact ⟨a :: as, (.inl (p.1 : Int), v) :: kvs, by rw [e]; rfl, .cons (show SqT K H a [kV (.inl (p.1 : Int)), v] from t.sq) pr, .cons i2 dk⟩
theorem e_dictT {K : PySem.W.Frag} {σ : L2.St} {H : Hp} {te : TE} {pSt : List (Nat × PyData)} (h : EvP te σ H (vI (.tuple (pSt.map prD)))) : EvP (tCB (rDictT K) (tCons te tNil)) σ H (vDF H (mergeA [] pSt)) := fun H1 e Q q => h H1 e _ fun v H2 eqL2 p => by
  obtain ⟨a, ws, rfl, t, im⟩ := p.isTup
  obtain ⟨as, kvs, rfl, pr, dk⟩ := pairs_im (K := K) im
  exact ⟨a, as, kvs, rfl, t, pr, fun d hd => q _ _ (eqL2.trans (Ex.new hd)) ⟨d, _, rfl, fresh_back (e.trans eqL2) hd, upd_same, DkIm.merge .nil (dk.mv (Tx.new hd))⟩⟩
end Lk
end

section
set_option Elab.async false
set_option linter.all false
set_option maxRecDepth 100000
set_option maxHeartbeats 4000000
namespace Lk
open PySem PySem.Spec PyProof.Rows L2 Evl PySem.W C8
local macro_rules | `(tactic| walk_at "ex") => `(tactic| first | exact Ex.refl _ | assumption | (refine Ex.trans (H1 := ?g) ?a ?b; (case a => assumption); (case b => walk_at "ex")))
local macro_rules | `(tactic| walk_at "im") => `(tactic| first | assumption | exact Im.int _ | exact Im.bl _ | (refine Im.up (H := ?g) ?a ?b; (case a => assumption); (case b => walk_at "ex")))
local macro_rules | `(tactic| walk_at "ev") => `(tactic| first
  | exact ec_i | exact ec_b | exact ec_s | exact ec_n
  | (refine ei_var rfl ?_; walk_at "im")
  | (refine eo ?_ ?_ <;> walk_at "ev")
  | (refine eoB ?_ ?_ <;> walk_at "ev")
  | (refine e_eqI ?_ ?_ <;> walk_at "ev")
  | (refine e_neI ?_ ?_ <;> walk_at "ev")
  | (refine eu ?_ <;> walk_at "ev")
  | (refine e_not ?_ <;> walk_at "ev"))
/-! enumerate(tuple). -/
/-- what enumerate(v) makes -/
abbrev enumO (it : Addr) : Obj := { cls := .type "enumerate", data := .fields #[.none, .bool false, .ref it, rawInt 0, .none, .none] }
theorem meets_enum1 {v : Value} {o : Obj} {H : Heap → Prop} (B : Begins v o H) :
    Meets (Builtin.«enumerate.__new__» ⟨[.type "enumerate", v], []⟩) (fun _ R s => H s.heap ∧
      R (.ok (.ret (.ref (s.heap.push o).objs.size))) { s with heap := (s.heap.push o).push (enumO s.heap.objs.size) }) :=
  .of_wp fun prog w A R s h => by
    obtain ⟨now, h⟩ := h
    obtain ⟨hp, g, d, tk, os⟩ := s
    have hsub := sub_enumerate
    have q1 : ∀ {A1 : Around} {E1 : Value → Shared → Prop} {Q1 : Value → Shared → Prop}, Q1 (.ref hp.objs.size) ⟨hp.push o, g, d, tk, os⟩ → wpAny (model prog w) A1 (pyIter v) Q1 E1 ⟨hp, g, d, tk, os⟩ := fun z => B.iter prog w _ _ ⟨hp, g, d, tk, os⟩ _ now z
    wp_walk using q1
    refine wpAny_stack_any fun sta => wpAny_pure ?_
    split
    · rename_i c _ _ _ _ _
      cases (c == Value.type "enumerate")
      · wp_walk using q1
        exact ⟨_, rfl, h⟩
      · wp_walk using q1
        exact ⟨_, rfl, h⟩
    · wp_walk using q1
      exact ⟨_, rfl, h⟩
theorem call_enumT {prog : Program} {w : World} {A : Around} {E : Value → Shared → Prop} {s : Shared} {t : Addr} {items : Array Value} {Q : Value → Shared → Prop} (ht : s.heap.IsTuple t items)
    (go : ∀ h2, IsEnum h2 (s.heap.objs.size + 1) s.heap.objs.size 0 .none → h2.IsTupleIter s.heap.objs.size t 0 → h2.objs.size = s.heap.objs.size + 2 → (∀ b o, s.heap.get? b = some o → h2.get? b = some o) → Q (.ref (s.heap.objs.size + 1)) { s with heap := h2 }) : wpAny (model prog w) A (call (.type "enumerate") [.ref t]) Q E s := by
  refine callType_new F.called_enumerate (by decide) (F.typeCall_enumerate_1 _) (F.newCall_enumerate_1 _) (fun obj => F.args_object_init_2 obj _) F.entry_enumerate_new (meets_enum1 (begins_tuple t items)) ⟨ht, ?_⟩
  generalize ei : ({ cls := .type "tuple_iterator", data := .fields #[.ref t, .int 0 0] } : Obj) = io
  have zl : (s.heap.push io).objs.size = s.heap.objs.size + 1 := Heap.size_push ..
  show _ ∧ _
  rw [zl]
  have one : ((s.heap.push io).push (enumO s.heap.objs.size)).get? s.heap.objs.size = some io := Heap.get?_push_of_some _ (Heap.get?_push_size _ (by rw [← ei]; rfl))
  have two : IsEnum ((s.heap.push io).push (enumO s.heap.objs.size)) (s.heap.objs.size + 1) s.heap.objs.size 0 .none := by
    have z := Heap.get?_push_size (s.heap.push io) (o := enumO s.heap.objs.size) rfl
    rw [zl] at z
    exact z
  exact ⟨⟨_, two, rfl⟩, go _ two ⟨io, one, by rw [← ei], by rw [← ei]; rfl⟩ (by rw [Heap.size_push, zl]) fun b o z => Heap.get?_push_of_some _ (Heap.get?_push_of_some _ z)⟩
/-- the tuple at a, each item in a new pair -/
def IteT (K : PySem.W.Frag) (a : Addr) : It :=
  ⟨fun i H => ∃ (xs : List V) (x : V), SqT K H a xs ∧ xs[i]? = some x, fun i H v H' => ∃ T x, v = .ref T ∧ H T = none ∧ H' = upd H T (.tup [.int (i : Nat), x]) ∧ ∀ xs, SqT K H a xs → xs[i]? = some x, fun i H => ∃ xs : List V, SqT K H a xs ∧ xs.length ≤ i⟩
theorem tup_inj {X : Cx} {pins : List (Addr × Obj)} {σ : L2.St} {H : Hp} {s : Shared} {a : Addr} {xs ys : List V} (I : Inv X pins σ H s) (h1 : SqT X.K H a xs) (h2 : SqT X.K H a ys) : xs = ys := I.tuple_inj h1 h2
theorem turn_enumT {P : Program} {w : World} {K : PySem.W.Frag} {elts : List Expr} {kk : Nat} {tpos : Pos} (a e it : Addr) :
    Turn P w K (.Tuple elts kk tpos) (IteT K a) [e, it] e (fun i h => (∃ old, IsEnum h e it ((i : Nat) : Int) old) ∧ h.IsTupleIter it a i ∧ e ≠ it) where
  mem := by simp
  obj := fun i h sta b hb => by
    obtain ⟨⟨old, atEn⟩, ⟨o, made, hc, hd⟩, _⟩ := sta
    have which : b = e ∨ b = it := by simpa using hb
    rcases which with z | z
    · rw [z]; exact ⟨_, atEn, fun v q => nomatch q⟩
    · rw [z]; exact ⟨o, made, fun v q => by rw [hd] at q; cases q⟩
  keep := fun i h h' sta k => let ⟨⟨old, atEn⟩, hi, apart⟩ := sta; ⟨⟨old, k e (by simp) _ atEn⟩, hi.at fun o q => k it (by simp) o q, apart⟩
  item := by
    intro X eqP eqw eqK hc i pins s σ H E I fre sta hg
    subst eqP eqw eqK
    obtain ⟨⟨old, atEn⟩, atIt, apart⟩ := sta
    obtain ⟨xs, x, tq, itemAt⟩ := hg
    obtain ⟨cells, rels, p, zl⟩ := I.tuple tq
    obtain ⟨u, itemV, ru⟩ := rels.get itemAt
    have inEn : e < s.heap.objs.size := Heap.lt_size atEn
    have inIt : it < s.heap.objs.size := by obtain ⟨_, q, _⟩ := atIt; exact Heap.lt_size q
    have ha : s.heap.IsTuple a cells.toArray := p
    have apE : e ≠ a := fun z => by
      obtain ⟨o, made, cls_, _⟩ := ha
      rw [← z, show s.heap.get? e = some _ from atEn] at made
      cases made
      exact absurd (Value.type.inj cls_) (by decide)
    have apI : a ≠ it := fun z => by
      obtain ⟨o, made, cls_, _⟩ := ha
      obtain ⟨o2, made2, cls2, _⟩ := atIt
      rw [z, made2] at made
      cases made
      rw [cls2] at cls_
      exact absurd (Value.type.inj cls_) (by decide)
    have D := Draws.tuple (prog := X.prog) (w := X.w) (A := X.A.in1) (show X.A.in1.handled = none from I.ok.hd hc) it a apI cells.toArray
    have ltn : i < cells.toArray.size := by
      have := (List.getElem?_eq_some_iff.mp itemV).1
      simpa using this
    refine wpAny_pyNext_enum_itemD D atEn ⟨atIt, ha⟩ ltn apart (by simp; exact ⟨apart, apE⟩) fun x' h' tk gotP made sta' tTup size_ kept => ?_
    have ex : x' = u := by
      have h1 : cells.toArray[i]? = some x' := gotP
      have h2 : cells.toArray[i]? = some u := by simpa using itemV
      rw [h1] at h2
      exact Option.some.inj h2
    subst ex
    refine ⟨_, rfl, wpAny_letOwnedTupleGo_enum (s := { s with heap := h', toks := tk + 1 }) made fun h'' atEn' same => ?_⟩
    have tTup2 : h''.get? s.heap.objs.size = some { cls := .type "tuple", data := .seq #[.int i tk, x'] } := (same.2 _ (Nat.ne_of_gt inEn)).trans tTup
    have fresh_ : ObjOk X.prog X.w (upd H s.heap.objs.size (.tup [.int (i : Nat), x])) h'' s.heap.objs.size (.tup [.int (i : Nat), x]) :=
      ⟨by show 2 ≤ sizeLine; decide, [.int i tk, x'], .cons ⟨_, rfl⟩ (.cons ru .nil), ⟨_, tTup2, rfl, _, rfl⟩⟩
    have J1 : Inv X pins σ (upd H s.heap.objs.size (.tup [.int (i : Nat), x])) { s with heap := h'', toks := tk + 1 } :=
      I.turnedNew (ch := [e, it]) (fun b ob hb q => (same.2 b (fun z => hb (by simp [z]))).trans (kept b ob (fun z => hb (by simp [z])) (fun z => hb (by simp [z])) q)) fre (Nat.le_refl _) fresh_
    refine ⟨.ref s.heap.objs.size, _, J1, rfl, ⟨_, x, rfl, I.hok.fresh (Nat.le_refl _), rfl, fun ys hy => by rw [tup_inj I hy tq]; exact itemAt⟩, ⟨⟨x', ?_⟩, sta'.1.at fun o q => (same.2 it (Ne.symm apart)).trans q, apart⟩, fun b hb => ?_⟩
    · rw [show ((i + 1 : Nat) : Int) = (i : Int) + 1 by omega]
      exact atEn'
    · have below : b < s.heap.objs.size := by
        have which : b = e ∨ b = it := by simpa using hb
        rcases which with z | z
        · rw [z]; exact inEn
        · rw [z]; exact inIt
      rw [upd_ne (Nat.ne_of_lt below)]
      exact (fre b hb).1
  done := by
    intro X eqP eqw eqK hc i pins s σ H E I fre sta hg
    subst eqP eqw eqK
    obtain ⟨⟨old, atEn⟩, atIt, apart⟩ := sta
    obtain ⟨xs, tq, itemAt⟩ := hg
    obtain ⟨cells, rels, p, zl⟩ := I.tuple tq
    obtain ⟨f0, f1, f2, f3, f4, f5⟩ := fre it (by simp)
    have lenx := rels.length
    have ha : s.heap.IsTuple a cells.toArray := p
    have tTup : s.TypeIs (.ref e) "enumerate" := ⟨_, atEn, rfl⟩
    unfold pyNext
    refine wpAny_bind (wpAny_attempt (wpAny_callSpecial?_slot (name := Str.ofString "__next__") tTup F.slot_enumerate_next
      (wpAny_call_entry F.slot_enumerate_next tTup F.entry_enumerate_next ?_ (F.args_enumerate_next_1 _))))
    show wpAny _ _ (field (.ref e) 2 >>= _) _ _ _
    refine wpAny_bind (wpAny_field atEn rfl (x := .ref it) rfl ?_)
    refine wpAny_bind (wpAny_nextOf_tuple_end (I.ok.hd hc) atIt ha (by simp; omega) fun h' x atEn' hx' => ?_)
    obtain ⟨o, made, hc'⟩ := hx'
    refine wpAny_bind (wpAny_isInstance (T := "StopIteration") (b := true) ⟨o, made, hc'⟩ isSubtype_stop ?_)
    exact wpAny_pure ⟨rfl, I.turned (t' := s.toks) (fun b o hb q => atEn' b o hb q) f0 f1 f3 f4 f5⟩
  self := fun A i s Q E sta h => let ⟨⟨_, atEn⟩, _⟩ := sta; wpAny_pyIter_enum atEn h
def iEnumT (K : PySem.W.Frag) (ta : TA) : TI := fun σ H R => ta σ H fun vs H1 => ∃ a xs, vs = [.ref a] ∧ SqT K H1 a xs ∧ R (IteT K a) H1
theorem pi_enumT {X : Cx} (K : PySem.W.Frag) {e : Expr} {ta : TA} {p pos tpos : Pos} {elts : List Expr} {kk : Nat} (hg : Gl X "enumerate") (hm : X.mg "enumerate" = none) (ha : PA X [e] ta) (hs : starEach [e] X.env = [(false, eval e X.env)] := by rfl) (eqK : X.K = K := by rfl) :
    PI X (.Tuple elts kk tpos) (.Call (.Name "enumerate" p) [e] [] pos) (iEnumT K ta) := by
  subst eqK
  refine ⟨fun pins s σ H R I h => ?_⟩
  refine Call_ (ld_blt I hg hm boot_enumerate (PyProof.Rows.callWith_type1 (thn (ha.run pos pins s σ H _ I h) fun us s1 ⟨vs, H1, J1, r1, q1⟩ => ?_) hs rfl))
  obtain ⟨a, xs, ex, tq, q⟩ := q1
  subst ex
  cases r1 with
  | cons r rr =>
    cases rr
    cases r
    obtain ⟨cells, rels, p', zl⟩ := J1.tuple tq
    refine call_enumT (show s1.heap.IsTuple a cells.toArray from p') fun h' atEn atIt size_ kept => wpAny_pyIter_enum atEn ?_
    have J2 : Inv X pins σ H1 { s1 with heap := h' } := J1.kept (t' := s1.toks) kept
    refine ⟨s1.heap.objs.size + 1, [s1.heap.objs.size + 1, s1.heap.objs.size], _, _, H1, rfl, J2, turn_enumT a (s1.heap.objs.size + 1) s1.heap.objs.size, ⟨⟨.none, atEn⟩, atIt, Nat.succ_ne_self _⟩, fun b hb => ?_, q⟩
    have which : b = s1.heap.objs.size + 1 ∨ b = s1.heap.objs.size := by simpa using hb
    have hle : s1.heap.objs.size ≤ b := by
      rcases which with z | z
      · rw [z]; exact Nat.le_add_right _ _
      · rw [z]; exact Nat.le_refl _
    exact J1.fpOk hle (J1.hok.fresh hle)
end Lk
end

section
set_option Elab.async false
set_option linter.all false
set_option maxRecDepth 100000
set_option maxHeartbeats 4000000
namespace Lk
open PySem PySem.Spec PyProof.Rows L2 Evl PySem.W C8
local macro_rules | `(tactic| walk_at "ex") => `(tactic| first | exact Ex.refl _ | assumption | (refine Ex.trans (H1 := ?g) ?a ?b; (case a => assumption); (case b => walk_at "ex")))
local macro_rules | `(tactic| walk_at "im") => `(tactic| first | assumption | exact Im.int _ | exact Im.bl _ | (refine Im.up (H := ?g) ?a ?b; (case a => assumption); (case b => walk_at "ex")))
local macro_rules | `(tactic| walk_at "ev") => `(tactic| first
  | exact ec_i | exact ec_b | exact ec_s | exact ec_n
  | (refine ei_var rfl ?_; walk_at "im")
  | (refine eo ?_ ?_ <;> walk_at "ev")
  | (refine eoB ?_ ?_ <;> walk_at "ev")
  | (refine e_eqI ?_ ?_ <;> walk_at "ev")
  | (refine e_neI ?_ ?_ <;> walk_at "ev")
  | (refine eu ?_ <;> walk_at "ev")
  | (refine e_not ?_ <;> walk_at "ev"))
/-! need_net; isinstance of own classes. -/
theorem ty_o {K : PySem.W.Frag} {C : Addr} {ds : List (Str × PyData)} {v : V} {H : Hp} (i : InsC K C) (c : Cls K C) (h : vO C ds v H) : TyX K H v (.ref C) := by
  obtain ⟨a, dx, fs, rfl, hl, _⟩ := h
  exact .base (.ins hl c i.ha i.hn i.htk i.hm)
section
variable {P : Program} {w : World} {K : PySem.W.Frag} {mg : Str → Option Value} {base : Heap} {c : Cs}
abbrev sp_need_net : Sp := spF (fun x : NetD => a2 (vNet c x) (vI (.str "net"))) fun _ => vI .none
theorem fn_need_net (T : Txt K mg c) {f : Addr} {fd : FuncData} (F : FunD K "need_net" "need_net" (defArgs s_need_net) (defBody s_need_net) (defScope s_need_net) [.str "net"] [] f fd) : FnOk P w K mg base L2.CX0 1 f fd ["value", "part"] (sp_need_net (c := c)) := by
  refine F.ok (N := N_need_net) (k := 0) sc_need_net (fun vs H Q E h => ?_) (fun cdv A outer s H vs Q E hr h => ?_)
  · obtain ⟨x, a, _⟩ := h
    obtain ⟨v0, v1, rfl, _⟩ := a2o a
    rfl
  · obtain ⟨x, a, k⟩ := h
    obtain ⟨v0, v1, rfl, p0, p1⟩ := a2o a
    suffices q : ∃ t, PSs (cxOf L2.CX0 P w K mg base N_need_net "need_net" (defScope s_need_net) f cdv A outer s H E).nox (defBody s_need_net) t ∧ t { nx := fun _ H' => Q .non H', rt := Q } (start N_need_net [v0, v1]) H by
      obtain ⟨t, h1, h2⟩ := q
      exact ⟨t, h1.nox, h2⟩
    refine ⟨_, pss_one (ps_if (pt_not (pt_val (pe_callB (id := "isinstance") (cr_isiK K) (by rfl) T.b_isinstance (by decide +kernel) (pa_cons (pv 0) (pa_cons (pe_glob (v := .ref c.net) rfl T.g_Net rfl) (pa_nil)))))) (pss_one (ps_never)) (pss_nil)), ?_⟩
    exact s_ifF (et_not (a := true) (et_v (e_isiC (ep_var rfl (mO _ _) p0) (mO _ _) fun v H1 p => ⟨_, ty_o T.i_Net T.cl_Net p, T.k_net⟩))) fun H1 e1 => k _ _ e1 .non
theorem c_need_net (T : Txt K mg c) : Cal P w K mg base 1 "need_net" (sp_need_net (c := c)) [] := by
  obtain ⟨f, fd, F, m⟩ := T.d_need_net.ex
  obtain ⟨ds, hv, hb⟩ := F.binds1 (ps := ["value", "part"]) 2 1 (fun z => by cases z) rfl (fun T kV doc pm an cdv ct us its h1 h2 => match us, its, h1, h2 with | [_, _], [_], _, _ => ⟨_, rfl, rfl⟩)
  cases hv
  exact ⟨f, fd, _, [], fn_need_net T F, m, F.kp, hb, .nil⟩
theorem c_need_net1 (T : Txt K mg c) : Cal P w K mg base 1 "need_net" (sp_need_net (c := c)) [.str "net"] := by
  obtain ⟨f, fd, F, m⟩ := T.d_need_net.ex
  obtain ⟨ds, hv, hb⟩ := F.binds1 (ps := ["value", "part"]) 1 0 (fun z => by cases z) rfl (fun T kV doc pm an cdv ct us its h1 h2 => match us, its, h1, h2 with | [_], [_], _, _ => ⟨_, rfl, rfl⟩)
  exact ⟨f, fd, _, ds, fn_need_net T F, m, F.kp, hb, hv⟩
end
theorem ep_callD {α : Type} {arg : α → AV} {res : α → VP} {σ : L2.St} {H : Hp} {E : XK} {ta : TA} {dvs : List V} {A : AV} (x : α) (h : EvAs ta σ H A) (hA : ∀ vs H1, Ex H H1 → A vs H1 → arg x (vs ++ dvs) H1) : EvP (tCall (spF arg res) dvs E ta) σ H (res x) := fun H1 e Q q =>
  h H1 e _ fun vs H2 e2 a => ⟨x, hA vs H2 (e.trans e2) a, fun v H3 e3 r => q v H3 (e2.trans e3) r⟩
end Lk
end

section
set_option Elab.async false
set_option linter.all false
set_option maxRecDepth 100000
set_option maxHeartbeats 4000000
namespace Lk
open PySem PySem.Spec PyProof.Rows L2 Evl PySem.W C8
local macro_rules | `(tactic| walk_at "ex") => `(tactic| first | exact Ex.refl _ | assumption | (refine Ex.trans (H1 := ?g) ?a ?b; (case a => assumption); (case b => walk_at "ex")))
local macro_rules | `(tactic| walk_at "im") => `(tactic| first | assumption | exact Im.int _ | exact Im.bl _ | (refine Im.up (H := ?g) ?a ?b; (case a => assumption); (case b => walk_at "ex")))
local macro_rules | `(tactic| walk_at "ev") => `(tactic| first
  | exact ec_i | exact ec_b | exact ec_s | exact ec_n
  | (refine ei_var rfl ?_; walk_at "im")
  | (refine eo ?_ ?_ <;> walk_at "ev")
  | (refine eoB ?_ ?_ <;> walk_at "ev")
  | (refine e_eqI ?_ ?_ <;> walk_at "ev")
  | (refine e_neI ?_ ?_ <;> walk_at "ev")
  | (refine eu ?_ <;> walk_at "ev")
  | (refine e_not ?_ <;> walk_at "ev"))
/-! Lists of lists. -/
section
variable {K : PySem.W.Frag} {σ : L2.St} {H : Hp} {ta tb te tl : TE} {tas : TA} {vs : List Nat} {j : Nat}
theorem ev_ix {p : Addr} {ws : List V} {n : Nat} {z : V} (ha : Ev ta σ H (.ref p)) (hp : H p = some (.lst ws)) (hb : EvP tb σ H (vI (dN n))) (h : ws[n]? = some z) : Ev (tOp (rIx K) ta tb) σ H z := fun H1 e Q q =>
  ha H1 e _ fun H2 e2 => hb H2 (e.trans e2) _ fun y H3 e3 py => by
    cases Im.isInt py
    exact .inl ⟨p, ws, (n : Int), z, rfl, rfl, SqL.of (((e.trans e2).trans e3) _ _ hp), atI_nat h, q H3 (e2.trans e3)⟩
/-- [[] for _ in range(n)] -/
theorem ev_lists {n : Nat} (h : EvAs tas σ H (a1 (vI (dN n)))) (hn : n ≤ 50000) (hw : ∀ x, wipe ((wipe σ vs).set j (some x)) vs = wipe σ vs) :
    EvP (tLc (iRng1 tas) (gName j) tYes (tLst tNil) vs) σ H (fun v G => ∃ (p : Addr) (as : List Addr), v = .ref p ∧ H p = none ∧ G p = some (.lst (as.map V.ref)) ∧ as.length = n ∧ as.Nodup ∧ p ∉ as ∧ ∀ a ∈ as, H a = none ∧ G a = some (.lst [])) := by
  intro H1 e1 Q q
  refine src_R1 h hn H1 e1 _ fun J H2 e2 hJ hS => ?_
  intro Dl hD
  have base : Ex H H2 := e1.trans e2
  refine ⟨fun i m G => m = n - i ∧ i ≤ n ∧ Ex H2 G ∧ ∃ as : List Addr, G Dl = some (.lst (as.map V.ref)) ∧ as.length = i ∧ as.Nodup ∧ Dl ∉ as ∧ ∀ a ∈ as, H2 a = none ∧ G a = some (.lst []), ⟨n, rfl, Nat.zero_le _, Ex.new hD, [], upd_same, rfl, List.nodup_nil, by simp, by simp⟩, ?_⟩
  rintro i m G ⟨rfl, hi, eG, as, hx, la, nd, nD, fr⟩
  by_cases hlt : i < n
  · obtain ⟨go, yl⟩ := hJ i G eG hlt
    refine .inr ⟨go, fun G' => Ex H2 G' ∧ ∃ as : List Addr, G' Dl = some (.lst (as.map V.ref)) ∧ as.length = i + 1 ∧ as.Nodup ∧ Dl ∉ as ∧ ∀ a ∈ as, H2 a = none ∧ G' a = some (.lst []), fun G' p => ⟨n - (i + 1), by omega, rfl, hlt, p.1, p.2⟩, fun x G1 hy => ?_⟩
    obtain ⟨eY, _, y⟩ := yl x G1 hy
    refine ⟨hw x, ?_⟩
    dsimp only [tYes]
    rw [if_pos rfl]
    refine ⟨by show 0 ≤ sizeLine; exact Nat.zero_le _, fun p hp => ⟨as.map V.ref, ?_, ?_, ?_⟩⟩
    · have hx1 := eY _ _ hx
      rw [upd_ne (fun z => by rw [z, hp] at hx1; cases hx1)]
      exact hx1
    · rw [List.length_map, la]; exact sz_lt (by omega)
    · have hx1 := eY _ _ hx
      have pD : p ≠ Dl := fun z => by rw [z, hx1] at hp; cases hp
      have pn : p ∉ as := fun m => by
        have := eY _ _ (fr p m).2
        rw [hp] at this; cases this
      have p2 : H2 p = none := fresh_back (eG.trans eY) hp
      refine ⟨Ex.mut ((eG.trans eY).trans (Ex.new hp)) hD, as ++ [p], ?_, by rw [List.length_append, la]; rfl, ?_, ?_, fun a m => ?_⟩
      · rw [upd_same, List.map_append]; rfl
      · rw [List.nodup_append]
        exact ⟨nd, by simp, fun a ha b hb => by rw [List.mem_singleton] at hb; rw [hb]; exact fun z => pn (z ▸ ha)⟩
      · rw [List.mem_append, List.mem_singleton]
        exact fun z => z.elim nD fun z => pD z.symm
      · rcases List.mem_append.mp m with m | m
        · have aD : a ≠ Dl := fun z => nD (z ▸ m)
          have ap : a ≠ p := fun z => pn (z ▸ m)
          refine ⟨(fr a m).1, ?_⟩
          rw [upd_ne aD, upd_ne ap]
          exact eY _ _ (fr a m).2
        · rw [List.mem_singleton] at m
          rw [m]
          refine ⟨p2, ?_⟩
          rw [upd_ne pD]
          exact upd_same
  · have e : i = n := by omega
    subst e
    refine .inl ⟨hS G eG, q _ _ (e2.trans eG) ⟨Dl, as, rfl, fresh_back base hD, hx, la, nd, nD, fun a m => ⟨fresh_back base (fr a m).1, (fr a m).2⟩⟩⟩
/-- items that bear S -/
def vLS {α : Type} (S : α → VP) (xs : List α) : VP := fun v H => ∃ p ws, v = .ref p ∧ H p = some (.lst ws) ∧ ws.length = xs.length ∧ ∀ (i : Nat) (x : V), ws[i]? = some x → ∃ a, xs[i]? = some a ∧ S a x H
theorem src_LS {α : Type} {S : α → VP} {xs : List α} (ms : ∀ a, Mono (S a)) (h : EvP tl σ H (vLS S xs)) : Src (iSeq K tl) σ H xs.length (fun i x G => ∃ a, xs[i]? = some a ∧ S a x G) := fun H1 e K' q =>
  h H1 e _ fun v H2 e2 p => by
    obtain ⟨a, ws, rfl, hp, len, im⟩ := p
    refine ⟨a, rfl, .inl ⟨⟨ws, sqL_inj hp⟩, q _ H2 e2 (fun i H' e3 hi => ?_) fun H' e3 => ⟨ws, sqL_inj (e3 _ _ hp), by omega⟩⟩⟩
    have hi' : i < ws.length := by omega
    refine ⟨⟨ws, ws[i], sqL_inj (e3 _ _ hp), List.getElem?_eq_getElem hi'⟩, fun x G hy => ?_⟩
    obtain ⟨rfl, fx⟩ := hy
    obtain ⟨d, hd, him⟩ := im i x (fx ws (sqL_inj (e3 _ _ hp)))
    exact ⟨Ex.refl _, Tx.refl _, d, hd, ms _ _ _ _ e3 him⟩
end
theorem nodup_at {α : Type} {a : α} : ∀ {l : List α} {i k : Nat}, l.Nodup → l[i]? = some a → l[k]? = some a → i = k
  | [], _, _, _, h, _ => by simp at h
  | b :: r, 0, 0, _, _, _ => rfl
  | b :: r, i + 1, k + 1, nd, h1, h2 => congrArg Nat.succ (nodup_at (List.nodup_cons.mp nd).2 (by simpa using h1) (by simpa using h2))
  | b :: r, 0, k + 1, nd, h1, h2 => by
    simp at h1 h2
    subst h1
    exact absurd (List.mem_of_getElem? h2) (List.nodup_cons.mp nd).1
  | b :: r, i + 1, 0, nd, h1, h2 => by
    simp at h1 h2
    subst h2
    exact absurd (List.mem_of_getElem? h1) (List.nodup_cons.mp nd).1
/-- lists as that hold rows of numbers -/
def LR (H : Hp) (as : List Addr) (rows : List (List Nat)) : Prop := as.length = rows.length ∧ as.Nodup ∧ ∀ (i : Nat) (a : Addr), as[i]? = some a → ∃ r ws, rows[i]? = some r ∧ H a = some (.lst ws) ∧ ImAll H ws (r.map dN)
theorem LR.up {H H' : Hp} {as : List Addr} {rows : List (List Nat)} (h : LR H as rows) (e : Ex H H') : LR H' as rows := ⟨h.1, h.2.1, fun i a g => by
  obtain ⟨r, ws, h1, h2, h3⟩ := h.2.2 i a g
  exact ⟨r, ws, h1, e _ _ h2, h3.up e⟩⟩
theorem LR.put {H : Hp} {as : List Addr} {rows : List (List Nat)} (h : LR H as rows) {i : Nat} {a : Addr} {r : List Nat} {ws : List V} {v : V} {x : Nat} (ha : as[i]? = some a) (hr : rows[i]? = some r) (hw : H a = some (.lst ws)) (im : ImAll H ws (r.map dN)) (iv : Im H v (dN x)) :
    LR (upd H a (.lst (ws ++ [v]))) as (rows.set i (r ++ [x])) := by
  have t : Tx H (upd H a (.lst (ws ++ [v]))) := Tx.lst hw
  refine ⟨by rw [List.length_set]; exact h.1, h.2.1, fun k b hb => ?_⟩
  have hi : i < rows.length := (List.getElem?_eq_some_iff.mp hr).1
  by_cases e : k = i
  · subst e
    rw [ha] at hb
    cases hb
    refine ⟨r ++ [x], ws ++ [v], by rw [List.getElem?_set_self hi], upd_same, ?_⟩
    rw [List.map_append]
    exact (im.mv t).app (.cons (iv.mv t) .nil)
  · obtain ⟨r2, ws2, h1, h2, h3⟩ := h.2.2 k b hb
    have ne : b ≠ a := fun z => by
      rw [z] at hb
      exact e (nodup_at h.2.1 hb ha)
    exact ⟨r2, ws2, by rw [List.getElem?_set_ne (Ne.symm e)]; exact h1, by rw [upd_ne ne]; exact h2, h3.mv t⟩
theorem LR.ls {H : Hp} {as : List Addr} {rows : List (List Nat)} (h : LR H as rows) {p : Addr} (hp : H p = some (.lst (as.map V.ref))) : vLS (fun r : List Nat => vL (r.map dN)) rows (.ref p) H := by
  refine ⟨p, _, rfl, hp, by rw [List.length_map]; exact h.1, fun i x hx => ?_⟩
  rw [List.getElem?_map] at hx
  obtain ⟨a, ha, rfl⟩ := Option.map_eq_some_iff.mp hx
  obtain ⟨r, ws, h1, h2, h3⟩ := h.2.2 i a ha
  exact ⟨r, h1, a, ws, rfl, h2, h3⟩
end Lk
end

section
set_option Elab.async false
set_option linter.all false
set_option maxRecDepth 100000
set_option maxHeartbeats 4000000
namespace Lk
open PySem PySem.Spec PyProof.Rows L2 Evl PySem.W C8
local macro_rules | `(tactic| walk_at "ex") => `(tactic| first | exact Ex.refl _ | assumption | (refine Ex.trans (H1 := ?g) ?a ?b; (case a => assumption); (case b => walk_at "ex")))
local macro_rules | `(tactic| walk_at "im") => `(tactic| first | assumption | exact Im.int _ | exact Im.bl _ | (refine Im.up (H := ?g) ?a ?b; (case a => assumption); (case b => walk_at "ex")))
local macro_rules | `(tactic| walk_at "ev") => `(tactic| first
  | exact ec_i | exact ec_b | exact ec_s | exact ec_n
  | (refine ei_var rfl ?_; walk_at "im")
  | (refine eo ?_ ?_ <;> walk_at "ev")
  | (refine eoB ?_ ?_ <;> walk_at "ev")
  | (refine e_eqI ?_ ?_ <;> walk_at "ev")
  | (refine e_neI ?_ ?_ <;> walk_at "ev")
  | (refine eu ?_ <;> walk_at "ev")
  | (refine e_not ?_ <;> walk_at "ev"))

section
variable {P : Program} {w : World} {K : PySem.W.Frag} {mg : Str → Option Value} {base : Heap} {c : Cs}
def nearStep (rows : List (List Nat)) (p : Nat × Nat) : List (List Nat) :=
  let r1 := rows.set p.1 (rows.getD p.1 [] ++ [p.2])
  r1.set p.2 (r1.getD p.2 [] ++ [p.1])
def nearN (n : Nat) (ss : List (Nat × Nat)) : List (List Nat) := (ss.foldl nearStep (List.replicate n [])).map isort
theorem nearStep_len (rows : List (List Nat)) (p : Nat × Nat) : (nearStep rows p).length = rows.length := by
  unfold nearStep
  simp
theorem nearFold_len : ∀ (ss : List (Nat × Nat)) (rows : List (List Nat)), (ss.foldl nearStep rows).length = rows.length
  | [], _ => rfl
  | p :: r, rows => (nearFold_len r (nearStep rows p)).trans (nearStep_len rows p)
theorem getD_nil {rows : List (List Nat)} {i : Nat} (h : i < rows.length) : rows[i]? = some (rows.getD i []) := by
  rw [List.getD_eq_getElem?_getD, List.getElem?_eq_getElem h]
  rfl
theorem nearStep_row (rows : List (List Nat)) (p : Nat × Nat) {m : Nat} (h : ∀ r ∈ rows, r.length ≤ m) : ∀ r ∈ nearStep rows p, r.length ≤ m + 2 := by
  have gd : ∀ (l : List (List Nat)) i k, (∀ r ∈ l, r.length ≤ k) → (l.getD i []).length ≤ k := fun l i k h => by
    rw [List.getD_eq_getElem?_getD]
    cases e : l[i]? with
    | none => exact Nat.zero_le _
    | some a => exact h a (List.mem_of_getElem? e)
  have st : ∀ (l : List (List Nat)) i v k, (∀ r ∈ l, r.length ≤ k) → v.length ≤ k → ∀ r ∈ l.set i v, r.length ≤ k := fun l i v k h hv r hm => by
    rcases List.mem_or_eq_of_mem_set hm with z | z
    · exact h r z
    · rw [z]; exact hv
  have h1 := st rows p.1 (rows.getD p.1 [] ++ [p.2]) (m + 1) (fun r hr => Nat.le_succ_of_le (h r hr)) (by have := gd rows p.1 m h; rw [List.length_append, List.length_singleton]; omega)
  exact st (rows.set p.1 (rows.getD p.1 [] ++ [p.2])) p.2 ((rows.set p.1 (rows.getD p.1 [] ++ [p.2])).getD p.2 [] ++ [p.1]) (m + 2) (fun r hr => Nat.le_succ_of_le (h1 r hr)) (by have := gd _ p.2 (m + 1) h1; rw [List.length_append, List.length_singleton]; omega)
theorem nearFold_row : ∀ (ss : List (Nat × Nat)) (rows : List (List Nat)) (m : Nat), (∀ r ∈ rows, r.length ≤ m) → ∀ r ∈ ss.foldl nearStep rows, r.length ≤ m + 2 * ss.length
  | [], _, _, h => h
  | p :: q, rows, m, h => fun r hr => by
    have := nearFold_row q (nearStep rows p) (m + 2) (nearStep_row rows p h) r hr
    rw [List.length_cons]; omega
/-! ### near_in -/
abbrev sp_near_in : Sp := spP (fun x : NetD => x.Ok) (fun x => a1 (vNet c x)) fun x => vL ((nearN x.n x.ss).map tupN)
theorem c_near_in (T : Txt K mg c) : Cal P w K mg base 1 "near_in" (sp_near_in (c := c)) [] := by
  refine mkCal T.d_near_in sc_near_in (fun _ _ _ _ _ _ us hl => match us, hl with | [_], _ => rfl) (fun vs H Q E h => ?_) (fun f cdv A outer s H vs Q E hr h => ?_)
  · obtain ⟨x, hx, a, _⟩ := h
    obtain ⟨v0, rfl, _⟩ := a1o a
    rfl
  · obtain ⟨x, hx, a, k⟩ := h
    obtain ⟨v0, rfl, p0⟩ := a1o a
    have hu := hu_of hr
    refine ⟨_, pss_cons (ps_setLc (i := 1) (own := [("_", 4)]) rfl sc_near_in.nd rfl rfl (sw_true rfl rfl rfl (by decide +kernel)) (pi_range1 (by rfl) T.b_range (pa_cons (pe_fldK K (pv 0)) (pa_nil))) (blkOk_by (N := N_near_in) (sc := defScope s_near_in) (own := [("_", 4)]) (by decide +kernel)) (fun _ _ _ _ _ => pg_name (i := 4) sc_near_in.nd rfl (Or.inl rfl)) (fun _ _ _ _ _ => pts_nil) (fun _ _ _ _ _ => pe_lst (pa_nil)))
      (pss_cons (ps_for PassesOwn.never rfl (pi_seqK K (pe_fldK K (pv 0))) (pg_tupK K (n := 2) rfl (pgs_cons (pg_name (i := 2) sc_near_in.nd rfl (Or.inl rfl)) (pgs_cons (pg_name (i := 3) sc_near_in.nd rfl (Or.inl rfl)) (pgs_nil))))
      (pss_cons (ps_expr (pe_bm PySem.F.plainAttrs_list PySem.F.slot_list_append PySem.F.type_list_append mt_append (pe_ix (ix_seqK K) (pv 1) (pv 2) (fun _ _ => rfl)) (pa_cons (pv 3) (pa_nil))))
      (pss_one (ps_expr (pe_bm PySem.F.plainAttrs_list PySem.F.slot_list_append PySem.F.type_list_append mt_append (pe_ix (ix_seqK K) (pv 1) (pv 3) (fun _ _ => rfl)) (pa_cons (pv 2) (pa_nil)))))))
      (pss_one (ps_ret (pe_lc (own := [("row", 5)]) rfl sc_near_in.nd (pi_seqK K (pv 1)) (blkOk_by (N := N_near_in) (sc := defScope s_near_in) (own := [("row", 5)]) (by decide +kernel)) (fun _ _ _ _ _ => pg_name (i := 5) sc_near_in.nd rfl (Or.inl rfl)) (fun _ _ _ _ _ => pts_nil) (fun _ _ _ _ _ => pe_callTy (T := "tuple") (cr_tupleK K) (by rfl) T.b_tuple (by decide +kernel) (pa_cons (pe_callB (id := "sorted") (cr_sortD hr) (by rfl) T.b_sorted (by decide +kernel) (pa_cons (pv 5) (pa_nil))) (pa_nil))))))), ?_⟩
    have n4 := hx.n4
    refine q_set (P := fun v G => ∃ (p : Addr) (as : List Addr), v = .ref p ∧ H p = none ∧ G p = some (.lst (as.map V.ref)) ∧ as.length = x.n ∧ as.Nodup ∧ p ∉ as ∧ ∀ a ∈ as, H a = none ∧ G a = some (.lst [])) (ev_lists (ea_1 (mI _) (n_things T (ep_var rfl (mO _ _) p0))) (by omega) (fun _ => rfl)) fun v H1 e1 pv => ?_
    obtain ⟨p, as, rfl, hn, h1, la, nd, np, fr⟩ := pv
    have lr0 : LR H1 as (List.replicate x.n []) := ⟨by rw [List.length_replicate]; exact la, nd, fun i a hi => ⟨[], [], by rw [List.getElem?_replicate, if_pos]; have := (List.getElem?_eq_some_iff.mp hi).1; omega, (fr a (List.mem_of_getElem? hi)).2, .nil⟩⟩
    refine q_for (xs := x.ss) (enc := pD) (st_T (n_strings T (ep_var rfl (mO _ _) (mO _ _ _ _ _ e1 p0)))) fun H2 e2 => ⟨fun l σ' H' => ∃ o2 o3 o4 o5, σ' = [some v0, some (.ref p), o2, o3, o4, o5] ∧ Ex H H' ∧ H' p = some (.lst (as.map V.ref)) ∧ LR H' as (l.foldl nearStep (List.replicate x.n [])), ⟨_, _, _, _, rfl, e1.trans e2, e2 _ _ h1, lr0.up e2⟩, ?_, ?_⟩
    · intro l a r y σ' H' G hl tx pv ex im2
      obtain ⟨o2, o3, o4, o5, rfl, eH, hp, lr⟩ := pv
      have am : a ∈ x.ss := by rw [hl]; exact List.mem_append_right _ List.mem_cons_self
      have ab := hx.sl a am
      have lx : l.length ≤ x.ss.length := by rw [hl, List.length_append]; exact Nat.le_add_right _ _
      have sz := hx.sz
      have rowl := nearFold_row l (List.replicate x.n []) 0 (fun r hr => by rw [List.eq_of_mem_replicate hr]; exact Nat.le_refl _)
      generalize hrows : l.foldl nearStep (List.replicate x.n []) = rows at *
      refine g_pair im2 fun u w iu iw => ?_
      have hpG := ex _ _ hp
      have lrG := lr.up ex
      obtain ⟨A1, hA1⟩ : ∃ A1, as[a.1]? = some A1 := ⟨as[a.1]'(by omega), List.getElem?_eq_getElem (by omega)⟩
      obtain ⟨A2, hA2⟩ : ∃ A2, as[a.2]? = some A2 := ⟨as[a.2]'(by omega), List.getElem?_eq_getElem (by omega)⟩
      obtain ⟨r1, w1, hr1, hw1, i1⟩ := lrG.2.2 a.1 A1 hA1
      have f1 := fr A1 (List.mem_of_getElem? hA1)
      have f2 := fr A2 (List.mem_of_getElem? hA2)
      have nA1 : p ≠ A1 := fun z => np (z ▸ List.mem_of_getElem? hA1)
      have nA2 : p ≠ A2 := fun z => np (z ▸ List.mem_of_getElem? hA2)
      have l1 := rowl r1 (List.mem_of_getElem? hr1)
      refine q_appP (l := A1) (ev_ix (ev_var rfl) hpG (ei_var rfl iu) (by rw [List.getElem?_map, hA1]; rfl)) hw1 (ei_var rfl iw) (by rw [i1.len, List.length_map]; omega) fun v H3 e3 pv => ?_
      have lr3 := (lrG.up e3).put (x := a.2) hA1 hr1 (e3 _ _ hw1) (i1.up e3) pv
      have t3 : Tx G (upd H3 A1 (.lst (w1 ++ [v]))) := (Tx.of e3).trans (Tx.lst (e3 _ _ hw1))
      have e3' : Ex H (upd H3 A1 (.lst (w1 ++ [v]))) := ((eH.trans ex).trans e3).mut f1.1
      have hp3 : (upd H3 A1 (.lst (w1 ++ [v]))) p = some (.lst (as.map V.ref)) := by rw [upd_ne nA1]; exact e3 _ _ hpG
      generalize upd H3 A1 (.lst (w1 ++ [v])) = H4 at t3 e3' hp3 lr3
      obtain ⟨r2, w2, hr2, hw2, i2⟩ := lr3.2.2 a.2 A2 hA2
      have l2 : r2.length ≤ 1000 := by
        have hm := List.mem_of_getElem? hr2
        rcases List.mem_or_eq_of_mem_set hm with z | z
        · have := rowl r2 z; omega
        · rw [z, List.length_append]; show r1.length + 1 ≤ 1000; omega
      refine s_appP (l := A2) (ev_ix (ev_var rfl) hp3 (ei_var rfl (iw.mv t3)) (by rw [List.getElem?_map, hA2]; rfl)) hw2 (ei_var rfl (iu.mv t3)) (by rw [i2.len, List.length_map]; omega) fun v2 H5 e5 pv5 => ?_
      have lr5 := (lr3.up e5).put (x := a.1) hA2 hr2 (e5 _ _ hw2) (i2.up e5) pv5
      have t5 : Tx H5 (upd H5 A2 (.lst (w2 ++ [v2]))) := Tx.lst (e5 _ _ hw2)
      refine ⟨(((tx.trans (Tx.of ex)).trans t3).trans (Tx.of e5)).trans t5, _, _, _, _, rfl, (e3'.trans e5).mut f2.1, by rw [upd_ne nA2]; exact e5 _ _ hp3, ?_⟩
      rw [List.foldl_append, hrows]
      have q1 : rows.getD a.1 [] = r1 := by rw [List.getD_eq_getElem?_getD, hr1]; rfl
      have q2 : (rows.set a.1 (r1 ++ [a.2])).getD a.2 [] = r2 := by rw [List.getD_eq_getElem?_getD, hr2]; rfl
      show LR _ as (nearStep rows a)
      unfold nearStep
      dsimp only
      rw [q1, q2]
      exact lr5
    · rintro σ' H' tx ⟨o2, o3, o4, o5, rfl, eH, hp, lr⟩
      have rowl := nearFold_row x.ss (List.replicate x.n []) 0 (fun r hr => by rw [List.eq_of_mem_replicate hr]; exact Nat.le_refl _)
      have sz := hx.sz
      have rl := nearFold_len x.ss (List.replicate x.n [])
      rw [List.length_replicate] at rl
      refine s_retP (P := vL ((nearN x.n x.ss).map tupN)) (EvP.isL (lc_S (S := fun r : List Nat => vL (r.map dN)) (fun r => mL _) (fun r => tupN (isort r)) (src_LS (fun r => mL _) (ep_var rfl (fun v H H' e h => ?_) (lr.ls hp))) (by omega) (fun _ => rfl) fun r y H5 m e i => EvP.is (e_tuple (vSL (e_sortN (ns := r) (vSL (ep_var rfl (mL _) i)) (by have := rowl r m; omega)))) (by rw [sortD_isort])) (by unfold nearN; rw [List.map_map]; rfl)) fun v H6 e6 p6 => k v H6 (eH.trans e6) p6
      obtain ⟨p, ws, r, h1, h2, h3⟩ := h
      exact ⟨p, ws, r, e _ _ h1, h2, fun i x hx => by
        obtain ⟨a, h4, h5⟩ := h3 i x hx
        exact ⟨a, h4, mL _ _ _ _ e h5⟩⟩
end
end Lk
end

section
set_option Elab.async false
set_option linter.all false
set_option maxRecDepth 100000
set_option maxHeartbeats 4000000
namespace Lk
open PySem PySem.Spec PyProof.Rows L2 Evl PySem.W C8
local macro_rules | `(tactic| walk_at "ex") => `(tactic| first | exact Ex.refl _ | assumption | (refine Ex.trans (H1 := ?g) ?a ?b; (case a => assumption); (case b => walk_at "ex")))
local macro_rules | `(tactic| walk_at "im") => `(tactic| first | assumption | exact Im.int _ | exact Im.bl _ | (refine Im.up (H := ?g) ?a ?b; (case a => assumption); (case b => walk_at "ex")))
local macro_rules | `(tactic| walk_at "ev") => `(tactic| first
  | exact ec_i | exact ec_b | exact ec_s | exact ec_n
  | (refine ei_var rfl ?_; walk_at "im")
  | (refine eo ?_ ?_ <;> walk_at "ev")
  | (refine eoB ?_ ?_ <;> walk_at "ev")
  | (refine e_eqI ?_ ?_ <;> walk_at "ev")
  | (refine e_neI ?_ ?_ <;> walk_at "ev")
  | (refine eu ?_ <;> walk_at "ev")
  | (refine e_not ?_ <;> walk_at "ev"))

section
variable {P : Program} {w : World} {K : PySem.W.Frag} {mg : Str → Option Value} {base : Heap} {c : Cs}
def toggle (f : List (Nat × Bool)) (o : Nat) : List (Nat × Bool) := putA f o (!((getA f o).getD false))
def foundN (near : List (List Nat)) (lot : List Nat) : List (Nat × Bool) := lot.foldl (fun f t => (near.getD t []).foldl toggle f) []
def metByN (near : List (List Nat)) (lot : List Nat) : List Nat := (isort ((foundN near lot).map (·.1))).filter fun t => (getA (foundN near lot) t).getD false
theorem toggle_len : ∀ (r : List Nat) (f : List (Nat × Bool)), (r.foldl toggle f).length ≤ f.length + r.length
  | [], _ => Nat.le_refl _
  | o :: r, f => by
    have h1 := toggle_len r (toggle f o)
    have h2 := putA_len (!((getA f o).getD false)) f o
    rw [List.foldl_cons, List.length_cons]
    have : (toggle f o).length ≤ f.length + 1 := h2
    omega
theorem getA_key {α : Type} {n : Nat} : ∀ {ps : List (Nat × α)}, n ∈ ps.map (·.1) → ∃ d, getA ps n = some d
  | [], h => by cases h
  | p :: r, h => by
    unfold getA
    by_cases e : p.1 = n
    · rw [if_pos e]; exact ⟨_, rfl⟩
    · rw [if_neg e]
      rcases List.mem_cons.mp h with z | h
      · exact absurd z.symm e
      · exact getA_key h
/-! ### met_by_nets -/
abbrev sp_met_by_nets : Sp := spP (fun x : List (List Nat) × List Nat => (∀ t ∈ x.2, t < x.1.length) ∧ x.2.length ≤ 100 ∧ (∀ r ∈ x.1, r.length ≤ 200) ∧ (foundN x.1 x.2).length < 64) (fun x => a2 (vL (x.1.map tupN)) (vI (tupN x.2))) fun x => vI (tupN (metByN x.1 x.2))
theorem c_met_by_nets (T : Txt K mg c) : Cal P w K mg base 1 "met_by_nets" (sp_met_by_nets) [] := by
  refine mkCal T.d_met_by_nets sc_met_by_nets (fun _ _ _ _ _ _ us hl => match us, hl with | [_, _], _ => rfl) (fun vs H Q E h => ?_) (fun f cdv A outer s H vs Q E hr h => ?_)
  · obtain ⟨x, hx, a, _⟩ := h
    obtain ⟨v0, v1, rfl, _⟩ := a2o a
    rfl
  · obtain ⟨x, hx, a, k⟩ := h
    obtain ⟨v0, v1, rfl, p0, p1⟩ := a2o a
    have hu := hu_of hr
    refine ⟨_, pss_cons (ps_set (i := 2) sc_met_by_nets.nd rfl (Or.inr rfl) (pe_dnewK))
      (pss_cons (ps_for PassesOwn.never rfl (pi_seqK K (pv 1)) (pg_name (i := 3) sc_met_by_nets.nd rfl (Or.inl rfl))
      (pss_one (ps_for PassesOwn.never rfl (pi_seqK K (pe_ix (ix_seqK K) (pv 0) (pv 3) (fun _ _ => rfl))) (pg_name (i := 4) sc_met_by_nets.nd rfl (Or.inl rfl))
      (pss_one (ps_dput hu (pv 2) (pv 4) (pe_not (pe_dget2 hu (pv 2) (pv 4) (pe_bl) ⟨rfl, rfl, rfl, rfl⟩)) rfl)))))
      (pss_one (ps_ret (pe_callTy (T := "tuple") (cr_tupleK K) (by rfl) T.b_tuple (by decide +kernel) (pa_cons (pe_lc (own := [("thing", 3)]) rfl sc_met_by_nets.nd (pi_seqK K (pe_callB (id := "sorted") (cr_sortDI rfl) (by rfl) T.b_sorted (by decide +kernel) (pa_cons (pv 2) (pa_nil)))) (blkOk_by (N := N_met_by_nets) (sc := defScope s_met_by_nets) (own := [("thing", 3)]) (by decide +kernel)) (fun _ _ _ _ _ => pg_name (i := 3) sc_met_by_nets.nd rfl (Or.inl rfl)) (fun _ _ _ _ _ => pts_one (pt_val (pe_dget hu (pv 2) (pv 3) (fun _ _ => rfl)))) (fun _ _ _ _ _ => pv 3)) (pa_nil)))))), ?_⟩
    obtain ⟨near, lot⟩ := x
    obtain ⟨hl, l100, r200, few⟩ := hx
    dsimp only at hl l100 r200 few p0 p1
    refine q_newD (ps := []) ep_dnew fun d kvs H1 e1 hn hd imd => ?_
    refine q_for (xs := lot) (enc := dN) (st_T (ei_var rfl (p1.up e1))) fun H2 e2 => ⟨fun l σ' H' => ∃ o3 o4 kvs, σ' = [some v0, some v1, some (.ref d), o3, o4] ∧ Ex H H' ∧ H' d = some (.dK kvs) ∧ DkIm H' kvs (encA PyData.bool (foundN near l)) ∧ (foundN near l).length ≤ l.length * 200, ⟨_, _, kvs, rfl, e1.trans e2, e2 _ _ hd, imd.mv (Tx.of e2), Nat.le_refl _⟩, ?_, ?_⟩
    · rintro l t r y σ' H' G hlt tx ⟨o3, o4, kvs, rfl, eH, hd, imd, ln⟩ ex im
      have tm : t ∈ lot := by rw [hlt]; exact List.mem_append_right _ List.mem_cons_self
      have lx : l.length < lot.length := by rw [hlt, List.length_append, List.length_cons]; omega
      have tl := hl t tm
      have hrow : near[t]? = some (near.getD t []) := getD_nil tl
      have hst : foundN near (l ++ [t]) = (near.getD t []).foldl toggle (foundN near l) := by unfold foundN; rw [List.foldl_append]; rfl
      have rl := r200 _ (List.mem_of_getElem? hrow)
      generalize near.getD t [] = row at *
      have s0 : vL (near.map tupN) v0 G := mL _ _ _ _ (eH.trans ex) p0
      refine s_for (xs := row) (enc := dN) (st_T (e_ix (ds := near.map tupN) (ep_var rfl (mS _) (vS_L s0)) (ei_var rfl im) (by rw [List.getElem?_map, hrow]; rfl))) fun H3 e3 => ⟨fun m σ' H' => ∃ o4 kvs, σ' = [some v0, some v1, some (.ref d), some y, o4] ∧ Ex H H' ∧ H' d = some (.dK kvs) ∧ DkIm H' kvs (encA PyData.bool (m.foldl toggle (foundN near l))) ∧ Tx H2 H', ⟨_, kvs, rfl, (eH.trans ex).trans e3, e3 _ _ (ex _ _ hd), (imd.mv (Tx.of ex)).mv (Tx.of e3), (tx.trans (Tx.of ex)).trans (Tx.of e3)⟩, ?_, ?_⟩
      · rintro m o q z σ' H' G2 hrw tx2 ⟨o4, kvs, rfl, eH2, hd2, imd2, tx3⟩ ex2 im2
        have hd3 := ex2 _ _ hd2
        have imd3 := imd2.mv (Tx.of ex2)
        have mlen := toggle_len m (foundN near l)
        have ml : m.length ≤ row.length := by rw [hrw, List.length_append]; exact Nat.le_add_right _ _
        refine s_dput (P := vI (.bool (!((getA (m.foldl toggle (foundN near l)) o).getD false)))) hd3 (ev_var rfl) (ei_var rfl im2) (e_not (EvP.is (e_dget2 (ps := encA PyData.bool (m.foldl toggle (foundN near l))) (d := .bool false) (ep_var rfl (mD _) ⟨d, kvs, rfl, hd3, imd3⟩) (ei_var rfl im2) ec_b) (by rw [getA_enc]; cases getA (m.foldl toggle (foundN near l)) o <;> rfl))) (mI _) (by rw [imd2.len]; unfold encA; rw [List.length_map]; have : l.length * 200 ≤ 100 * 200 := Nat.mul_le_mul_right 200 (by omega); omega) fun v H5 e5 pv => ?_
        have t5 : Tx H5 (upd H5 d (.dK (putK kvs (.inl (o : Int)) v))) := Tx.dic (e5 _ _ hd3)
        refine ⟨((tx2.trans (Tx.of ex2)).trans (Tx.of e5)).trans t5, _, _, rfl, ((eH2.trans ex2).trans e5).mut hn, upd_same, ?_, ((tx3.trans (Tx.of ex2)).trans (Tx.of e5)).trans t5⟩
        have q2 := ((imd3.mv (Tx.of e5)).mv t5).put (n := o) (Im.mv t5 pv)
        rw [putA_enc] at q2
        rw [List.foldl_append]
        exact q2
      · rintro σ' H' tx2 ⟨o4, kvs, rfl, eH2, hd2, imd2, tx3⟩
        have mlen := toggle_len row (foundN near l)
        refine ⟨tx3, _, _, kvs, rfl, eH2, hd2, by rw [hst]; exact imd2, ?_⟩
        rw [hst, List.length_append, List.length_singleton, Nat.succ_mul]
        omega
    · rintro σ' H' tx ⟨o3, o4, kvs, rfl, eH, hd, imd, ln⟩
      have dD : vD (encA PyData.bool (foundN near lot)) (.ref d) H' := ⟨d, kvs, rfl, hd, imd⟩
      have kl : (encA PyData.bool (foundN near lot)).map (·.1) = (foundN near lot).map (·.1) := by unfold encA; rw [List.map_map]; rfl
      have q := e_sortDI (σ := [some v0, some v1, some (.ref d), o3, o4]) (ep_var (k := 2) rfl (mD _) dD) (by unfold encA; rw [List.length_map]; exact few)
      rw [kl] at q
      exact s_retP (P := vI (tupN (metByN near lot))) (e_tuple (vSL (lc_N (enc := dN) (fun t => (getA (foundN near lot) t).getD false) dN (src_S (vSL q)) (by rw [(isort_perm _).length_eq, List.length_map]; omega) (fun _ => rfl) (fun t y H5 m e i => by
        obtain ⟨b, hb⟩ := getA_key ((isort_perm _).mem_iff.mp m)
        rw [hb]
        exact et_v (e_dget (ep_var rfl (mD _) (mD _ _ _ _ e dD)) (ei_var rfl i) (by rw [getA_enc, hb]; rfl))) fun t y H5 m ht e i => ei_var rfl i))) fun v H6 e6 p6 => k v H6 (eH.trans e6) p6
end
end Lk
end

section
set_option Elab.async false
set_option linter.all false
set_option maxRecDepth 100000
set_option maxHeartbeats 4000000
namespace Lk
open PySem PySem.Spec PyProof.Rows L2 Evl PySem.W C8
local macro_rules | `(tactic| walk_at "ex") => `(tactic| first | exact Ex.refl _ | assumption | (refine Ex.trans (H1 := ?g) ?a ?b; (case a => assumption); (case b => walk_at "ex")))
local macro_rules | `(tactic| walk_at "im") => `(tactic| first | assumption | exact Im.int _ | exact Im.bl _ | (refine Im.up (H := ?g) ?a ?b; (case a => assumption); (case b => walk_at "ex")))
local macro_rules | `(tactic| walk_at "ev") => `(tactic| first
  | exact ec_i | exact ec_b | exact ec_s | exact ec_n
  | (refine ei_var rfl ?_; walk_at "im")
  | (refine eo ?_ ?_ <;> walk_at "ev")
  | (refine eoB ?_ ?_ <;> walk_at "ev")
  | (refine e_eqI ?_ ?_ <;> walk_at "ev")
  | (refine e_neI ?_ ?_ <;> walk_at "ev")
  | (refine eu ?_ <;> walk_at "ev")
  | (refine e_not ?_ <;> walk_at "ev"))

section
variable {P : Program} {w : World} {K : PySem.W.Frag} {mg : Str → Option Value} {base : Heap} {c : Cs}
def vQ (K : PySem.W.Frag) (ds : List PyData) : VP := fun v H => ∃ p xs, v = .ref p ∧ SqT K H p xs ∧ ImAll H xs ds
theorem mQ {K : PySem.W.Frag} (ds : List PyData) : Mono (vQ K ds) := fun _ _ _ e h => by
  obtain ⟨p, xs, r, h, i⟩ := h
  exact ⟨p, xs, r, ex_t e h, i.up e⟩
theorem vQ_I {K : PySem.W.Frag} {ds : List PyData} {v : V} {H : Hp} (h : vI (.tuple ds) v H) : vQ K ds v H := by
  obtain ⟨a, xs, rfl, t, im⟩ := Im.isTup h
  exact ⟨a, xs, rfl, t.sq, im⟩
theorem e_sl1 {K : PySem.W.Frag} {σ : L2.St} {H : Hp} {te : TE} {ds : List PyData} (h : EvP te σ H (vI (.tuple ds))) : EvP (tSl (rSlA K) te (tPart (tC (.int 1))) tNoPart) σ H (vQ K (ds.drop 1)) := fun H1 e Q q => h H1 e _ fun v H2 e2 p => by
  obtain ⟨a, xs, rfl, t, im⟩ := Im.isTup p
  have len := im.len
  refine ⟨1, rfl, a, xs, rfl, t.sq, fun hw => ?_, fun hw d hd => ?_⟩
  · refine q _ _ e2 ⟨a, xs, rfl, t.sq, ?_⟩
    have z : xs.length = 0 := by
      have h1 : (if (1 : Int) < 0 then ((1 : Int) + (xs.length : Int)).toNat else min (1 : Int).toNat xs.length) = 0 := hw.1
      rw [if_neg (by decide), show (1 : Int).toNat = 1 from rfl] at h1
      omega
    have zd : ds = [] := List.eq_nil_of_length_eq_zero (by omega)
    subst zd
    exact im
  · refine q _ _ (e2.trans (Ex.new hd)) ⟨d, _, rfl, SqT.of upd_same, ?_⟩
    have e1 : cutV xs (some 1) none = xs.drop 1 := by
      have h1 : HT.sIx xs.length 0 (some 1) = min 1 xs.length := by
        show (if (1 : Int) < 0 then ((1 : Int) + (xs.length : Int)).toNat else min (1 : Int).toNat xs.length) = _
        rw [if_neg (by decide)]; rfl
      unfold cutV
      rw [h1, show HT.sIx xs.length xs.length none = xs.length from rfl]
      by_cases z : xs.length = 0
      · rw [List.eq_nil_of_length_eq_zero z]; rfl
      · rw [show min 1 xs.length = 1 by omega, List.take_of_length_le (by rw [List.length_drop]; exact Nat.le_refl _)]
    rw [e1]
    exact (im.drop 1).mv (Tx.new hd)
theorem zip_asc : ∀ {ts : List Nat}, ts.Pairwise (· < ·) → ∀ p ∈ ts.zip (ts.drop 1), p.1 < p.2
  | [], _, p, m => by cases m
  | [a], _, p, m => by simp at m
  | a :: b :: r, h, p, m => by
    rw [List.drop_one, List.tail_cons, List.zip_cons_cons] at m
    rcases List.mem_cons.mp m with e | m
    · rw [e]; exact List.rel_of_pairwise_cons h List.mem_cons_self
    · exact zip_asc h.of_cons p (by rw [List.drop_one, List.tail_cons]; exact m)
theorem e_isTup {K : PySem.W.Frag} {σ : L2.St} {H : Hp} {te : TE} {ds : List PyData} (h : EvP te σ H (vI (.tuple ds))) : EvP (tCB (rIsi K) (tCons te (tCons (tC (.ty "tuple")) tNil))) σ H (vI (.bool true)) := e_isi h (mI _) fun v H1 p => ⟨_, ty_tup p, k_tuple_tuple⟩
/-- the lots that are told, with their layers -/
structure PapD where
  layers : List (List Nat)
  lots : List (Nat × List Nat)
abbrev papF (p : PapD) : List (Str × PyData) := [("word", .str "lots"), ("parts", .tuple [.tuple (p.layers.map tupN), .tuple (p.lots.map rowD)]), ("layers", .tuple (p.layers.map tupN)), ("lots", .tuple (p.lots.map rowD))]
abbrev vPap (c : Cs) (p : PapD) : VP := vO c.lots (papF p)
def RowOk (n : Nat) (ts : List Nat) : Prop := ts.Pairwise (· < ·) ∧ (∀ t ∈ ts, t < n) ∧ ts.length ≤ 100
/-! ### is_row -/
abbrev sp_is_row : Sp := spP (fun x : List Nat × Nat => RowOk x.2 x.1) (fun x => a2 (vI (tupN x.1)) (vI (dN x.2))) fun _ => vI (.bool true)
theorem c_is_row (T : Txt K mg c) : Cal P w K mg base 3 "is_row" (sp_is_row) [] := by
  have c_is_within := c_is_within (P := P) (w := w) (base := base) T
  refine mkCal T.d_is_row sc_is_row (fun _ _ _ _ _ _ us hl => match us, hl with | [_, _], _ => rfl) (fun vs H Q E h => ?_) (fun f cdv A outer s H vs Q E hr h => ?_)
  · obtain ⟨x, hx, a, _⟩ := h
    obtain ⟨v0, v1, rfl, _⟩ := a2o a
    rfl
  · obtain ⟨x, hx, a, k⟩ := h
    obtain ⟨v0, v1, rfl, p0, p1⟩ := a2o a
    have hu := hu_of hr
    refine ⟨_, pss_cons (ps_if ((pw_or (pt_not (pt_val (pe_callB (id := "isinstance") (cr_isiK K) (by rfl) T.b_isinstance (by decide +kernel) (pa_cons (pv 0) (pa_cons (pe_ty (n := "tuple") (by rfl) T.b_tuple (by decide +kernel)) (pa_nil)))))) (pw_or1 (pt_not (pt_val (pe_callB (id := "all") (cr_allK K rfl) (by rfl) T.b_all (by decide +kernel) (pa_cons (pe_lc (own := [("each", 4)]) rfl sc_is_row.nd (pi_seqK K (pv 0)) (blkOk_by (N := N_is_row) (sc := defScope s_is_row) (own := [("each", 4)]) (by decide +kernel)) (fun _ _ _ _ _ => pg_name (i := 4) sc_is_row.nd rfl (Or.inl rfl)) (fun _ _ _ _ _ => pts_nil) (fun _ _ _ _ _ => pe_c c_is_within hr (by decide) (by rfl) (pa_cons (pv 4) (pa_cons (pe_int) (pa_cons (pe_op op_sub (pv 1) (pe_int)) (pa_nil)))))) (pa_nil))))))).pt) (pss_one (ps_ret (pe_bl))) (pss_nil))
      (pss_one (ps_ret (pe_callB (id := "all") (cr_allK K rfl) (by rfl) T.b_all (by decide +kernel) (pa_cons (pe_lc (own := [("one", 2), ("other", 3)]) rfl sc_is_row.nd (pi_zipK K (by rfl) T.b_zip (pa_cons (pv 0) (pa_cons (pe_slice sl_tupA (pv 0) (po_some (pe_int)) (po_none)) (pa_nil)))) (blkOk_by (N := N_is_row) (sc := defScope s_is_row) (own := [("one", 2), ("other", 3)]) (by decide +kernel)) (fun _ _ _ _ _ => pg_tupK K (n := 2) rfl (pgs_cons (pg_name (i := 2) sc_is_row.nd rfl (Or.inl rfl)) (pgs_cons (pg_name (i := 3) sc_is_row.nd rfl (Or.inl rfl)) (pgs_nil)))) (fun _ _ _ _ _ => pts_nil) (fun _ _ _ _ _ => pe_cmpR op_lt (pv 2) (pv 3) (nomark _))) (pa_nil))))), ?_⟩
    obtain ⟨ts, n⟩ := x
    obtain ⟨asc, lt, ln⟩ := hx
    dsimp only at asc lt ln p0 p1
    refine q_if (et_isb (et_or (a := false) (b := false) (et_not (a := true) (et_v (e_isTup (ei_var rfl p0)))) fun _ => et_not (a := true) (et_v (EvP.isB (e_all (xs := ts) (p := fun t => within (t : Int) 0 (some ((n : Int) - 1))) (lc_N1 (enc := dN) (fun t => .bool (within (t : Int) 0 (some ((n : Int) - 1)))) (src_S (vST (ei_var rfl p0))) (by omega) (fun _ => rfl) fun t y H1 m e i => ep_callF ((t : Int), 0, some ((n : Int) - 1)) (ea1 (mI _) (ei_var rfl i) (ea1 (mI _) ec_i (ea_1 (mI _) (eo (g := fun i j => i - j) (ei_var rfl (p1.up e)) ec_i)))))) (List.all_eq_true.mpr fun t m => by have := lt t m; simp [within]; omega)))) rfl) fun H1 e1 => ?_
    refine s_retP (P := vI (.bool true)) (EvP.isB (e_all (xs := ts.zip (ts.drop 1)) (p := fun p => decide ((p.1 : Int) < (p.2 : Int))) (lc_PZ1 (xs := ts.zip (ts.drop 1)) (e1 := fun p : Nat × Nat => dN p.1) (e2 := fun p : Nat × Nat => dN p.2) (fun p => .bool (decide ((p.1 : Int) < (p.2 : Int)))) (src_Z (enc := dN) (enc2 := dN) (ys := ts.drop 1) (by rw [List.length_drop]; omega) (ea1 (mQ (K := K) _) (EvP.imp (ei_var rfl (p0.up e1)) fun v H _ p => vQ_I p) (ea_1 (mQ (K := K) _) (e_sl1 (ei_var rfl (p0.up e1))))) fun vs H2 a => ?_) (by rw [List.length_zip, List.length_drop]; omega) (fun _ _ => rfl) fun p y z H2 m e i1 i2 => eoB (g := fun i j => decide (i < j)) (ei_var rfl i1) (ei_var rfl i2))) (List.all_eq_true.mpr fun p m => decide_eq_true (Int.ofNat_lt.mpr (zip_asc asc p m)))) fun v H2 e p => k v H2 (e1.trans e) p
    obtain ⟨v, w, rfl, ⟨a1, x1, rfl, q1, i1⟩, ⟨a2, x2, rfl, q2, i2⟩⟩ := a2o a
    exact ⟨a1, a2, x1, x2, rfl, .inr ⟨q1, q2⟩, i1, by rw [List.map_drop]; exact i2⟩
/-! ### are_rows -/
abbrev sp_are_rows : Sp := spP (fun x : List (Nat × List Nat) × List Nat × Nat => x.1.map (·.1) = x.2.1 ∧ x.1.length ≤ 100 ∧ (∀ r ∈ x.1, r.1 < x.2.2) ∧ (∀ r ∈ x.1, RowOk x.2.2 r.2)) (fun x => a3 (vI (.tuple (x.1.map rowD))) (vL (x.2.1.map dN)) (vI (dN x.2.2))) fun _ => vI (.bool true)
theorem c_are_rows (T : Txt K mg c) : Cal P w K mg base 4 "are_rows" (sp_are_rows) [] := by
  have c_is_row := c_is_row (P := P) (w := w) (base := base) T
  have c_is_within := c_is_within (P := P) (w := w) (base := base) T
  refine mkCal T.d_are_rows sc_are_rows (fun _ _ _ _ _ _ us hl => match us, hl with | [_, _, _], _ => rfl) (fun vs H Q E h => ?_) (fun f cdv A outer s H vs Q E hr h => ?_)
  · obtain ⟨x, hx, a, _⟩ := h
    obtain ⟨v0, v1, v2, rfl, _⟩ := a3o a
    rfl
  · obtain ⟨x, hx, a, k⟩ := h
    obtain ⟨v0, v1, v2, rfl, p0, p1, p2⟩ := a3o a
    have hu := hu_of hr
    refine ⟨_, pss_cons (ps_if ((pw_or (pt_not (pt_val (pe_callB (id := "isinstance") (cr_isiK K) (by rfl) T.b_isinstance (by decide +kernel) (pa_cons (pv 0) (pa_cons (pe_ty (n := "tuple") (by rfl) T.b_tuple (by decide +kernel)) (pa_nil)))))) (pw_or1 (pt_not (pt_val (pe_callB (id := "all") (cr_allK K rfl) (by rfl) T.b_all (by decide +kernel) (pa_cons (pe_lc (own := [("each", 6)]) rfl sc_are_rows.nd (pi_seqK K (pv 0)) (blkOk_by (N := N_are_rows) (sc := defScope s_are_rows) (own := [("each", 6)]) (by decide +kernel)) (fun _ _ _ _ _ => pg_name (i := 6) sc_are_rows.nd rfl (Or.inl rfl)) (fun _ _ _ _ _ => pts_nil) (fun _ _ _ _ _ => pe_and (pe_callB (id := "isinstance") (cr_isiK K) (by rfl) T.b_isinstance (by decide +kernel) (pa_cons (pv 6) (pa_cons (pe_ty (n := "tuple") (by rfl) T.b_tuple (by decide +kernel)) (pa_nil)))) (pe_one (pe_cmpR op_eq (pe_callB (id := "len") (cr_lenK K) (by rfl) T.b_len (by decide +kernel) (pa_cons (pv 6) (pa_nil))) (pe_int) (nomark _))))) (pa_nil))))))).pt) (pss_one (ps_ret (pe_bl))) (pss_nil))
      (pss_cons (ps_if (pt_not (pt_val (pe_callB (id := "all") (cr_allK K rfl) (by rfl) T.b_all (by decide +kernel) (pa_cons (pe_lc (own := [("thing", 3), ("row", 5)]) rfl sc_are_rows.nd (pi_seqK K (pv 0)) (blkOk_by (N := N_are_rows) (sc := defScope s_are_rows) (own := [("thing", 3), ("row", 5)]) (by decide +kernel)) (fun _ _ _ _ _ => pg_tupK K (n := 2) rfl (pgs_cons (pg_name (i := 3) sc_are_rows.nd rfl (Or.inl rfl)) (pgs_cons (pg_name (i := 5) sc_are_rows.nd rfl (Or.inl rfl)) (pgs_nil)))) (fun _ _ _ _ _ => pts_nil) (fun _ _ _ _ _ => pe_and (pe_c c_is_within hr (by decide) (by rfl) (pa_cons (pv 3) (pa_cons (pe_int) (pa_cons (pe_op op_sub (pv 2) (pe_int)) (pa_nil))))) (pe_one (pe_c c_is_row hr (by decide) (by rfl) (pa_cons (pv 5) (pa_cons (pv 2) (pa_nil))))))) (pa_nil))))) (pss_one (ps_ret (pe_bl))) (pss_nil))
      (pss_one (ps_ret (pe_cmpR (op_eqDK K hr.units) (pe_lc (own := [("thing", 3), ("_", 4)]) rfl sc_are_rows.nd (pi_seqK K (pv 0)) (blkOk_by (N := N_are_rows) (sc := defScope s_are_rows) (own := [("thing", 3), ("_", 4)]) (by decide +kernel)) (fun _ _ _ _ _ => pg_tupK K (n := 2) rfl (pgs_cons (pg_name (i := 3) sc_are_rows.nd rfl (Or.inl rfl)) (pgs_cons (pg_name (i := 4) sc_are_rows.nd rfl (Or.inl rfl)) (pgs_nil)))) (fun _ _ _ _ _ => pts_nil) (fun _ _ _ _ _ => pv 3)) (pe_callTy (T := "list") (cr_listK K) (by rfl) T.b_list (by decide +kernel) (pa_cons (pv 1) (pa_nil))) (nomark _))))), ?_⟩
    obtain ⟨rows, wanted, n⟩ := x
    obtain ⟨ew, ln, lt, ro⟩ := hx
    dsimp only at ew ln lt ro p0 p1 p2
    subst ew
    refine q_if (et_isb (et_or (a := false) (b := false) (et_not (a := true) (et_v (e_isTup (ei_var rfl p0)))) fun _ => et_not (a := true) (et_v (EvP.isB (e_all (xs := rows) (p := fun _ => true) (lc_N1 (enc := rowD) (fun _ => .bool true) (src_S (vST (ei_var rfl p0))) (by omega) (fun _ => rfl) fun r y H1 m e i => e_and (a := true) (e_isTup (ei_var rfl i)) fun _ => EvP.isB (e_eqI (e_len (ds := [dN r.1, tupN r.2]) (ep_var rfl (mS _) (vS_I i))) ec_i) rfl)) (by simp)))) rfl) fun H1 e1 => ?_
    refine q_if (et_not (a := true) (et_v (EvP.isB (e_all (xs := rows) (p := fun r => within (r.1 : Int) 0 (some ((n : Int) - 1)) && true) (lc_P1 (xs := rows) (e1 := fun r : Nat × List Nat => dN r.1) (e2 := fun r : Nat × List Nat => tupN r.2) (fun r => .bool (within (r.1 : Int) 0 (some ((n : Int) - 1)) && true)) (src_S (vST (ei_var rfl (p0.up e1)))) (by omega) (fun _ _ => rfl) fun r y z H2 m e i1 i2 => e_and (ep_callF ((r.1 : Int), 0, some ((n : Int) - 1)) (ea1 (mI _) (ei_var rfl i1) (ea1 (mI _) ec_i (ea_1 (mI _) (eo (g := fun i j => i - j) (ei_var rfl (p2.up (e1.trans e))) ec_i))))) fun _ => ep_callP (r.2, n) (ro r m) (ea1 (mI _) (ei_var rfl i2) (ea_1 (mI _) (ei_var rfl (p2.up (e1.trans e))))))) (List.all_eq_true.mpr fun r m => by have := lt r m; simp [within]; omega)))) fun H2 e2 => ?_
    refine s_retP (P := vI (.bool true)) (EvP.isB (e_eqLN (ns := rows.map (·.1)) (ms := rows.map (·.1)) (EvP.isL (lc_P1 (xs := rows) (e1 := fun r : Nat × List Nat => dN r.1) (e2 := fun r : Nat × List Nat => tupN r.2) (fun r => dN r.1) (src_S (vST (ei_var rfl (p0.up (e1.trans e2))))) (by omega) (fun _ _ => rfl) fun r y z H3 m e i1 i2 => ei_var rfl i1) (by rw [List.map_map]; rfl)) (e_list (ep_var rfl (mS _) (vS_L (mL _ _ _ _ (e1.trans e2) p1))))) (decide_eq_true rfl)) fun v H3 e p => k v H3 ((e1.trans e2).trans e) p
/-! ### met_by_check_lots -/
abbrev sp_met_by_check_lots : Sp := spP (fun x : List Nat × List Nat => (∀ t ∈ x.2, t < x.1.length)) (fun x => a2 (vL (x.1.map dN)) (vI (tupN x.2))) fun x => vI (dN (x.2.foldl (fun f t => xorN f (x.1.getD t 0)) 0))
theorem c_met_by_check_lots (T : Txt K mg c) : Cal P w K mg base 1 "met_by_check_lots" (sp_met_by_check_lots) [] := by
  refine mkCal T.d_met_by_check_lots sc_met_by_check_lots (fun _ _ _ _ _ _ us hl => match us, hl with | [_, _], _ => rfl) (fun vs H Q E h => ?_) (fun f cdv A outer s H vs Q E hr h => ?_)
  · obtain ⟨x, hx, a, _⟩ := h
    obtain ⟨v0, v1, rfl, _⟩ := a2o a
    rfl
  · obtain ⟨x, hx, a, k⟩ := h
    obtain ⟨v0, v1, rfl, p0, p1⟩ := a2o a
    have hu := hu_of hr
    refine ⟨_, pss_cons (ps_set (i := 2) sc_met_by_check_lots.nd rfl (Or.inl rfl) (pe_int))
      (pss_cons (ps_for PassesOwn.never rfl (pi_seqK K (pv 1)) (pg_name (i := 3) sc_met_by_check_lots.nd rfl (Or.inl rfl))
      (pss_one (ps_set (i := 2) sc_met_by_check_lots.nd rfl (Or.inl rfl) (pe_op op_xor (pv 2) (pe_ix (ix_seqK K) (pv 0) (pv 3) (fun _ _ => rfl))))))
      (pss_one (ps_ret (pv 2)))), ?_⟩
    obtain ⟨masks, lot⟩ := x
    dsimp only at hx p0 p1
    refine q_set (P := vI (dN 0)) ec_i fun v H1 e1 pv => ?_
    refine q_for (xs := lot) (enc := dN) (st_T (ei_var rfl (p1.up e1))) fun H2 e2 => ⟨fun l σ' H' => ∃ u o3, σ' = [some v0, some v1, some u, o3] ∧ Ex H H' ∧ Im H' u (dN (l.foldl (fun f t => xorN f (masks.getD t 0)) 0)), ⟨_, _, rfl, e1.trans e2, pv.up e2⟩, ?_, ?_⟩
    · rintro l t r y σ' H' G hlt tx ⟨u, o3, rfl, eH, iu⟩ ex im
      have tm : t ∈ lot := by rw [hlt]; exact List.mem_append_right _ List.mem_cons_self
      refine s_set (P := vI (dN (xorN (l.foldl (fun f t => xorN f (masks.getD t 0)) 0) (masks.getD t 0)))) (e_xorN (ei_var rfl (iu.up ex)) (e_ix (ep_var rfl (mS _) (vS_L (mL _ _ _ _ (eH.trans ex) p0))) (ei_var rfl im) (getD_some (hx t tm)))) fun v H3 e3 pv => ?_
      exact ⟨(tx.trans (Tx.of ex)).trans (Tx.of e3), _, _, rfl, (eH.trans ex).trans e3, by rw [List.foldl_append]; exact pv⟩
    · rintro σ' H' tx ⟨u, o3, rfl, eH, iu⟩
      exact s_retP (P := vI (dN (lot.foldl (fun f t => xorN f (masks.getD t 0)) 0))) (ei_var rfl iu) fun v H3 e p => k v H3 (eH.trans e) p
/-! ### need_nothing_given -/
abbrev sp_need_nothing_given : Sp := spF (fun x : NetD => a1 (vNet c x)) fun _ => vI .none
theorem c_need_nothing_given (T : Txt K mg c) : Cal P w K mg base 1 "need_nothing_given" (sp_need_nothing_given (c := c)) [] := by
  refine mkCal T.d_need_nothing_given sc_need_nothing_given (fun _ _ _ _ _ _ us hl => match us, hl with | [_], _ => rfl) (fun vs H Q E h => ?_) (fun f cdv A outer s H vs Q E hr h => ?_)
  · obtain ⟨x, a, _⟩ := h
    obtain ⟨v0, rfl, _⟩ := a1o a
    rfl
  · obtain ⟨x, a, k⟩ := h
    obtain ⟨v0, rfl, p0⟩ := a1o a
    have hu := hu_of hr
    refine ⟨_, pss_one (ps_if (pt_cmpR (op_neDK K hr.units) (pe_fldK K (pv 0)) (pe_tupZ (pa_nil)) (nomark _)) (pss_one (ps_never)) (pss_nil)), ?_⟩
    exact s_ifF (et_isb (et_t (e_neTN (ns := []) (ms := []) (n_given T (ep_var rfl (mO _ _) p0)) (ep_tup ea_nil (by show 0 ≤ 100000; omega)))) (by decide)) fun H1 e1 => k _ _ e1 .non
end
end Lk
end

section
set_option Elab.async false
set_option linter.all false
set_option maxRecDepth 100000
set_option maxHeartbeats 4000000
namespace Lk
open PySem PySem.Spec PyProof.Rows L2 Evl PySem.W C8
local macro_rules | `(tactic| walk_at "ex") => `(tactic| first | exact Ex.refl _ | assumption | (refine Ex.trans (H1 := ?g) ?a ?b; (case a => assumption); (case b => walk_at "ex")))
local macro_rules | `(tactic| walk_at "im") => `(tactic| first | assumption | exact Im.int _ | exact Im.bl _ | (refine Im.up (H := ?g) ?a ?b; (case a => assumption); (case b => walk_at "ex")))
local macro_rules | `(tactic| walk_at "ev") => `(tactic| first
  | exact ec_i | exact ec_b | exact ec_s | exact ec_n
  | (refine ei_var rfl ?_; walk_at "im")
  | (refine eo ?_ ?_ <;> walk_at "ev")
  | (refine eoB ?_ ?_ <;> walk_at "ev")
  | (refine e_eqI ?_ ?_ <;> walk_at "ev")
  | (refine e_neI ?_ ?_ <;> walk_at "ev")
  | (refine eu ?_ <;> walk_at "ev")
  | (refine e_not ?_ <;> walk_at "ev"))
/-! A comprehension of two loops. -/
theorem lc2_N {σ : L2.St} {H : Hp} {wi wi1 : TI} {te : TE} {vs vs1 : List Nat} {j j2 : Nat} {α β : Type} {xs : List α} {enc : α → PyData} {enc2 : β → PyData} {f : α → List β} (G : β → PyData) (h : SrcT wi σ H xs.length (fun i x G => ∃ a, xs[i]? = some a ∧ Im G x (enc a)))
    (hz : (xs.flatMap f).length ≤ 50000) (hw : ∀ x, wipe ((wipe σ vs).set j (some x)) vs = wipe σ vs) (hw1 : ∀ x y, wipe ((wipe ((wipe σ vs).set j (some x)) vs1).set j2 (some y)) vs1 = wipe ((wipe σ vs).set j (some x)) vs1)
    (h1 : ∀ a x H1, a ∈ xs → Ex H H1 → Im H1 x (enc a) → SrcT wi1 ((wipe σ vs).set j (some x)) H1 (f a).length (fun i y G => ∃ b, (f a)[i]? = some b ∧ Im G y (enc2 b)))
    (he : ∀ a b x y H1, a ∈ xs → b ∈ f a → Ex H H1 → Im H1 x (enc a) → Im H1 y (enc2 b) → EvP te ((wipe ((wipe σ vs).set j (some x)) vs1).set j2 (some y)) H1 (vI (G b))) :
    EvP (tLc2 wi (gName j) tYes wi1 (gName j2) tYes te vs vs1) σ H (vL ((xs.flatMap f).map G)) := by
  intro H1 e1 Q q
  refine h H1 e1 _ fun J H2 e2 hJ hS => ?_
  intro Dl hD
  have base : Ex H H2 := e1.trans e2
  refine ⟨fun i m G' => m = xs.length - i ∧ i ≤ xs.length ∧ Ex H2 G' ∧ ∃ ws, G' Dl = some (.lst ws) ∧ ImAll G' ws (((xs.take i).flatMap f).map G), ⟨_, rfl, Nat.zero_le _, Ex.new hD, [], upd_same, .nil⟩, ?_⟩
  rintro i m G1 ⟨rfl, hi, eG, ws, hx, im⟩
  by_cases hlt : i < xs.length
  · obtain ⟨go, yl⟩ := hJ i G1 (Tx.of eG) hlt
    have tk : xs.take (i + 1) = xs.take i ++ [xs[i]] := by rw [List.take_add_one, List.getElem?_eq_getElem hlt]; rfl
    have pre : (xs.take i).flatMap f ++ f xs[i] ++ (xs.drop (i + 1)).flatMap f = xs.flatMap f := by
      rw [List.append_assoc, ← List.flatMap_cons, ← List.drop_eq_getElem_cons hlt, ← List.flatMap_append, List.take_append_drop]
    have plen : ((xs.take i).flatMap f).length + (f xs[i]).length ≤ 50000 := by
      have e := congrArg List.length pre
      rw [List.length_append, List.length_append] at e
      omega
    refine .inr ⟨go, fun G' => Ex H2 G' ∧ ∃ ws, G' Dl = some (.lst ws) ∧ ImAll G' ws (((xs.take (i + 1)).flatMap f).map G), fun G' p => ⟨_, Nat.lt_of_lt_of_le (Nat.sub_lt_sub_left hlt (Nat.lt_succ_self i)) (Nat.le_refl _), rfl, hlt, p.1, p.2⟩, fun x G2 hy => ?_⟩
    obtain ⟨eY, _, a, ha, ix⟩ := yl x G2 hy
    rw [List.getElem?_eq_getElem hlt] at ha
    cases ha
    have am : xs[i] ∈ xs := List.getElem_mem hlt
    refine ⟨hw x, ?_⟩
    dsimp only [tYes]
    rw [if_pos rfl]
    have b2 : Ex H2 G2 := eG.trans eY
    refine h1 xs[i] x G2 am (base.trans b2) ix G2 (Ex.refl _) _ fun J1 G3 e3 hJ1 hS1 => ?_
    have b3 : Ex H2 G3 := b2.trans e3
    have hx3 := e3 _ _ (eY _ _ hx)
    refine ⟨fun k l G' => l = (f xs[i]).length - k ∧ k ≤ (f xs[i]).length ∧ Ex H2 G' ∧ Tx G3 G' ∧ ∃ ws, G' Dl = some (.lst ws) ∧ ImAll G' ws (((xs.take i).flatMap f ++ (f xs[i]).take k).map G), ⟨_, rfl, Nat.zero_le _, b3, Tx.refl _, ws, hx3, by rw [List.take_zero, List.append_nil]; exact (im.up eY).up e3⟩, ?_⟩
    rintro k l G4 ⟨rfl, hk, e4, t4, ws4, hx4, im4⟩
    by_cases hlk : k < (f xs[i]).length
    · obtain ⟨go1, yl1⟩ := hJ1 k G4 t4 hlk
      have tk1 : (f xs[i]).take (k + 1) = (f xs[i]).take k ++ [(f xs[i])[k]] := by rw [List.take_add_one, List.getElem?_eq_getElem hlk]; rfl
      refine .inr ⟨go1, fun G' => Ex H2 G' ∧ Tx G3 G' ∧ ∃ ws, G' Dl = some (.lst ws) ∧ ImAll G' ws (((xs.take i).flatMap f ++ (f xs[i]).take (k + 1)).map G), fun G' p => ⟨_, Nat.lt_of_lt_of_le (Nat.sub_lt_sub_left hlk (Nat.lt_succ_self k)) (Nat.le_refl _), rfl, hlk, p.1, p.2.1, p.2.2⟩, fun y G5 hy5 => ?_⟩
      obtain ⟨eY5, _, b, hb, iy⟩ := yl1 y G5 hy5
      rw [List.getElem?_eq_getElem hlk] at hb
      cases hb
      refine ⟨hw1 x y, ?_⟩
      dsimp only [tYes]
      rw [if_pos rfl]
      refine he xs[i] (f xs[i])[k] x y G5 am (List.getElem_mem hlk) (base.trans (e4.trans eY5)) (((ix.up e3).mv t4).up eY5) iy G5 (Ex.refl _) _ fun v G6 e6 p6 => ⟨ws4, e6 _ _ (eY5 _ _ hx4), ?_, ?_⟩
      · rw [im4.len, List.length_map, List.length_append, List.length_take]
        exact sz_lt (by omega)
      · have hD6 : G6 Dl = some (.lst ws4) := e6 _ _ (eY5 _ _ hx4)
        refine ⟨Ex.mut ((e4.trans eY5).trans e6) hD, (t4.trans (Tx.of (eY5.trans e6))).trans (Tx.lst hD6), ws4 ++ [v], upd_same, ?_⟩
        rw [tk1, ← List.append_assoc, List.map_append]
        exact (((im4.up eY5).up e6).mv (Tx.lst hD6)).app (.cons (Im.mv (Tx.lst hD6) p6) .nil)
    · have e : k = (f xs[i]).length := by omega
      subst e
      refine .inl ⟨hS1 G4 t4, e4, ws4, hx4, ?_⟩
      rw [tk, List.flatMap_append, List.flatMap_cons, List.flatMap_nil, List.append_nil]
      rw [List.take_length] at im4
      exact im4
  · have e : i = xs.length := by omega
    subst e
    rw [List.take_length] at im
    exact .inl ⟨hS G1 (Tx.of eG), q _ _ (e2.trans eG) ⟨Dl, ws, rfl, hx, im⟩⟩
end Lk
end

section
set_option Elab.async false
set_option linter.all false
set_option maxRecDepth 100000
set_option maxHeartbeats 4000000
namespace Lk
open PySem PySem.Spec PyProof.Rows L2 Evl PySem.W C8
local macro_rules | `(tactic| walk_at "ex") => `(tactic| first | exact Ex.refl _ | assumption | (refine Ex.trans (H1 := ?g) ?a ?b; (case a => assumption); (case b => walk_at "ex")))
local macro_rules | `(tactic| walk_at "im") => `(tactic| first | assumption | exact Im.int _ | exact Im.bl _ | (refine Im.up (H := ?g) ?a ?b; (case a => assumption); (case b => walk_at "ex")))
local macro_rules | `(tactic| walk_at "ev") => `(tactic| first
  | exact ec_i | exact ec_b | exact ec_s | exact ec_n
  | (refine ei_var rfl ?_; walk_at "im")
  | (refine eo ?_ ?_ <;> walk_at "ev")
  | (refine eoB ?_ ?_ <;> walk_at "ev")
  | (refine e_eqI ?_ ?_ <;> walk_at "ev")
  | (refine e_neI ?_ ?_ <;> walk_at "ev")
  | (refine eu ?_ <;> walk_at "ev")
  | (refine e_not ?_ <;> walk_at "ev"))

section
variable {P : Program} {w : World} {K : PySem.W.Frag} {mg : Str → Option Value} {base : Heap} {c : Cs}
theorem et_trI {K : PySem.W.Frag} {σ : L2.St} {H : Hp} {te : TE} {i : Int} (h : EvP te σ H (vI (.int i))) : EvT (fun σ H Q => te σ H fun x H' => ∃ k, TruV K x H' k ∧ Q k H') σ H (i != 0) := fun H1 e Q q => h H1 e _ fun v H2 e2 p => by
  cases Im.isInt p
  exact ⟨_, rfl, q H2 e2⟩
def lotN (lots : List (Nat × List Nat)) (t : Nat) : List Nat := (getA (mergeA [] lots) t).getD []
def metB (masks lot : List Nat) : Nat := lot.foldl (fun f t => xorN f (masks.getD t 0)) 0
def rightT (masks : List Nat) (lots : List (Nat × List Nat)) (free later t : Nat) : Bool :=
  decide (Builtin.bitAnd (maskN (lotN lots t) : Int) (Builtin.bitNot ((later &&& free : Nat) : Int)) = 0) &&
  decide (Builtin.bitAnd (metB masks (lotN lots t) : Int) (Builtin.bitNot ((later ||| 2 ^ t : Nat) : Int)) = 0) &&
  decide (metB masks (lotN lots t) / 2 ^ t &&& 1 = 1)
def rightB (masks : List Nat) (lots : List (Nat × List Nat)) (free : Nat) : Nat → List (List Nat) → Bool
  | _, [] => true
  | later, l :: r => l.all (rightT masks lots free later) && rightB masks lots free (later ||| maskN l) r
abbrev flatN (ls : List (List Nat)) : List Nat := ls.flatMap fun l => l
structure PapOk (x : NetD) (p : PapD) : Prop where
  rows : ∀ l ∈ p.layers, RowOk x.n l ∧ l ≠ []
  srt : isort (flatN p.layers) = isort x.looked
  few : p.layers.length ≤ 100
  lotk : p.lots.map (·.1) = isort x.looked
  lotl : ∀ r ∈ p.lots, r.1 < x.n ∧ RowOk x.n r.2
  right : rightB (masksN x.n x.ss) p.lots (maskN (List.range x.n)) (maskN x.kept) p.layers.reverse = true
theorem flat_len {x : NetD} {p : PapD} (o : x.Ok) (h : PapOk x p) : (flatN p.layers).length ≤ 4 := by
  have e := congrArg List.length h.srt
  rw [(isort_perm _).length_eq, (isort_perm _).length_eq] at e
  have := x.looked_len
  have := o.n4
  omega
/-! ### are_layers -/
abbrev sp_are_layers : Sp := spP (fun x : NetD × PapD => x.1.Ok ∧ PapOk x.1 x.2) (fun x => a2 (vNet c x.1) (vI (.tuple (x.2.layers.map tupN)))) fun _ => vI (.bool true)
theorem c_are_layers (T : Txt K mg c) : Cal P w K mg base 4 "are_layers" (sp_are_layers (c := c)) [] := by
  have c_is_row := c_is_row (P := P) (w := w) (base := base) T
  refine mkCal T.d_are_layers sc_are_layers (fun _ _ _ _ _ _ us hl => match us, hl with | [_, _], _ => rfl) (fun vs H Q E h => ?_) (fun f cdv A outer s H vs Q E hr h => ?_)
  · obtain ⟨x, hx, a, _⟩ := h
    obtain ⟨v0, v1, rfl, _⟩ := a2o a
    rfl
  · obtain ⟨x, hx, a, k⟩ := h
    obtain ⟨v0, v1, rfl, p0, p1⟩ := a2o a
    have hu := hu_of hr
    refine ⟨_, pss_cons (ps_if ((pw_or (pt_not (pt_val (pe_callB (id := "isinstance") (cr_isiK K) (by rfl) T.b_isinstance (by decide +kernel) (pa_cons (pv 1) (pa_cons (pe_ty (n := "tuple") (by rfl) T.b_tuple (by decide +kernel)) (pa_nil)))))) (pw_or1 (pt_not (pt_val (pe_callB (id := "all") (cr_allK K rfl) (by rfl) T.b_all (by decide +kernel) (pa_cons (pe_lc (own := [("layer", 2)]) rfl sc_are_layers.nd (pi_seqK K (pv 1)) (blkOk_by (N := N_are_layers) (sc := defScope s_are_layers) (own := [("layer", 2)]) (by decide +kernel)) (fun _ _ _ _ _ => pg_name (i := 2) sc_are_layers.nd rfl (Or.inl rfl)) (fun _ _ _ _ _ => pts_nil) (fun _ _ _ _ _ => pe_and (pe_c c_is_row hr (by decide) (by rfl) (pa_cons (pv 2) (pa_cons (pe_fldK K (pv 0)) (pa_nil)))) (pe_one (pe_cmpR (op_neDK K hr.units) (pv 2) (pe_tupZ (pa_nil)) (nomark _))))) (pa_nil))))))).pt) (pss_one (ps_ret (pe_bl))) (pss_nil))
      (pss_one (ps_ret (pe_cmpR (op_eqDK K hr.units) (pe_callB (id := "sorted") (cr_sortD hr) (by rfl) T.b_sorted (by decide +kernel) (pa_cons (pe_lc2 (own := [("layer", 2), ("thing", 3)]) (vs1 := [3]) rfl sc_are_layers.nd (pi_seqK K (pv 1)) (blkOk_by (N := N_are_layers) (sc := defScope s_are_layers) (own := [("layer", 2), ("thing", 3)]) (by decide +kernel)) (by decide) (fun _ _ _ _ _ => pg_name (i := 2) sc_are_layers.nd rfl (Or.inl rfl)) (fun _ _ _ _ _ => pts_nil) (fun _ _ _ _ _ => pi_seqK K (pv 2)) (fun _ _ _ _ _ => pg_name (i := 3) sc_are_layers.nd rfl (Or.inl rfl)) (fun _ _ _ _ _ => pts_nil) (fun _ _ _ _ _ => pv 3)) (pa_nil))) (pe_callB (id := "sorted") (cr_sortD hr) (by rfl) T.b_sorted (by decide +kernel) (pa_cons (pe_fldK K (pv 0)) (pa_nil))) (nomark _)))), ?_⟩
    obtain ⟨net, pap⟩ := x
    obtain ⟨ok, po⟩ := hx
    dsimp only at p0 p1 ok po
    have fl := flat_len ok po
    have few := po.few
    have lk := net.looked_len
    have n4 := ok.n4
    refine q_if (et_isb (et_or (a := false) (b := false) (et_not (a := true) (et_v (e_isTup (ei_var rfl p1)))) fun _ => et_not (a := true) (et_v (EvP.isB (e_all (xs := pap.layers) (p := fun _ => true) (lc_N1 (enc := tupN) (fun _ => .bool true) (src_S (vST (ei_var rfl p1))) (by omega) (fun _ => rfl) fun l y H1 m e i => e_and (a := true) (ep_callP (l, net.n) (po.rows l m).1 (ea1 (mI _) (ei_var rfl i) (ea_1 (mI _) (n_things T (ep_var rfl (mO _ _) (mO _ _ _ _ _ e p0)))))) fun _ => EvP.isB (e_neTN (ns := l) (ms := []) (ei_var rfl i) (ep_tup ea_nil (by show 0 ≤ 100000; omega))) (by rw [decide_eq_false (po.rows l m).2]; rfl))) (by simp)))) rfl) fun H1 e1 => ?_
    refine s_retP (P := vI (.bool true)) (EvP.isB (e_eqLN (ns := isort (flatN pap.layers)) (ms := isort net.looked) (EvP.isL (e_sortN (ns := flatN pap.layers) (vSL (lc2_N (xs := pap.layers) (enc := tupN) (enc2 := dN) (f := fun l => l) dN (st_T (ei_var rfl (p1.up e1))) (by show (flatN pap.layers).length ≤ 50000; omega) (fun _ => rfl) (fun _ _ => rfl) (fun l y H2 m e i => st_T (ei_var rfl i)) fun l t y z H2 m m2 e i i2 => ei_var rfl i2)) (by omega)) (sortD_isort _)) (EvP.isL (e_sortN (ns := net.looked) (vST (n_looked T (ep_var rfl (mO _ _) (mO _ _ _ _ _ e1 p0)))) (by omega)) (sortD_isort _))) (decide_eq_true po.srt)) fun v H2 e p => k v H2 (e1.trans e) p
theorem getA_app {α : Type} {n : Nat} {d : α} : ∀ {ps : List (Nat × α)} {m : Nat}, hasA ps m = false → getA (ps ++ [(m, d)]) n = if m = n then some d else getA ps n
  | [], m, _ => rfl
  | p :: r, m, h => by
    have h : (decide (p.1 = m) || hasA r m) = false := h
    rw [Bool.or_eq_false_iff] at h
    show (if p.1 = n then some p.2 else getA (r ++ [(m, d)]) n) = if m = n then some d else if p.1 = n then some p.2 else getA r n
    by_cases e : p.1 = n
    · rw [if_pos e, if_neg (fun z => of_decide_eq_false h.1 (e.trans z.symm)), if_pos e]
    · rw [if_neg e, getA_app h.2, if_neg e]
theorem getA_set' {α : Type} {n m : Nat} {d : α} : ∀ {ps : List (Nat × α)}, getA (setA ps m d) n = if m = n then (getA ps n).map (fun _ => d) else getA ps n
  | [] => by
    by_cases e2 : m = n
    · rw [if_pos e2]; rfl
    · rw [if_neg e2]; rfl
  | p :: r => by
    have ih := getA_set' (n := n) (m := m) (d := d) (ps := r)
    show getA ((if p.1 = m then (p.1, d) else p) :: setA r m d) n = if m = n then (if p.1 = n then some p.2 else getA r n).map (fun _ => d) else if p.1 = n then some p.2 else getA r n
    by_cases e : p.1 = m
    · rw [if_pos e]
      show (if p.1 = n then some d else getA (setA r m d) n) = _
      by_cases e2 : m = n
      · rw [if_pos (e.trans e2), if_pos e2, if_pos (e.trans e2)]; rfl
      · rw [if_neg (fun z => e2 (e.symm.trans z)), if_neg e2, if_neg (fun z => e2 (e.symm.trans z)), ih, if_neg e2]
    · rw [if_neg e]
      show (if p.1 = n then some p.2 else getA (setA r m d) n) = _
      by_cases e2 : p.1 = n
      · rw [if_pos e2, if_neg (fun z => e (e2.trans z.symm)), if_pos e2]
      · rw [if_neg e2, if_neg e2, ih]
theorem hasA_getA {α : Type} {n : Nat} : ∀ {ps : List (Nat × α)}, hasA ps n = true → ∃ d, getA ps n = some d
  | [], h => by cases h
  | p :: r, h => by
    have h : (decide (p.1 = n) || hasA r n) = true := h
    show ∃ d, (if p.1 = n then some p.2 else getA r n) = some d
    by_cases e : p.1 = n
    · rw [if_pos e]; exact ⟨_, rfl⟩
    · rw [if_neg e]
      rw [decide_eq_false e, Bool.false_or] at h
      exact hasA_getA h
theorem getA_put {α : Type} {n m : Nat} {d : α} {ps : List (Nat × α)} : getA (putA ps m d) n = if m = n then some d else getA ps n := by
  unfold putA
  by_cases h : hasA ps m = true
  · rw [if_pos h, getA_set']
    by_cases e : m = n
    · obtain ⟨z, hz⟩ := hasA_getA h
      rw [if_pos e, if_pos e, ← e, hz]; rfl
    · rw [if_neg e, if_neg e]
  · rw [if_neg h]; exact getA_app (Bool.eq_false_iff.mpr h)
theorem lotN_some {x : NetD} {p : PapD} (h : PapOk x p) {t : Nat} (m : t ∈ x.looked) : getA (mergeA [] p.lots) t = some (lotN p.lots t) ∧ RowOk x.n (lotN p.lots t) := by
  have go : ∀ (qs acc : List (Nat × List Nat)), (∀ r ∈ acc, RowOk x.n r.2) → (∀ r ∈ qs, RowOk x.n r.2) → (t ∈ qs.map (·.1) ∨ (getA acc t).isSome = true) → ∃ l, getA (mergeA acc qs) t = some l ∧ RowOk x.n l := fun qs => by
    induction qs with
    | nil =>
      intro acc ha _ h
      rcases h with h | h
      · cases h
      · obtain ⟨l, hl⟩ := Option.isSome_iff_exists.mp h
        exact ⟨l, hl, ha _ (getA_mem hl)⟩
    | cons q r ih =>
      intro acc ha hq h
      refine ih (putA acc q.1 q.2) (fun y hy => ?_) (fun y hy => hq y (List.mem_cons_of_mem _ hy)) ?_
      · rcases mem_putA hy with e | hy
        · rw [e]; exact hq q List.mem_cons_self
        · exact ha y hy
      · rcases h with h | h
        · rcases List.mem_cons.mp h with e | h
          · right; rw [e, getA_put, if_pos rfl]; rfl
          · exact .inl h
        · right
          by_cases e : q.1 = t
          · rw [getA_put, if_pos e]; rfl
          · rw [getA_put, if_neg e]; exact h
  obtain ⟨l, h1, h2⟩ := go p.lots [] (fun r m => by cases m) (fun r m => (h.lotl r m).2) (.inl (by rw [h.lotk]; exact (isort_perm _).mem_iff.mpr m))
  unfold lotN
  rw [h1]
  exact ⟨rfl, h2⟩
theorem layer_mem {x : NetD} {p : PapD} (h : PapOk x p) {l : List Nat} (hl : l ∈ p.layers) {t : Nat} (m : t ∈ l) : t ∈ x.looked := (isort_perm _).mem_iff.mp (h.srt ▸ (isort_perm _).mem_iff.mpr (List.mem_flatMap.mpr ⟨l, hl, m⟩))
theorem right_at {masks : List Nat} {lots : List (Nat × List Nat)} {free : Nat} {y : List Nat} {r : List (List Nat)} : ∀ {l : List (List Nat)} {later : Nat}, rightB masks lots free later (l ++ y :: r) = true → ∀ t ∈ y, rightT masks lots free (l.foldl (fun a z => a ||| maskN z) later) t = true
  | [], later, h, t, m => by
    have h : (y.all (rightT masks lots free later) && rightB masks lots free (later ||| maskN y) r) = true := h
    rw [Bool.and_eq_true] at h
    exact List.all_eq_true.mp h.1 t m
  | z :: l, later, h, t, m => by
    have h : (z.all (rightT masks lots free later) && rightB masks lots free (later ||| maskN z) (l ++ y :: r)) = true := h
    rw [Bool.and_eq_true] at h
    exact right_at h.2 t m
theorem bit1 {m : Nat} (h : decide (m &&& 1 = 1) = true) : (((m &&& 1 : Nat) : Int) != 0) = true := by
  rw [of_decide_eq_true h]; rfl
theorem p_layers {K : PySem.W.Frag} {mg : Str → Option Value} {c : Cs} (T : Txt K mg c) {σ : L2.St} {H : Hp} {te : TE} {p : PapD} (h : EvP te σ H (vPap c p)) : EvP (tFld K te "layers") σ H (vI (.tuple (p.layers.map tupN))) := e_fo h T.cl_Lots T.nLots_layers rfl
theorem p_lots {K : PySem.W.Frag} {mg : Str → Option Value} {c : Cs} (T : Txt K mg c) {σ : L2.St} {H : Hp} {te : TE} {p : PapD} (h : EvP te σ H (vPap c p)) : EvP (tFld K te "lots") σ H (vI (.tuple (p.lots.map rowD))) := e_fo h T.cl_Lots T.nLots_lots rfl
theorem im_rng {H : Hp} (n : Nat) : ImAll H (rgV 0 (n : Int)) ((List.range n).map dN) := by
  have go : ∀ (l : List Nat), ImAll H (l.map fun i => V.int (0 + (i : Nat))) (l.map dN) := fun l => by
    induction l with
    | nil => exact .nil
    | cons i r ih => exact .cons (by show Im H (.int (0 + (i : Int))) (.int (i : Int)); rw [Int.zero_add]; exact .int _) ih
  have e : ((n : Int) - 0).toNat = n := by omega
  unfold rgV
  rw [e]
  exact go _
theorem e_listRgF {σ : L2.St} {H : Hp} {te : TE} {n : Nat} (h : EvP te σ H (vI (dN n))) (hn : n ≤ 50000) : EvP (tLstRg (tRg1 te)) σ H (vF H ((List.range n).map dN)) := fun H1 e Q q => h H1 e _ fun v H2 e2 p =>
  ⟨(n : Int), Im.isInt p, .of_le (Int.le_refl 0) (by omega) (by omega) (by omega), fun d hd => q _ _ (e2.trans (Ex.new hd)) ⟨d, _, rfl, fresh_back (e.trans e2) hd, upd_same, im_rng n⟩⟩
theorem e_listRg {σ : L2.St} {H : Hp} {te : TE} {n : Nat} (h : EvP te σ H (vI (dN n))) (hn : n ≤ 50000) : EvP (tLstRg (tRg1 te)) σ H (vL ((List.range n).map dN)) := EvP.imp (e_listRgF h hn) fun v H1 _ p => vF_L p
/-! ### are_right -/
abbrev sp_are_right : Sp := spP (fun x : NetD × PapD => x.1.Ok ∧ PapOk x.1 x.2) (fun x => a2 (vNet c x.1) (vPap c x.2)) fun _ => vI (.bool true)
theorem c_are_right (T : Txt K mg c) : Cal P w K mg base 5 "are_right" (sp_are_right (c := c)) [] := by
  have c_are_layers := c_are_layers (P := P) (w := w) (base := base) T
  have c_are_rows := c_are_rows (P := P) (w := w) (base := base) T
  have c_free_of := c_free_of (P := P) (w := w) (base := base) T
  have c_mask_of := c_mask_of (P := P) (w := w) (base := base) T
  have c_masks_of := c_masks_of (P := P) (w := w) (base := base) T
  have c_met_by_check_lots := c_met_by_check_lots (P := P) (w := w) (base := base) T
  refine mkCal T.d_are_right sc_are_right (fun _ _ _ _ _ _ us hl => match us, hl with | [_, _], _ => rfl) (fun vs H Q E h => ?_) (fun f cdv A outer s H vs Q E hr h => ?_)
  · obtain ⟨x, hx, a, _⟩ := h
    obtain ⟨v0, v1, rfl, _⟩ := a2o a
    rfl
  · obtain ⟨x, hx, a, k⟩ := h
    obtain ⟨v0, v1, rfl, p0, p1⟩ := a2o a
    have hu := hu_of hr
    refine ⟨_, pss_cons (ps_if ((pw_or (pt_not (pt_val (pe_c c_are_layers hr (by decide) (by rfl) (pa_cons (pv 0) (pa_cons (pe_fldK K (pv 1)) (pa_nil)))))) (pw_or1 (pt_not (pt_val (pe_c c_are_rows hr (by decide) (by rfl) (pa_cons (pe_fldK K (pv 1)) (pa_cons (pe_callB (id := "sorted") (cr_sortD hr) (by rfl) T.b_sorted (by decide +kernel) (pa_cons (pe_fldK K (pv 0)) (pa_nil))) (pa_cons (pe_fldK K (pv 0)) (pa_nil))))))))).pt) (pss_one (ps_ret (pe_bl))) (pss_nil))
      (pss_cons (ps_par (i := 2) (j := 3) rfl sc_are_right.nd rfl rfl (by decide) rfl rfl (pa_cons (pe_c c_masks_of hr (by decide) (by rfl) (pa_cons (pv 0) (pa_nil))) (pa_cons (pe_callTy (T := "dict") (cr_dictT K rfl) (by rfl) T.b_dict (by decide +kernel) (pa_cons (pe_fldK K (pv 1)) (pa_nil))) (pa_nil))) (by rfl))
      (pss_cons (ps_par (i := 4) (j := 5) rfl sc_are_right.nd rfl rfl (by decide) rfl rfl (pa_cons (pe_c c_mask_of hr (by decide) (by rfl) (pa_cons (pe_fldK K (pv 0)) (pa_nil))) (pa_cons (pe_c c_mask_of hr (by decide) (by rfl) (pa_cons (pe_c c_free_of hr (by decide) (by rfl) (pa_cons (pv 0) (pa_cons (pe_listRg rfl (by rfl) T.b_list (prg_1 (by rfl) T.b_range (pe_fldK K (pv 0)))) (pa_nil)))) (pa_nil))) (pa_nil))) (by rfl))
      (pss_cons (ps_for PassesOwn.never rfl (pi_seqK K (pe_revT (pe_fldK K (pv 1)))) (pg_name (i := 6) sc_are_right.nd rfl (Or.inl rfl))
      (pss_cons (ps_for PassesOwn.never rfl (pi_seqK K (pv 6)) (pg_name (i := 7) sc_are_right.nd rfl (Or.inl rfl))
      (pss_cons (ps_set (i := 8) sc_are_right.nd rfl (Or.inl rfl) (pe_c c_met_by_check_lots hr (by decide) (by rfl) (pa_cons (pv 2) (pa_cons (pe_dget hu (pv 3) (pv 7) (fun _ _ => rfl)) (pa_nil)))))
      (pss_one (ps_if ((pw_or (pt_cmpR op_ne (pe_op op_and (pe_c c_mask_of hr (by decide) (by rfl) (pa_cons (pe_dget hu (pv 3) (pv 7) (fun _ _ => rfl)) (pa_nil))) (pe_un un_inv (pe_op op_and (pv 4) (pv 5)))) (pe_int) (nomark _)) (pw_or (pt_cmpR op_ne (pe_op op_and (pv 8) (pe_un un_inv (pe_op op_or (pv 4) (pe_op op_shl (pe_int) (pv 7))))) (pe_int) (nomark _)) (pw_or1 (pt_not (pt_truth (pe_op op_and (pe_op op_shr (pv 8) (pv 7)) (pe_int)) (fun _ => rfl)))))).pt) (pss_one (ps_ret (pe_bl))) (pss_nil)))))
      (pss_one (ps_set (i := 4) sc_are_right.nd rfl (Or.inl rfl) (pe_op op_or (pv 4) (pe_c c_mask_of hr (by decide) (by rfl) (pa_cons (pv 6) (pa_nil))))))))
      (pss_one (ps_ret (pe_bl)))))), ?_⟩
    obtain ⟨net, pap⟩ := x
    obtain ⟨ok, po⟩ := hx
    dsimp only at p0 p1 ok po
    obtain ⟨mok, mlen⟩ := masksN_ok ok
    have fl := flat_len ok po
    have few := po.few
    have lk := net.looked_len
    have n4 := ok.n4
    have kz := ok.kz
    have hl : pap.lots.length ≤ 4 := by
      have e := congrArg List.length po.lotk
      rw [List.length_map, (isort_perm _).length_eq] at e
      omega
    have net' : ∀ {H'}, Ex H H' → vNet c net v0 H' := fun e => mO _ _ _ _ _ e p0
    have pap' : ∀ {H'}, Ex H H' → vPap c pap v1 H' := fun e => mO _ _ _ _ _ e p1
    refine q_if (et_isb (et_or (a := false) (b := false) (et_not (a := true) (et_v (ep_callP (net, pap) ⟨ok, po⟩ (ea1 (mO _ _) (ep_var rfl (mO _ _) p0) (ea_1 (mI _) (p_layers T (ep_var rfl (mO _ _) p1))))))) fun _ => et_not (a := true) (et_v (ep_callP (pap.lots, isort net.looked, net.n) ⟨po.lotk, by show pap.lots.length ≤ 100; omega, fun r m => (po.lotl r m).1, fun r m => (po.lotl r m).2⟩ (ea1 (mI _) (p_lots T (ep_var rfl (mO _ _) p1)) (ea1 (mL _) (EvP.isL (e_sortN (ns := net.looked) (vST (n_looked T (ep_var rfl (mO _ _) p0))) (by omega)) (sortD_isort _)) (ea_1 (mI _) (n_things T (ep_var rfl (mO _ _) p0)))))))) rfl) fun H1 e1 => ?_
    refine q_par (P := vL ((masksN net.n net.ss).map dN)) (R := vDF H1 (mergeA [] (encA tupN pap.lots))) (ep_callP net ok (ea_1 (mO _ _) (ep_var rfl (mO _ _) (net' e1)))) (e_dictT (EvP.is (p_lots T (ep_var rfl (mO _ _) (pap' e1))) (by unfold encA; rw [List.map_map]; rfl))) (mL _) fun vm vd H2 e2 pm pd => ?_
    have pd := vDF_D pd
    have e12 := e1.trans e2
    refine q_par (P := vI (dN (maskN net.kept))) (R := vI (dN (maskN (List.range net.n)))) (ep_callP net.kept ⟨by omega, fun t m => by have := ok.kl t m; omega⟩ (ea_1 (mS _) (vST (n_kept T (ep_var rfl (mO _ _) (net' e12)))))) (ep_callP (List.range net.n) ⟨by rw [List.length_range]; omega, fun t m => by have := List.mem_range.mp m; omega⟩ (ea_1 (mS _) (vSL (ep_callP (net, List.range net.n) (by show (List.range net.n).length ≤ 50000; rw [List.length_range]; omega) (ea1 (mO _ _) (ep_var rfl (mO _ _) (net' e12)) (ea_1 (mS _) (vSL (e_listRg (n_things T (ep_var rfl (mO _ _) (net' e12))) (by omega))))))))) (mI _) fun vl vf H3 e3 pl pf => ?_
    have e123 := e12.trans e3
    refine q_for (xs := pap.layers.reverse) (enc := tupN) (st_T (e_revT (p_layers T (ep_var rfl (mO _ _) (pap' e123))))) fun H4 e4 => ⟨fun l σ' H' => ∃ vl o6 o7 o8, σ' = [some v0, some v1, some vm, some vd, some vl, some vf, o6, o7, o8] ∧ Ex H3 H' ∧ Im H' vl (dN (l.foldl (fun a z => a ||| maskN z) (maskN net.kept))), ⟨_, _, _, _, rfl, e4, pl.up e4⟩, ?_, ?_⟩
    · rintro l y r vy σ' H' G hlt tx ⟨vl, o6, o7, o8, rfl, eH, il⟩ ex im
      have ym : y ∈ pap.layers := List.mem_reverse.mp (by rw [hlt]; exact List.mem_append_right _ List.mem_cons_self)
      have ry := (po.rows y ym).1
      have rt := right_at (by rw [← hlt]; exact po.right)
      generalize hla : l.foldl (fun a z => a ||| maskN z) (maskN net.kept) = later at *
      have ilG := il.up ex
      have eG := eH.trans ex
      refine q_for (xs := y) (enc := dN) (st_T (ei_var rfl im)) fun H5 e5 => ⟨fun m σ' H' => ∃ o7 o8, σ' = [some v0, some v1, some vm, some vd, some vl, some vf, some vy, o7, o8] ∧ Ex G H', ⟨_, _, rfl, e5⟩, ?_, ?_⟩
      · rintro m t q vt σ' H6 G2 hm tx2 ⟨o7, o8, rfl, eH6⟩ ex2 imt
        have tm : t ∈ y := by rw [hm]; exact List.mem_append_right _ List.mem_cons_self
        obtain ⟨lo, lr⟩ := lotN_some po (layer_mem po ym tm)
        have rt := rt t tm
        unfold rightT at rt
        rw [Bool.and_eq_true, Bool.and_eq_true] at rt
        obtain ⟨⟨r1, r2⟩, r3⟩ := rt
        have tl := ry.2.1 t tm
        have e2G : Ex H3 G2 := (eG.trans eH6).trans ex2
        have getl : ∀ {H'} {u : Option V}, Ex G2 H' → EvP (tDGet (tVar 3) (tVar 7)) [some v0, some v1, some vm, some vd, some vl, some vf, some vy, some vt, u] H' (vI (tupN (lotN pap.lots t))) := fun {H' u} e => e_dget (ep_var rfl (mD _) (mD _ _ _ _ (e3.trans (e2G.trans e)) pd)) (ei_var rfl (imt.up e)) (by rw [show mergeA [] (encA tupN pap.lots) = encA tupN (mergeA [] pap.lots) from mergeA_enc pap.lots [], getA_enc, lo]; rfl)
        refine q_set (P := vI (dN (metB (masksN net.n net.ss) (lotN pap.lots t)))) (ep_callP (masksN net.n net.ss, lotN pap.lots t) (fun z hz => by rw [mlen]; exact lr.2.1 z hz) (ea1 (mL _) (ep_var rfl (mL _) (mL _ _ _ _ (e3.trans e2G) pm)) (ea_1 (mI _) (getl (Ex.refl _))))) fun vk H7 e7 pk => ?_
        have ilk := (ilG.up (eH6.trans ex2)).up e7
        have ifk := (pf.up e2G).up e7
        refine s_ifF (et_isb (et_or (a := false) (b := false) (et_t (EvP.isB (e_neI (eo (g := Builtin.bitAnd) (ep_callP (lotN pap.lots t) ⟨by have := lr.2.2; omega, fun z hz => by have := lr.2.1 z hz; omega⟩ (ea_1 (mS _) (vST (getl e7)))) (eu (g := Builtin.bitNot) (e_andN (ei_var rfl ilk) (ei_var rfl ifk)))) ec_i) (by rw [r1]; rfl))) fun _ => et_or (a := false) (b := false) (et_t (EvP.isB (e_neI (eo (g := Builtin.bitAnd) (ei_var rfl pk) (eu (g := Builtin.bitNot) (e_orN (ei_var rfl ilk) (e_shl1 (ei_var rfl (imt.up e7)) (by omega))))) ec_i) (by rw [r2]; rfl))) fun _ => et_not (a := true) (et_isb (et_trI (e_andN (e_shrN (ei_var rfl pk) (ei_var rfl (imt.up e7))) ec_i)) (bit1 r3))) rfl) fun H8 e8 => ?_
        exact ⟨(tx2.trans (Tx.of ex2)).trans (Tx.of (e7.trans e8)), _, _, rfl, (eH6.trans ex2).trans (e7.trans e8)⟩
      · rintro σ' H6 tx2 ⟨o7, o8, rfl, eH6⟩
        refine s_set (P := vI (dN (later ||| maskN y))) (e_orN (ei_var rfl (ilG.up eH6)) (ep_callP y ⟨by have := ry.2.2; omega, fun z hz => by have := ry.2.1 z hz; omega⟩ (ea_1 (mS _) (vST (ei_var rfl (im.up eH6)))))) fun v H7 e7 pv => ?_
        refine ⟨(tx.trans (Tx.of ex)).trans (Tx.of (eH6.trans e7)), _, _, _, _, rfl, eG.trans (eH6.trans e7), ?_⟩
        rw [List.foldl_append, hla]
        exact pv
    · rintro σ' H' tx ⟨vl, o6, o7, o8, rfl, eH, il⟩
      exact s_retP (P := vI (.bool true)) ec_b fun v H5 e p => k v H5 ((e123.trans eH).trans e) p
/-! ### need_lots -/
abbrev sp_need_lots : Sp := spP (fun x : NetD × PapD => x.1.Ok ∧ PapOk x.1 x.2) (fun x => a3 (vNet c x.1) (vPap c x.2) (vI (.str "paper"))) fun _ => vI .none
theorem c_need_lots (T : Txt K mg c) : Cal P w K mg base 6 "need_lots" (sp_need_lots (c := c)) [] := by
  have c_are_right := c_are_right (P := P) (w := w) (base := base) T
  refine mkCal T.d_need_lots sc_need_lots (fun _ _ _ _ _ _ us hl => match us, hl with | [_, _, _], _ => rfl) (fun vs H Q E h => ?_) (fun f cdv A outer s H vs Q E hr h => ?_)
  · obtain ⟨x, hx, a, _⟩ := h
    obtain ⟨v0, v1, v2, rfl, _⟩ := a3o a
    rfl
  · obtain ⟨x, hx, a, k⟩ := h
    obtain ⟨v0, v1, v2, rfl, p0, p1, p2⟩ := a3o a
    have hu := hu_of hr
    refine ⟨_, pss_one (ps_if ((pw_or (pt_not (pt_val (pe_callB (id := "isinstance") (cr_isiK K) (by rfl) T.b_isinstance (by decide +kernel) (pa_cons (pv 1) (pa_cons (pe_glob (v := .ref c.lots) (by rfl) T.g_Lots (by rfl)) (pa_nil)))))) (pw_or1 (pt_not (pt_val (pe_c c_are_right hr (by decide) (by rfl) (pa_cons (pv 0) (pa_cons (pv 1) (pa_nil)))))))).pt) (pss_one (ps_never)) (pss_nil)), ?_⟩
    exact s_ifF (et_isb (et_or (a := false) (b := false) (et_not (a := true) (et_v (e_isiC (ep_var rfl (mO _ _) p1) (mO _ _) fun v H1 p => ⟨_, ty_o T.i_Lots T.cl_Lots p, T.k_lots⟩))) fun _ => et_not (a := true) (et_v (ep_callP x hx (ea1 (mO _ _) (ep_var rfl (mO _ _) p0) (ea_1 (mO _ _) (ep_var rfl (mO _ _) p1)))))) rfl) fun H1 e1 => k _ _ e1 .non
end
end Lk
end

section
set_option Elab.async false
set_option linter.all false
set_option maxRecDepth 100000
set_option maxHeartbeats 4000000
namespace Lk
open PySem PySem.Spec PyProof.Rows L2 Evl PySem.W C8
local macro_rules | `(tactic| walk_at "ex") => `(tactic| first | exact Ex.refl _ | assumption | (refine Ex.trans (H1 := ?g) ?a ?b; (case a => assumption); (case b => walk_at "ex")))
local macro_rules | `(tactic| walk_at "im") => `(tactic| first | assumption | exact Im.int _ | exact Im.bl _ | (refine Im.up (H := ?g) ?a ?b; (case a => assumption); (case b => walk_at "ex")))
local macro_rules | `(tactic| walk_at "ev") => `(tactic| first
  | exact ec_i | exact ec_b | exact ec_s | exact ec_n
  | (refine ei_var rfl ?_; walk_at "im")
  | (refine eo ?_ ?_ <;> walk_at "ev")
  | (refine eoB ?_ ?_ <;> walk_at "ev")
  | (refine e_eqI ?_ ?_ <;> walk_at "ev")
  | (refine e_neI ?_ ?_ <;> walk_at "ev")
  | (refine eu ?_ <;> walk_at "ev")
  | (refine e_not ?_ <;> walk_at "ev"))

section
variable {P : Program} {w : World} {K : PySem.W.Frag} {mg : Str → Option Value} {base : Heap} {c : Cs}
mutual
theorem Dm.im {H : Hp} : ∀ (k : Nat) {v : V} {d : PyData}, OkD k d → Im H v d → Dm H v d
  | 0, v, d, o, h => by
    obtain ⟨i, rfl⟩ := o
    cases Im.isInt h
    exact .int i
  | k + 1, v, d, o, h => by
    rcases o with ⟨i, rfl⟩ | ⟨ds, rfl | rfl, _, o⟩
    · cases Im.isInt h
      exact .int i
    · cases h
    · obtain ⟨a, xs, rfl, t, im⟩ := Im.isTup h
      exact .tup (.inr t) (DmAll.im k o im)
theorem DmAll.im {H : Hp} : ∀ (k : Nat) {vs : List V} {ds : List PyData}, (∀ e ∈ ds, OkD k e) → ImAll H vs ds → DmAll H vs ds
  | _, _, _, _, .nil => .nil
  | k, _, _, o, .cons h r => .cons (Dm.im k (o _ List.mem_cons_self) h) (DmAll.im k (fun e m => o e (List.mem_cons_of_mem _ m)) r)
end
theorem okD_dN (k n : Nat) : OkD k (dN n) := by
  cases k with
  | zero => exact ⟨_, rfl⟩
  | succ k => exact .inl ⟨_, rfl⟩
theorem okD_tupN {k : Nat} {ts : List Nat} (h : ts.length ≤ 1000) : OkD (k + 1) (tupN ts) := .inr ⟨_, .inr rfl, by rw [List.length_map]; exact h, fun e m => by
  obtain ⟨t, _, rfl⟩ := List.mem_map.mp m
  exact okD_dN k t⟩
theorem okD_rowD {k : Nat} {r : Nat × List Nat} (h : r.2.length ≤ 1000) : OkD (k + 2) (rowD r) := .inr ⟨_, .inr rfl, by show 2 ≤ 1000; omega, fun e m => by
  rcases List.mem_cons.mp m with rfl | m
  · exact okD_dN _ _
  · rw [List.mem_singleton] at m
    rw [m]
    exact okD_tupN h⟩
theorem okD_list {k : Nat} {ds : List PyData} (h : ds.length ≤ 1000) (h2 : ∀ d ∈ ds, OkD k d) : OkD (k + 1) (.list ds) := .inr ⟨_, .inl rfl, h, h2⟩
theorem vM_vL {k : Nat} {ds : List PyData} {v : V} {H : Hp} (o : ∀ d ∈ ds, OkD k d) (h : vL ds v H) : vM (.list ds) v H := by
  obtain ⟨p, xs, rfl, h, i⟩ := h
  exact .lst h (DmAll.im k o i)
theorem fixD_dN (n : Nat) : fixD (dN n) = dN n := by simp [fixD]
theorem fixD_tupN (ts : List Nat) : fixD (tupN ts) = tupN ts := by
  unfold tupN
  rw [fixD, fixDs_map, List.map_map]
  congr 1
theorem fixD_rowD (r : Nat × List Nat) : fixD (rowD r) = rowD r := by
  unfold rowD
  rw [fixD, fixDs_map]
  show PyData.tuple [fixD (dN r.1), fixD (tupN r.2)] = _
  rw [fixD_dN, fixD_tupN]
theorem fixD_listT (ls : List (List Nat)) : fixD (.list (ls.map tupN)) = .tuple (ls.map tupN) := by
  rw [fixD, fixDs_map, List.map_map]
  congr 1
  exact List.map_congr_left fun t _ => fixD_tupN t
theorem fixD_listR (rs : List (Nat × List Nat)) : fixD (.list (rs.map rowD)) = .tuple (rs.map rowD) := by
  rw [fixD, fixDs_map, List.map_map]
  congr 1
  exact List.map_congr_left fun t _ => fixD_rowD t
def lotsL (x : NetD) : List (Nat × List Nat) := (isort ((laysN x).2.1.map (·.1))).map fun t => (t, thingsN ((getA (laysN x).2.1 t).getD 0))
def papL (x : NetD) : PapD := ⟨(laysN x).1, lotsL x⟩
def leftL (x : NetD) : List Nat := (laysN x).2.2
def doneL (x : NetD) : List Nat := (List.range x.n).filter fun t => !decide (t ∈ leftL x)
def showsL (x : NetD) : List (Nat × List Nat) := showN (masksN x.n x.ss) (leftL x) (doneL x) (leftL x)
/-- what lots_of needs of the drawn net; it is shown by counting -/
structure LOk (x : NetD) : Prop where
  ll : (laysN x).1.length ≤ 100 ∧ ∀ l ∈ (laysN x).1, l.length ≤ 100
  lz : (laysN x).2.1.length < 64
  lm : ∀ p ∈ (laysN x).2.1, p.2 < 2 ^ 40
  lt : ∀ r ∈ lotsL x, r.2.length ≤ 100
  fl : ∀ t ∈ leftL x, t < x.n
  fz : (leftL x).length ≤ 100
  sh : leftL x ≠ [] → ShowOk (masksN x.n x.ss) (leftL x) (doneL x) (leftL x)
  sl : ∀ r ∈ showsL x, r.2.length ≤ 100
abbrev resL (c : Cs) (x : NetD) : VP := fun v H => if leftL x = [] then vPap c (papL x) v H else vO c.stuck (stuckF (.list ((leftL x).map dN), .list ((showsL x).map rowD))) v H
/-! ### lots_of -/
abbrev sp_lots_of : Sp := spP (fun x : NetD => x.Ok ∧ LOk x) (fun x => a1 (vNet c x)) fun x => resL c x
theorem c_lots_of (T : Txt K mg c) : Cal c.prog w K mg base 16 "lots_of" (sp_lots_of (c := c)) [] := by
  have c_Lots := c_Lots (w := w) (base := base) T
  have c_Stuck := c_Stuck (w := w) (base := base) T
  have c_free_of := c_free_of (P := c.prog) (w := w) (base := base) T
  have c_layers_in := c_layers_in (P := c.prog) (w := w) (base := base) T
  have c_masks_of := c_masks_of (P := c.prog) (w := w) (base := base) T
  have c_need_net := c_need_net (P := c.prog) (w := w) (base := base) T
  have c_need_net1 := c_need_net1 (P := c.prog) (w := w) (base := base) T
  have c_showing := c_showing (P := c.prog) (w := w) (base := base) T
  have c_things_of := c_things_of (P := c.prog) (w := w) (base := base) T
  refine mkCal T.d_lots_of sc_lots_of (fun _ _ _ _ _ _ us hl => match us, hl with | [_], _ => rfl) (fun vs H Q E h => ?_) (fun f cdv A outer s H vs Q E hr h => ?_)
  · obtain ⟨x, hx, a, _⟩ := h
    obtain ⟨v0, rfl, _⟩ := a1o a
    rfl
  · obtain ⟨x, hx, a, k⟩ := h
    obtain ⟨v0, rfl, p0⟩ := a1o a
    have hu := hu_of hr
    refine ⟨_, pss_cons (ps_expr (pe_c c_need_net1 hr (by decide) (by rfl) (pa_cons (pv 0) (pa_nil))))
      (pss_cons (ps_asg (pe_c c_layers_in hr (by decide) (by rfl) (pa_cons (pv 0) (pa_nil))) (pg_tupK K (n := 3) rfl (pgs_cons (pg_name (i := 1) sc_lots_of.nd rfl (Or.inl rfl)) (pgs_cons (pg_name (i := 2) sc_lots_of.nd rfl (Or.inr rfl)) (pgs_cons (pg_name (i := 3) sc_lots_of.nd rfl (Or.inr rfl)) (pgs_nil))))))
      (pss_cons (ps_if (pt_cmpR (op_eqDK K hr.units) (pv 3) (pe_lst (pa_nil)) (nomark _)) (pss_one (ps_ret (pe_mkR c_Lots hr (by decide) (by rfl) (pa_cons (pv 1) (pa_cons (pe_lc (own := [("thing", 5)]) rfl sc_lots_of.nd (pi_seqK K (pe_callB (id := "sorted") (cr_sortDI rfl) (by rfl) T.b_sorted (by decide +kernel) (pa_cons (pv 2) (pa_nil)))) (blkOk_by (N := N_lots_of) (sc := defScope s_lots_of) (own := [("thing", 5)]) (by decide +kernel)) (fun _ _ _ _ _ => pg_name (i := 5) sc_lots_of.nd rfl (Or.inl rfl)) (fun _ _ _ _ _ => pts_nil) (fun _ _ _ _ _ => pe_tupZ (pa_cons (pv 5) (pa_cons (pe_c c_things_of hr (by decide) (by rfl) (pa_cons (pe_dget hu (pv 2) (pv 5) (fun _ _ => rfl)) (pa_nil))) (pa_nil))))) (pa_nil)))))) (pss_nil))
      (pss_cons (ps_set (i := 4) sc_lots_of.nd rfl (Or.inl rfl) (pe_c c_free_of hr (by decide) (by rfl) (pa_cons (pv 0) (pa_cons (pe_lc (own := [("thing", 5)]) rfl sc_lots_of.nd (pi_range1 (by rfl) T.b_range (pa_cons (pe_fldK K (pv 0)) (pa_nil))) (blkOk_by (N := N_lots_of) (sc := defScope s_lots_of) (own := [("thing", 5)]) (by decide +kernel)) (fun _ _ _ _ _ => pg_name (i := 5) sc_lots_of.nd rfl (Or.inl rfl)) (fun _ _ _ _ _ => pts_one (pt_cmpR (op_notInK K) (pv 5) (pv 3) (by rfl))) (fun _ _ _ _ _ => pv 5)) (pa_nil)))))
      (pss_one (ps_ret (pe_mkR c_Stuck hr (by decide) (by rfl) (pa_cons (pv 3) (pa_cons (pe_c c_showing hr (by decide) (by rfl) (pa_cons (pe_c c_masks_of hr (by decide) (by rfl) (pa_cons (pv 0) (pa_nil))) (pa_cons (pv 3) (pa_cons (pv 4) (pa_cons (pv 3) (pa_nil)))))) (pa_nil))))))))), ?_⟩
    obtain ⟨ok, lo⟩ := hx
    obtain ⟨mok, mlen⟩ := masksN_ok ok
    have n4 := ok.n4
    have net : ∀ {H'}, Ex H H' → vNet c x v0 H' := fun e => mO _ _ _ _ _ e p0
    refine q_drop (P := vI .none) (ep_callD x (ea_1 (mO _ _) (ep_var rfl (mO _ _) p0)) fun vs H1 e a => ?_) fun _ H1 e1 _ => ?_
    · obtain ⟨u, rfl, q⟩ := a1o a
      exact ⟨u, _, rfl, q, _, _, rfl, .str _, rfl⟩
    refine q_unp3 (ep_callP x ok (ea_1 (mO _ _) (ep_var rfl (mO _ _) (net e1)))) fun vy vt vl H2 e2 py pt pl => ?_
    have e12 := e1.trans e2
    have kl : (encA dN (laysN x).2.1).map (·.1) = (laysN x).2.1.map (·.1) := by unfold encA; rw [List.map_map]; rfl
    refine Evl.q_when (et_t (e_eqLN (ns := leftL x) (ms := []) (ep_var rfl (mL _) pl) (EvP.imp ep_nilF fun v H1 _ p => vF_L p))) (fun hb H3 e3 => ?_) fun hb H3 e3 => ?_
    · have hb := of_decide_eq_true hb
      have q := e_sortDI (σ := [some v0, some vy, some vt, some vl, none, none]) (ep_var (k := 2) rfl (mD _) (mD _ _ _ _ e3 pt)) (by unfold encA; rw [List.length_map]; exact lo.lz)
      rw [kl] at q
      have o1 : ∀ d ∈ (laysN x).1.map tupN, OkD 6 d := fun d m => by
        obtain ⟨l, hl, rfl⟩ := List.mem_map.mp m
        exact okD_tupN (by have := lo.ll.2 l hl; omega)
      have o2 : ∀ d ∈ (lotsL x).map rowD, OkD 6 d := fun d m => by
        obtain ⟨l, hl, rfl⟩ := List.mem_map.mp m
        exact okD_rowD (by have := lo.lt l hl; omega)
      have lz : (isort ((laysN x).2.1.map (·.1))).length = (laysN x).2.1.length := by rw [(isort_perm _).length_eq, List.length_map]
      have lz2 := lo.lz
      refine s_retP (P := vPap c (papL x)) (EvP.imp (ep_mkR (PyData.list ((laysN x).1.map tupN), PyData.list ((lotsL x).map rowD)) ⟨okD_list (by rw [List.length_map]; have := lo.ll.1; omega) o1, okD_list (by rw [List.length_map]; unfold lotsL; rw [List.length_map]; omega) o2⟩ (ea1 (mM _) (EvP.imp (ep_var rfl (mL _) (mL _ _ _ _ e3 py)) fun v H4 _ p => vM_vL o1 p) (ea_1 (mM _) (EvP.imp (EvP.isL (lc_N1 (enc := dN) (fun t => rowD (t, thingsN ((getA (laysN x).2.1 t).getD 0))) (src_S (vSL q)) (by omega) (fun _ => rfl) fun t y H4 m e i => ?_) (by unfold lotsL; rw [List.map_map]; rfl)) fun v H4 _ p => vM_vL o2 p))) fun vs G G' e a => ?_) fun v H4 _ p => ?_) fun v H4 e p => k v H4 ((e12.trans e3).trans e) ?_
      · obtain ⟨b, hb⟩ := getA_key ((isort_perm _).mem_iff.mp m)
        rw [hb]
        exact ep_tup (ea_cons (ei_var rfl i) (ea_cons (ep_callP b (lo.lm _ (getA_mem hb)) (ea_1 (mI _) (e_dget (ep_var rfl (mD _) (mD _ _ _ _ (e3.trans e) pt)) (ei_var rfl i) (by rw [getA_enc, hb]; rfl)))) ea_nil)) (by show 2 ≤ 100000; omega)
      · obtain ⟨z, b, rfl, h1, h2⟩ := a2o a
        exact ⟨z, _, rfl, h1.up e, b, _, rfl, h2.up e, rfl⟩
      · have p : vO c.lots (lotsF (.list ((laysN x).1.map tupN), .list ((lotsL x).map rowD))) v H4 := p
        unfold lotsF at p
        dsimp only at p
        rw [fixD_listT, fixD_listR] at p
        exact p
      · show if leftL x = [] then _ else _
        rw [if_pos hb]
        exact p
    · have hb := of_decide_eq_false hb
      have fz := lo.fz
      have dl : (doneL x).length ≤ 4 := by
        have := List.length_filter_le (fun t => !decide (t ∈ leftL x)) (List.range x.n)
        rw [List.length_range] at this
        unfold doneL
        omega
      refine q_set (P := vL ((doneL x).map dN)) (ep_callP (x, doneL x) (by show (doneL x).length ≤ 50000; omega) (ea1 (mO _ _) (ep_var rfl (mO _ _) (net (e12.trans e3))) (ea_1 (mS _) (vSL (lc_N (enc := dN) (fun t => !decide (t ∈ leftL x)) dN (src_rng (src_R1 (ea_1 (mI _) (n_things T (ep_var rfl (mO _ _) (net (e12.trans e3))))) (by omega))) (by rw [List.length_range]; omega) (fun _ => rfl) (fun t y H4 m e i => et_t (e_ninN (ei_var rfl i) (ep_var rfl (mS _) (vS_L (mL _ _ _ _ (e3.trans e) pl))))) fun t y H4 m ht e i => ei_var rfl i))))) fun vd H4 e4 pd => ?_
      have e34 := e3.trans e4
      have o1 : ∀ d ∈ (leftL x).map dN, OkD 6 d := fun d m => by
        obtain ⟨l, hl, rfl⟩ := List.mem_map.mp m
        exact okD_dN _ _
      have o2 : ∀ d ∈ (showsL x).map rowD, OkD 6 d := fun d m => by
        obtain ⟨l, hl, rfl⟩ := List.mem_map.mp m
        exact okD_rowD (by have := lo.sl l hl; omega)
      refine s_retP (P := vO c.stuck (stuckF (.list ((leftL x).map dN), .list ((showsL x).map rowD)))) (ep_mkR (PyData.list ((leftL x).map dN), PyData.list ((showsL x).map rowD)) ⟨okD_list (by rw [List.length_map]; omega) o1, okD_list (by rw [List.length_map]; unfold showsL showN; rw [List.length_map]; omega) o2⟩ (ea1 (mM _) (EvP.imp (ep_var rfl (mL _) (mL _ _ _ _ e34 pl)) fun v H4 _ p => vM_vL o1 p) (ea_1 (mM _) (EvP.imp (ep_callP (masksN x.n x.ss, leftL x, doneL x, leftL x) ⟨mok, fun t m => by rw [mlen]; exact lo.fl t m, fun t m => by rw [mlen]; exact List.mem_range.mp (List.mem_filter.mp m).1, fz, by show (doneL x).length ≤ 100; omega, fz, lo.sh hb⟩ (ea1 (mL _) (ep_callP x ok (ea_1 (mO _ _) (ep_var rfl (mO _ _) (net (e12.trans e34))))) (ea1 (mL _) (ep_var rfl (mL _) (mL _ _ _ _ e34 pl)) (ea1 (mL _) (ep_var rfl (mL _) pd) (ea_1 (mL _) (ep_var rfl (mL _) (mL _ _ _ _ e34 pl))))))) fun v H4 _ p => vM_vL o2 p))) fun vs G G' e a => ?_) fun v H4 e p => k v H4 ((e12.trans e34).trans e) ?_
      · obtain ⟨z, b, rfl, h1, h2⟩ := a2o a
        exact ⟨z, _, rfl, h1.up e, b, _, rfl, h2.up e, rfl⟩
      · show if leftL x = [] then _ else _
        rw [if_neg hb]
        exact p
end
end Lk
end

section
set_option Elab.async false
set_option linter.all false
set_option maxRecDepth 100000
set_option maxHeartbeats 4000000
namespace Lk
open PySem PySem.Spec PyProof.Rows L2 Evl PySem.W C8
local macro_rules | `(tactic| walk_at "ex") => `(tactic| first | exact Ex.refl _ | assumption | (refine Ex.trans (H1 := ?g) ?a ?b; (case a => assumption); (case b => walk_at "ex")))
local macro_rules | `(tactic| walk_at "im") => `(tactic| first | assumption | exact Im.int _ | exact Im.bl _ | (refine Im.up (H := ?g) ?a ?b; (case a => assumption); (case b => walk_at "ex")))
local macro_rules | `(tactic| walk_at "ev") => `(tactic| first
  | exact ec_i | exact ec_b | exact ec_s | exact ec_n
  | (refine ei_var rfl ?_; walk_at "im")
  | (refine eo ?_ ?_ <;> walk_at "ev")
  | (refine eoB ?_ ?_ <;> walk_at "ev")
  | (refine e_eqI ?_ ?_ <;> walk_at "ev")
  | (refine e_neI ?_ ?_ <;> walk_at "ev")
  | (refine eu ?_ <;> walk_at "ev")
  | (refine e_not ?_ <;> walk_at "ev"))
/-! {**a, **b}. -/
section
variable {prog : Program} {w : World} {A : Around} {E : Value → Shared → Prop} {s : Shared}
/-- an entry is put, its hash being known -/
theorem put_ok {d : Addr} {kvs : List (Key × Value)} {k : Key} {key v : Value} {Q : Unit → Shared → Prop} (hk0 : (mixKind prog w).is k key = true) (hm : s.heap.DictOf (mixKind prog w) d kvs) (hz : kvs.length ≤ sizeLine)
    (hq : ∀ h', h'.DictOf (mixKind prog w) d (stored kvs k v) → Heap.SameBut d s.heap h' → Q () { s with heap := h' }) : wpAny (model prog w) A (dictPut d ((mixKind prog w).hash k) key v) Q E s := by
  obtain ⟨o, es, ep, ho, hc, hdat, hks, hpr, hnd⟩ := hm
  have esz : es.size ≤ sizeLine := by
    have e1 := hpr.length
    have e2 : es.toList.length = es.size := Array.length_toList
    omega
  have at_ : (es.findIdx? fun e => (mixKind prog w).is k e.key) = kvs.findIdx? fun kv => decide (kv.1 = k) := by
    rw [← hpr.findIdx k]
    obtain ⟨l⟩ := es
    simp
  unfold dictPut
  refine wpAny_bind (wpAny_dictFind_of hk0 ho hdat hks ?_)
  cases z : es.findIdx? fun e => (mixKind prog w).is k e.key with
  | some i =>
    refine wpAny_updateDict ho hdat (hq _ ⟨_, _, ep, Heap.get?_update_self _ ho (Obj.isFreed_of_dict (Obj.data_mapDict hdat _)), hc.mapDict _, Obj.data_mapDict hdat _, hks.modify _ _, ?_, ?_⟩ (Heap.SameBut.update ..))
    · rw [stored, if_pos (any_of_findIdx_some (at_ ▸ z))]
      have l0 : (es.toList.findIdx? fun e => (mixKind prog w).is k e.key) = some i := by
        rw [← z]
        obtain ⟨l⟩ := es
        simp
      have r := hpr.modify hnd l0 v
      obtain ⟨l⟩ := es
      simpa using r
    · rw [stored, if_pos (any_of_findIdx_some (at_ ▸ z)), keys_map_store]
      exact hnd
  | none =>
    have out : k ∉ kvs.map (·.1) := not_mem_of_findIdx_none (at_ ▸ z)
    have none_ : ¬ (kvs.any fun kv => decide (kv.1 = k)) = true := by
      rw [List.any_eq_true]
      rintro ⟨kv, hkv, he⟩
      exact out (List.mem_map.mpr ⟨kv, hkv, of_decide_eq_true he⟩)
    refine wpAny_updateDictKeys (hz := esz) ho hdat (hq _ ⟨_, _, ep + 1, Heap.get?_update_self _ ho (Obj.isFreed_of_dict (Obj.data_mapDictKeys hdat _)), hc.mapDictKeys _, Obj.data_mapDictKeys hdat _, hks.push hk0 _, ?_, ?_⟩ (Heap.SameBut.update ..))
    · rw [stored, if_neg none_]
      have r := hpr.append hk0 ((mixKind prog w).hash k) v
      obtain ⟨l⟩ := es
      simpa using r
    · rw [stored, if_neg none_, List.map_append, List.nodup_append]
      refine ⟨hnd, by simp, fun a ha b hb e => ?_⟩
      simp only [List.map_cons, List.map_nil, List.mem_singleton] at hb
      subst hb
      exact out (e ▸ ha)
theorem key_plain {k : Key} {v : Value} (h : (mixKind prog w).is k v = true) : ∀ a, v ≠ .ref a := fun a e => by
  rcases keyIs_shape h with ⟨i, t, _, rfl⟩ | ⟨x, t, _, rfl⟩ <;> cases e
theorem merge_ok {d o : Addr} {kvs more : List (Key × Value)} {Q : Unit → Shared → Prop} (n : d ≠ o) (sm : (o == sysModules) = false) (hd : s.heap.DictOf (mixKind prog w) d kvs) (ho : s.heap.DictOf (mixKind prog w) o more) (hz : kvs.length + more.length ≤ sizeLine)
    (hq : ∀ h', h'.DictOf (mixKind prog w) d (merged kvs more) → h'.DictOf (mixKind prog w) o more → Heap.SameBut d s.heap h' → Q () { s with heap := h' }) : wpAny (model prog w) A (mergeMapping d (.ref o) false) Q E s := by
  obtain ⟨od, esd, epd, hod, hcd, hdd, hkd, hpd, hnd⟩ := id hd
  obtain ⟨oo, eso, epo, hoo, hco, hdo, hko, hpo, hno⟩ := id ho
  have len : more.length = eso.size := by rw [← hpo.length]; simp
  unfold mergeMapping
  refine wpAny_bind (wpAny_isInstance ho.typeIs isSubtype_dict_dict ?_)
  rw [if_pos rfl]
  refine wpAny_bind (wpAny_specialOf ho.typeIs PySem.F.slot_dict_iter.lookup ?_)
  refine wpAny_bind (wpAny_pure ?_)
  simp only [beq_self_eq_true, sm, Bool.false_eq_true, if_false]
  have tail : wpAny (model prog w) A (do
      let l ← dictEntries o
      let epoch ← dictEpoch o
      forIn (List.range l.size) PUnit.unit fun i (_ : PUnit) => (do
          let l' ← dictEntries o
          match l'[i]? with
            | some e => do
              holding [e.key, e.val] (dictPut d e.hash e.key e.val)
              let ep' ← dictEpoch o
              if (ep' != epoch) = true then do
                  (unsupported "dict.changed-during-merge" : Sem PUnit)
                  pure (ForInStep.yield PUnit.unit)
                else pure (ForInStep.yield PUnit.unit)
            | _ => do
              (unsupported "dict.changed-during-merge" : Sem PUnit)
              pure (ForInStep.yield PUnit.unit) : Sem (ForInStep PUnit))
      pure ()) Q E s := by
    refine wpAny_bind (wpAny_dictEntries hoo hdo ?_)
    refine wpAny_bind (wpAny_dictEpoch hoo hdo ?_)
    refine wpAny_bind ?_
    rw [List.range_eq_range']
    refine wpAny_forIn_list _ (fun rest _ s' => ∃ h' i, s' = { s with heap := h' } ∧ rest = List.range' i (eso.size - i) ∧ i ≤ eso.size ∧ h'.DictOf (mixKind prog w) d (merged kvs (more.take i)) ∧ h'.get? o = some oo ∧ Heap.SameBut d s.heap h') _ ?_ ?_ _ _ ⟨s.heap, 0, rfl, by rw [Nat.sub_zero], Nat.zero_le _, by rw [List.take_zero]; exact hd, hoo, Heap.SameBut.refl _ _⟩
    · rintro x rest b s' ⟨h', i, rfl, hr, hi, hd', hoo', hs'⟩
      have lt : i < eso.size := by
        rcases Nat.lt_or_ge i eso.size with h | h
        · exact h
        · rw [Nat.sub_eq_zero_of_le h, List.range'_zero] at hr
          cases hr
      have e1 : eso.size - i = (eso.size - (i + 1)) + 1 := by omega
      rw [e1, List.range'_succ] at hr
      injection hr with hx hrest
      subst hx
      refine wpAny_bind (wpAny_dictEntries hoo' hdo ?_)
      rw [Array.getElem?_eq_getElem lt]
      obtain ⟨kv, hkv⟩ : ∃ kv, more[x]? = some kv := ⟨more[x]'(by rw [len]; exact lt), List.getElem?_eq_getElem _⟩
      obtain ⟨k, v⟩ := kv
      obtain ⟨hkey, hval⟩ := hpo.get? (e := eso[x]) (by rw [Array.getElem?_toList, Array.getElem?_eq_getElem lt]) hkv
      obtain ⟨k2, hkey2, hhash⟩ := hko eso[x] (Array.getElem_mem lt)
      obtain rfl : k2 = k := (mixKind prog w).inj _ _ _ hkey2 hkey
      show wpAny _ _ (holding [eso[x].key, eso[x].val] (dictPut d eso[x].hash eso[x].key eso[x].val) >>= _) _ _ _
      rw [hhash, hval]
      have big : (merged kvs (more.take x)).length ≤ sizeLine := by
        have z1 := merged_length_le kvs (more.take x)
        have z2 : (more.take x).length ≤ more.length := by rw [List.length_take]; exact Nat.min_le_right _ _
        omega
      refine wpAny_bind (wpAny_holding (put_ok hkey hd' big fun h2 hd2 hs2 => ?_))
      have hoo2 : h2.get? o = some oo := (hs2.2 o (Ne.symm n)).trans hoo'
      refine wpAny_bind (wpAny_dictEpoch hoo2 hdo ?_)
      rw [if_neg (by simp)]
      exact wpAny_pure ⟨h2, x + 1, rfl, hrest, lt, by rw [merged_take_succ kvs more x (k2, v) hkv]; exact hd2, hoo2, hs'.trans hs2⟩
    · rintro b s' ⟨h', i, rfl, hr, hi, hd', hoo', hs'⟩
      have fin : i = eso.size := by
        rcases Nat.lt_or_ge i eso.size with h | h
        · have e1 : eso.size - i = (eso.size - (i + 1)) + 1 := by omega
          rw [e1, List.range'_succ] at hr
          cases hr
        · omega
      refine wpAny_pure (hq h' ?_ ⟨oo, eso, epo, hoo', hco, hdo, hko, hpo, hno⟩ hs')
      rw [fin, ← len, List.take_length] at hd'
      exact hd'
  refine wpAny_bind (wpAny_dictEntries hod hdd ?_)
  split
  · refine wpAny_bind (wpAny_dictEntries hoo hdo ?_)
    refine wpAny_bind (wpAny_of_eq (a := PUnit.unit) ?_ tail)
    rw [← Array.forIn_toList]
    refine forIn_yield_id _ fun e he c => ?_
    obtain ⟨k, hkey, _⟩ := hko e (Array.mem_toList_iff.mp he)
    have pl := key_plain hkey
    split
    · rename_i a h
      exact absurd h (pl a)
    · rfl
  · exact tail
theorem stars_ok {m1 m2 : Sem Value} {Q : Value → Shared → Prop} (h : wpAny (model prog w) A m1 (fun v s1 => wpAny (model prog w) A (mergeMapping s.heap.objs.size v false) (fun _ s2 => wpAny (model prog w) A m2 (fun v2 s3 => wpAny (model prog w) A (mergeMapping s.heap.objs.size v2 false) (fun _ s4 => Q (.ref s.heap.objs.size) s4) (fun _ _ => False) s3) E s2) (fun _ _ => False) s1) E { s with heap := s.heap.push { cls := .type "dict", data := .dict #[] } }) :
    wpAny (model prog w) A (dictDisplay [(none, m1), (none, m2)]) Q E s := by
  unfold dictDisplay
  simp only [List.forIn_cons, List.forIn_nil, List.isEmpty_nil, if_true]
  refine wpAny_bind (wpAny_bind (wpAny_bind (wpAny_pure ?_)))
  dsimp only
  refine wpAny_bind (wpAny_alloc (wpAny_bind (wpAny_holding (wpAny_mono h (fun v s1 h1 => ?_) fun _ _ e => e))))
  refine wpAny_bind (wpAny_onRaise (wpAny_tryCatch (wpAny_onRaise (wpAny_holding (wpAny_mono h1 (fun _ s2 h2 => wpAny_pure ?_) fun _ _ f => f.elim)))))
  dsimp only
  refine wpAny_bind (wpAny_bind (wpAny_pure ?_))
  dsimp only
  refine wpAny_bind (wpAny_pure ?_)
  refine wpAny_bind (wpAny_holding (wpAny_mono h2 (fun v s3 h3 => ?_) fun _ _ e => e))
  refine wpAny_bind (wpAny_onRaise (wpAny_tryCatch (wpAny_onRaise (wpAny_holding (wpAny_mono h3 (fun _ s4 h4 => wpAny_pure ?_) fun _ _ f => f.elim)))))
  dsimp only
  refine wpAny_pure ?_
  dsimp only
  exact wpAny_bind (wpAny_pure (wpAny_pure h4))
end
def tDs2 (ta tb : TE) : TE := fun σ H Q => ∀ d, H d = none → ta σ (upd H d (.dK [])) fun x H1 => ∃ b more, x = .ref b ∧ b ≠ d ∧ H1 d = some (.dK []) ∧ H1 b = some (.dK more) ∧ more.length ≤ 1000 ∧
  tb σ (upd H1 d (.dK (mergeK [] more))) fun y H2 => ∃ b2 more2, y = .ref b2 ∧ b2 ≠ d ∧ H2 d = some (.dK (mergeK [] more)) ∧ H2 b2 = some (.dK more2) ∧ more2.length ≤ 1000 ∧ Q (.ref d) (upd H2 d (.dK (mergeK (mergeK [] more) more2)))
theorem pe_dstar2 {X : Cx} {a b : Expr} {pos : Pos} {ta tb : TE} (ha : PE X a ta) (hb : PE X b tb) : PE X (.Dict [none, none] [a, b] pos) (tDs2 ta tb) := by
  refine ⟨fun pins s σ H Q I h => ?_⟩
  rw [arm_eval_Dict]
  refine wpAny_bind (wpAny_standAt ?_)
  have I1 : Inv X pins σ (upd H s.heap.objs.size (.dK [])) { s with heap := s.heap.push { cls := .type "dict", data := .dict #[] } } := I.laid (a := s.heap.objs.size) (o := .dK []) (t' := s.toks) (fun _ _ q => Heap.get?_push_of_some _ q) (Nat.le_refl _) (dk_empty s.heap I.big)
  show wpAny _ X.A (dictDisplay [(none, do let x ← eval a X.env; standAt pos; pure x), (none, do let x ← eval b X.env; standAt pos; pure x)]) _ _ _
  have sl : (1000 : Nat) + 1000 ≤ sizeLine := by rw [sizeLine_eq]; decide
  refine stars_ok ?_
  refine wpAny_bind (thn (ha.run pins _ σ _ _ I1 (h _ (I.hok.fresh (Nat.le_refl _)))) fun v s1 ⟨x, H1, I2, rx, b1, more, ex, nb, hd, hb1, z, q⟩ => wpAny_bind (wpAny_standAt (wpAny_pure ?_)))
  subst ex
  obtain rfl : v = Value.ref b1 := rx
  obtain ⟨_, sd, vs, rel, dd⟩ := dk_of I2.hok hd
  obtain ⟨_, sb, vs2, rel2, dd2⟩ := dk_of I2.hok hb1
  have l1 : vs.length = 0 := (rel.length).symm
  have l2 := rel2.length
  refine merge_ok (Ne.symm nb) sb dd dd2 (by omega) fun h' d1 d2 hs => ?_
  have he : ∃ q, h'.get? s.heap.objs.size = some q := let ⟨q, _, _, hq, _⟩ := d1; ⟨q, hq⟩
  have lm : (mergeK ([] : List (Key × V)) more).length ≤ 1000 := by
    have := length_mergeK more ([] : List (Key × V))
    rw [List.length_nil] at this
    omega
  have I3 : Inv X pins σ (upd H1 s.heap.objs.size (.dK (mergeK [] more))) { s1 with heap := h' } := d_write (t' := s1.toks) I2 (by rw [hd]; exact True.intro) hs he (dk_new (by omega) sd (KV.merge rel2 rel) d1)
  refine wpAny_bind (thn (hb.run pins _ σ _ _ I3 q) fun v s3 ⟨y, H3, I4, ry, b2, more2, ey, nb2, hd2, hb2, z2, q2⟩ => wpAny_bind (wpAny_standAt (wpAny_pure ?_)))
  subst ey
  obtain rfl : v = Value.ref b2 := ry
  obtain ⟨_, _, vs3, rel3, dd3⟩ := dk_of I4.hok hd2
  obtain ⟨_, sb4, vs4, rel4, dd4⟩ := dk_of I4.hok hb2
  have l3 := rel3.length
  have l4 := rel4.length
  refine merge_ok (Ne.symm nb2) sb4 dd3 dd4 (by omega) fun h4 d3 d4 hs2 => ?_
  have he2 : ∃ q, h4.get? s.heap.objs.size = some q := let ⟨q, _, _, hq, _⟩ := d3; ⟨q, hq⟩
  have lm2 := length_mergeK more2 (mergeK ([] : List (Key × V)) more)
  exact ⟨.ref s.heap.objs.size, _, d_write (t' := s3.toks) I4 (by rw [hd2]; exact True.intro) hs2 he2 (dk_new (by omega) sd (KV.merge rel4 rel3) d3), rfl, q2⟩
section
variable {σ : L2.St} {H : Hp} {ta tb tv : TE} {vs : List Nat} {j : Nat}
theorem e_ds2 {ps qs : List (Nat × PyData)} (ha : ∀ H', Ex H H' → EvP ta σ H' (vDF H' ps)) (hb : ∀ H', Ex H H' → EvP tb σ H' (vDF H' qs)) (l1 : ps.length ≤ 500) (l2 : qs.length ≤ 1000) : EvP (tDs2 ta tb) σ H (vDF H (mergeA (mergeA [] ps) qs)) := fun H1 e Q q d hd => by
  have e1 : Ex H1 (upd H1 d (.dK [])) := Ex.new hd
  refine ha _ (e.trans e1) _ (Ex.refl _) _ fun v H2 e2 p => ?_
  obtain ⟨b, more, rfl, nb, hb1, im⟩ := p
  have nbd : b ≠ d := fun z => by rw [z, upd_same] at nb; cases nb
  have hd2 : H2 d = some (.dK []) := e2 _ _ upd_same
  have lm := im.len
  refine ⟨b, more, rfl, nbd, hd2, hb1, by omega, ?_⟩
  have e3 : Ex H1 (upd H2 d (.dK (mergeK [] more))) := (e1.trans e2).mut hd
  refine hb _ (e.trans e3) _ (Ex.refl _) _ fun v H3 e4 p => ?_
  obtain ⟨b2, more2, rfl, nb2, hb2, im2⟩ := p
  have nbd2 : b2 ≠ d := fun z => by rw [z, upd_same] at nb2; cases nb2
  have hd3 : H3 d = some (.dK (mergeK [] more)) := e4 _ _ upd_same
  have lm2 := im2.len
  refine ⟨b2, more2, rfl, nbd2, hd3, hb2, by omega, q _ _ ((e3.trans e4).mut hd) ⟨d, _, rfl, fresh_back e hd, upd_same, ?_⟩⟩
  have t1 : Tx H2 (upd H2 d (.dK (mergeK [] more))) := Tx.dic hd2
  have t2 : Tx H3 (upd H3 d (.dK (mergeK (mergeK [] more) more2))) := Tx.dic hd3
  exact ((DkIm.merge .nil ((im.mv t1).mv (Tx.of e4))).mv t2).merge (im2.mv t2)
/-- {a: d(a) for a in xs} -/
theorem dc_N {wi : TI} {xs : List Nat} (d : Nat → PyData) (h : SrcT wi σ H xs.length (fun i x G => ∃ a, xs[i]? = some a ∧ Im G x (dN a))) (hz : xs.length ≤ 1000) (hw : ∀ x, wipe ((wipe σ vs).set j (some x)) vs = wipe σ vs) (hj : ∀ x : V, ((wipe σ vs).set j (some x))[j]? = some (some x))
    (he : ∀ a x H1, a ∈ xs → Ex H H1 → Im H1 x (dN a) → EvP tv ((wipe σ vs).set j (some x)) H1 (vI (d a))) : EvP (tDc wi (gName j) tYes (tVar j) tv vs) σ H (vDF H (mergeA [] (xs.map fun a => (a, d a)))) := by
  intro H1 e1 Q q
  refine h H1 e1 _ fun J H2 e2 hJ hS => ?_
  intro Dl hD
  have base : Ex H H2 := e1.trans e2
  refine ⟨fun i m G => m = xs.length - i ∧ i ≤ xs.length ∧ Ex H2 G ∧ ∃ kvs, G Dl = some (.dK kvs) ∧ DkIm G kvs (mergeA [] ((xs.take i).map fun a => (a, d a))), ⟨_, rfl, Nat.zero_le _, Ex.new hD, [], upd_same, .nil⟩, ?_⟩
  rintro i m G ⟨rfl, hi, eG, kvs, hx, im⟩
  by_cases hlt : i < xs.length
  · obtain ⟨go, yl⟩ := hJ i G (Tx.of eG) hlt
    refine .inr ⟨go, fun G' => Ex H2 G' ∧ ∃ kvs, G' Dl = some (.dK kvs) ∧ DkIm G' kvs (mergeA [] ((xs.take (i + 1)).map fun a => (a, d a))), fun G' p => ⟨_, Nat.lt_of_lt_of_le (Nat.sub_lt_sub_left hlt (Nat.lt_succ_self i)) (Nat.le_refl _), rfl, hlt, p.1, p.2⟩, fun x G1 hy => ?_⟩
    obtain ⟨eY, _, a, ha, ix⟩ := yl x G1 hy
    rw [List.getElem?_eq_getElem hlt] at ha
    cases ha
    refine ⟨hw x, ?_⟩
    dsimp only [tYes]
    rw [if_pos rfl]
    refine ⟨x, hj x, ?_⟩
    have am : xs[i] ∈ xs := List.getElem_mem hlt
    refine he xs[i] x G1 am (base.trans (eG.trans eY)) ix G1 (Ex.refl _) _ fun v G2 eV pv => ?_
    have hx2 := eV _ _ (eY _ _ hx)
    cases Im.isInt ix
    have tk : xs.take (i + 1) = xs.take i ++ [xs[i]] := by rw [List.take_add_one, List.getElem?_eq_getElem hlt]; rfl
    have len : kvs.length ≤ i := by
      have z := mergeA_len ((xs.take i).map fun a => (a, d a)) ([] : List (Nat × PyData))
      rw [List.length_map, List.length_take, List.length_nil] at z
      rw [im.len]
      omega
    refine ⟨kvs, .inl (xs[i] : Int), rfl, hx2, sz_lt (by omega), (eG.trans (eY.trans eV)).mut hD, _, upd_same, ?_⟩
    have t2 : Tx G2 (upd G2 Dl (.dK (putK kvs (.inl (xs[i] : Int)) v))) := Tx.dic hx2
    have z := (((im.mv (Tx.of (eY.trans eV)))).mv t2).put (n := xs[i]) (Im.mv t2 pv)
    rw [tk, List.map_append]
    unfold mergeA at z ⊢
    rw [List.foldl_append]
    exact z
  · have e : i = xs.length := by omega
    subst e
    rw [List.take_length] at im
    exact .inl ⟨hS G (Tx.of eG), q _ _ (e2.trans eG) ⟨Dl, kvs, rfl, fresh_back base hD, hx, im⟩⟩
/-- keys k, k + 1, .. -/
def kvsF : Nat → List Addr → List (Key × V)
  | _, [] => []
  | k, a :: r => (.inl (k : Int), .ref a) :: kvsF (k + 1) r
theorem kvsF_len : ∀ (as : List Addr) (k : Nat), (kvsF k as).length = as.length
  | [], _ => rfl
  | _ :: r, k => congrArg Nat.succ (kvsF_len r (k + 1))
theorem kvsF_app (b : Addr) : ∀ (as : List Addr) (k : Nat), kvsF k (as ++ [b]) = kvsF k as ++ [(.inl ((k + as.length : Nat) : Int), .ref b)]
  | [], k => rfl
  | a :: r, k => by
    show (Sum.inl (k : Int), V.ref a) :: kvsF (k + 1) (r ++ [b]) = (Sum.inl (k : Int), V.ref a) :: (kvsF (k + 1) r ++ _)
    rw [kvsF_app b r (k + 1), List.length_cons, show k + 1 + r.length = k + (r.length + 1) by omega]
theorem kvsF_val : ∀ (as : List Addr) (k i : Nat), valV (kvsF k as) (.inl ((k + i : Nat) : Int)) = as[i]?.map V.ref
  | [], _, _ => rfl
  | a :: r, k, 0 => by
    unfold kvsF valV
    rw [List.find?_cons_of_pos (by simp)]
    rfl
  | a :: r, k, i + 1 => by
    have ih := kvsF_val r (k + 1) i
    unfold kvsF
    unfold valV at ih ⊢
    rw [List.find?_cons_of_neg (by simp; omega)]
    rw [show k + (i + 1) = k + 1 + i by omega, ih]
    simp
/-- {a: [] for a in range(n)} -/
theorem dc_L {tas : TA} {n : Nat} (h : EvAs tas σ H (a1 (vI (dN n)))) (hn : n ≤ 1000) (hw : ∀ x, wipe ((wipe σ vs).set j (some x)) vs = wipe σ vs) (hj : ∀ x : V, ((wipe σ vs).set j (some x))[j]? = some (some x)) :
    EvP (tDc (iRng1 tas) (gName j) tYes (tVar j) (tLst tNil) vs) σ H (fun v G => ∃ (p : Addr) (as : List Addr), v = .ref p ∧ H p = none ∧ G p = some (.dK (kvsF 0 as)) ∧ as.length = n ∧ as.Nodup ∧ ∀ a ∈ as, H a = none ∧ G a = some (.lst [])) := by
  intro H1 e1 Q q
  refine src_R1 h (by omega) H1 e1 _ fun J H2 e2 hJ hS => ?_
  intro Dl hD
  have base : Ex H H2 := e1.trans e2
  refine ⟨fun i m G => m = n - i ∧ i ≤ n ∧ Ex H2 G ∧ ∃ as : List Addr, G Dl = some (.dK (kvsF 0 as)) ∧ as.length = i ∧ as.Nodup ∧ Dl ∉ as ∧ ∀ a ∈ as, H2 a = none ∧ G a = some (.lst []), ⟨n, rfl, Nat.zero_le _, Ex.new hD, [], upd_same, rfl, List.nodup_nil, by simp, by simp⟩, ?_⟩
  rintro i m G ⟨rfl, hi, eG, as, hx, la, nd, nD, fr⟩
  by_cases hlt : i < n
  · obtain ⟨go, yl⟩ := hJ i G eG hlt
    refine .inr ⟨go, fun G' => Ex H2 G' ∧ ∃ as : List Addr, G' Dl = some (.dK (kvsF 0 as)) ∧ as.length = i + 1 ∧ as.Nodup ∧ Dl ∉ as ∧ ∀ a ∈ as, H2 a = none ∧ G' a = some (.lst []), fun G' p => ⟨n - (i + 1), by omega, rfl, hlt, p.1, p.2⟩, fun x G1 hy => ?_⟩
    obtain ⟨eY, _, y⟩ := yl x G1 hy
    subst y
    refine ⟨hw _, ?_⟩
    dsimp only [tYes]
    rw [if_pos rfl]
    refine ⟨_, hj _, by show 0 ≤ sizeLine; exact Nat.zero_le _, fun p hp => ?_⟩
    have hx1 := eY _ _ hx
    have pD : p ≠ Dl := fun z => by rw [z, hx1] at hp; cases hp
    have pn : p ∉ as := fun m => by
      have := eY _ _ (fr p m).2
      rw [hp] at this
      cases this
    have p2 : H2 p = none := fresh_back (eG.trans eY) hp
    refine ⟨kvsF 0 as, .inl (i : Int), rfl, by rw [upd_ne (Ne.symm pD)]; exact hx1, by rw [kvsF_len, la]; exact sz_lt (by omega), ((eG.trans eY).trans (Ex.new hp)).mut hD, as ++ [p], ?_, by rw [List.length_append, la]; rfl, ?_, ?_, fun a m => ?_⟩
    · have nv : valV (kvsF 0 as) (.inl (i : Int)) = none := by
        have := kvsF_val as 0 i
        rw [Nat.zero_add] at this
        rw [this, List.getElem?_eq_none (by omega)]
        rfl
      rw [upd_same, putK_new _ nv, kvsF_app, la, Nat.zero_add]
    · rw [List.nodup_append]
      exact ⟨nd, by simp, fun a ha b hb => by rw [List.mem_singleton] at hb; rw [hb]; exact fun z => pn (z ▸ ha)⟩
    · rw [List.mem_append, List.mem_singleton]
      exact fun z => z.elim nD fun z => pD z.symm
    · rcases List.mem_append.mp m with m | m
      · have aD : a ≠ Dl := fun z => nD (z ▸ m)
        have ap : a ≠ p := fun z => pn (z ▸ m)
        refine ⟨(fr a m).1, ?_⟩
        rw [upd_ne aD, upd_ne ap]
        exact eY _ _ (fr a m).2
      · rw [List.mem_singleton] at m
        rw [m]
        refine ⟨p2, ?_⟩
        rw [upd_ne pD]
        exact upd_same
  · have e : i = n := by omega
    subst e
    exact .inl ⟨hS G eG, q _ _ (e2.trans eG) ⟨Dl, as, rfl, fresh_back base hD, hx, la, nd, fun a m => ⟨fresh_back base (fr a m).1, (fr a m).2⟩⟩⟩
end
end Lk
end

section
set_option Elab.async false
set_option linter.all false
set_option maxRecDepth 100000
set_option maxHeartbeats 4000000
namespace Lk
open PySem PySem.Spec PyProof.Rows L2 Evl PySem.W C8
local macro_rules | `(tactic| walk_at "ex") => `(tactic| first | exact Ex.refl _ | assumption | (refine Ex.trans (H1 := ?g) ?a ?b; (case a => assumption); (case b => walk_at "ex")))
local macro_rules | `(tactic| walk_at "im") => `(tactic| first | assumption | exact Im.int _ | exact Im.bl _ | (refine Im.up (H := ?g) ?a ?b; (case a => assumption); (case b => walk_at "ex")))
local macro_rules | `(tactic| walk_at "ev") => `(tactic| first
  | exact ec_i | exact ec_b | exact ec_s | exact ec_n
  | (refine ei_var rfl ?_; walk_at "im")
  | (refine eo ?_ ?_ <;> walk_at "ev")
  | (refine eoB ?_ ?_ <;> walk_at "ev")
  | (refine e_eqI ?_ ?_ <;> walk_at "ev")
  | (refine e_neI ?_ ?_ <;> walk_at "ev")
  | (refine eu ?_ <;> walk_at "ev")
  | (refine e_not ?_ <;> walk_at "ev"))

section
variable {P : Program} {w : World} {K : PySem.W.Frag} {mg : Str → Option Value} {base : Heap} {c : Cs}
/-- all but some stays -/
def Kz (S : List Addr) (H H' : Hp) : Prop := ∀ b u, b ∉ S → H b = some u → H' b = some u
theorem Kz.up {S : List Addr} {H H1 H2 : Hp} (k : Kz S H H1) (e : Ex H1 H2) : Kz S H H2 := fun b u n h => e _ _ (k b u n h)
theorem Kz.put {S : List Addr} {H H1 : Hp} {a : Addr} {o : HO} (k : Kz S H H1) (m : a ∈ S) : Kz S H (upd H1 a o) := fun b u n h => by
  rw [upd_ne (show b ≠ a from fun z => n (z ▸ m))]
  exact k b u n h
theorem Kz.kx {S : List Addr} {a : Addr} {H0 H H' : Hp} (e : Kx a H0 H) (k : Kz S H H') (f : ∀ b ∈ S, H0 b = none) : Kx a H0 H' := fun b u n h => k b u (fun m => by rw [f b m] at h; cases h) (e b u n h)
theorem LR.oth {H : Hp} {as : List Addr} {rows : List (List Nat)} (h : LR H as rows) {b : Addr} {o : HO} (n : b ∉ as) (t : Tx H (upd H b o)) : LR (upd H b o) as rows := ⟨h.1, h.2.1, fun i a g => by
  obtain ⟨r, ws, h1, h2, h3⟩ := h.2.2 i a g
  exact ⟨r, ws, h1, by rw [upd_ne (show a ≠ b from fun z => n (z ▸ List.mem_of_getElem? g))]; exact h2, h3.mv t⟩⟩
theorem vO.keep {C a C2 dx : Addr} {ds : List (Str × PyData)} {v : V} {H H1 : Hp} (h : vO C ds v H) (ne : ds ≠ []) (ha : H a = some (.ins C2 dx [])) (k : Kx a H H1) : vO C ds v H1 := by
  obtain ⟨b, d2, fs, rfl, h1, h2⟩ := h
  have nb : b ≠ a := fun z => by
    rw [z, ha] at h1
    cases h1
    cases h2
    exact ne rfl
  have nt : Nt a H := nt_ins ha
  exact ⟨b, d2, fs, rfl, k _ _ nb h1, h2.mv (k.tx nt)⟩
def addRow (rows : List (List Nat)) (o t : Nat) : List (List Nat) := rows.set o (rows.getD o [] ++ [t])
def exStep (kept : List Nat) (t : Nat) (rows : List (List Nat)) (o : Nat) : List (List Nat) := if o ∈ kept then rows else addRow rows o t
def sgStep (t : Nat) (rows : List (List Nat)) (o : Nat) : List (List Nat) := if o = t then rows else addRow rows o t
def lotStep (near : List (List Nat)) (kept : List Nat) (a : List (List Nat) × List (List Nat)) (r : Nat × List Nat) : List (List Nat) × List (List Nat) :=
  (r.2.foldl (exStep kept r.1) a.1, (metByN near r.2).foldl (sgStep r.1) a.2)
def waitN (x : NetD) (lots : List (Nat × List Nat)) : List (List Nat) × List (List Nat) := lots.foldl (lotStep (nearN x.n x.ss) x.kept) (List.replicate x.n [], List.replicate x.n [])
def ownN (x : NetD) : List (Nat × Nat) := mergeA (mergeA [] (mergeA [] x.ts)) (mergeA [] (x.kept.map fun t => (t, 0)))
/-- rows of n, each of at most k numbers -/
def RwOk (n k : Nat) (rows : List (List Nat)) : Prop := rows.length = n ∧ ∀ r ∈ rows, r.length ≤ k
theorem RwOk.mono {n k l : Nat} {rows : List (List Nat)} (h : RwOk n k rows) (e : k ≤ l) : RwOk n l rows := ⟨h.1, fun r m => Nat.le_trans (h.2 r m) e⟩
theorem RwOk.add {n k : Nat} {rows : List (List Nat)} (h : RwOk n k rows) (o t : Nat) : RwOk n (k + 1) (addRow rows o t) := by
  refine ⟨by unfold addRow; rw [List.length_set]; exact h.1, fun r m => ?_⟩
  rcases List.mem_or_eq_of_mem_set m with z | z
  · exact Nat.le_succ_of_le (h.2 r z)
  · rw [z, List.length_append, List.length_singleton, List.getD_eq_getElem?_getD]
    cases e : rows[o]? with
    | none => exact Nat.succ_le_succ (Nat.zero_le _)
    | some a => exact Nat.succ_le_succ (h.2 a (List.mem_of_getElem? e))
theorem RwOk.ex {n : Nat} {kept : List Nat} {t : Nat} : ∀ {l : List Nat} {k : Nat} {rows : List (List Nat)}, RwOk n k rows → RwOk n (k + l.length) (l.foldl (exStep kept t) rows)
  | [], _, _, h => h
  | o :: l, k, rows, h => by
    have h1 : RwOk n (k + 1) (exStep kept t rows o) := by
      unfold exStep
      by_cases z : o ∈ kept
      · rw [if_pos z]; exact h.mono (Nat.le_succ _)
      · rw [if_neg z]; exact h.add o t
    exact (h1.ex (l := l)).mono (by rw [List.length_cons]; omega)
theorem RwOk.sg {n : Nat} {t : Nat} : ∀ {l : List Nat} {k : Nat} {rows : List (List Nat)}, RwOk n k rows → RwOk n (k + l.length) (l.foldl (sgStep t) rows)
  | [], _, _, h => h
  | o :: l, k, rows, h => by
    have h1 : RwOk n (k + 1) (sgStep t rows o) := by
      unfold sgStep
      by_cases z : o = t
      · rw [if_pos z]; exact h.mono (Nat.le_succ _)
      · rw [if_neg z]; exact h.add o t
    exact (h1.sg (l := l)).mono (by rw [List.length_cons]; omega)
structure WOk (x : NetD) (p : PapD) : Prop where
  near : ∀ r ∈ nearN x.n x.ss, r.length ≤ 200
  lots : ∀ r ∈ p.lots, (∀ t ∈ r.2, t < x.n) ∧ r.2.length ≤ 100 ∧ (foundN (nearN x.n x.ss) r.2).length < 64 ∧ ∀ o ∈ metByN (nearN x.n x.ss) r.2, o < x.n
  few : p.lots.length ≤ 100
theorem metByN_len {near : List (List Nat)} {lot : List Nat} (h : (foundN near lot).length < 64) : (metByN near lot).length < 64 := by
  unfold metByN
  refine Nat.lt_of_le_of_lt (List.length_filter_le _ _) ?_
  rw [(isort_perm _).length_eq, List.length_map]
  exact h
theorem RwOk.lots {x : NetD} {p : PapD} (o : WOk x p) : ∀ {l : List (Nat × List Nat)} {k : Nat} {a : List (List Nat) × List (List Nat)}, (∀ r ∈ l, r ∈ p.lots) → RwOk x.n k a.1 → RwOk x.n k a.2 → RwOk x.n (k + l.length * 100) (l.foldl (lotStep (nearN x.n x.ss) x.kept) a).1 ∧ RwOk x.n (k + l.length * 100) (l.foldl (lotStep (nearN x.n x.ss) x.kept) a).2
  | [], _, _, _, h1, h2 => ⟨h1.mono (Nat.le_add_right _ _), h2.mono (Nat.le_add_right _ _)⟩
  | r :: l, k, a, hm, h1, h2 => by
    obtain ⟨z1, z2, z3, z4⟩ := o.lots r (hm r List.mem_cons_self)
    have q1 : RwOk x.n (k + 100) (lotStep (nearN x.n x.ss) x.kept a r).1 := (h1.ex (l := r.2)).mono (by omega)
    have q2 : RwOk x.n (k + 100) (lotStep (nearN x.n x.ss) x.kept a r).2 := (h2.sg (l := metByN (nearN x.n x.ss) r.2)).mono (by have := metByN_len z3; omega)
    have q := RwOk.lots o (l := l) (fun r m => hm r (List.mem_cons_of_mem _ m)) q1 q2
    exact ⟨q.1.mono (by rw [List.length_cons]; omega), q.2.mono (by rw [List.length_cons]; omega)⟩
/-- the waiting of a net -/
def vWt (c : Cs) (own : List (Nat × Nat)) (ex sg : List (List Nat)) : VP := fun v H => ∃ (a dx : Addr) (vn o : V) (e s : Addr) (as1 as2 : List Addr), v = .ref a ∧ H a = some (.ins c.waiting dx [("net", vn), ("own", o), ("exchangers", .ref e), ("signers", .ref s)]) ∧ vD (encA dN own) o H ∧ H e = some (.dK (kvsF 0 as1)) ∧ LR H as1 ex ∧ H s = some (.dK (kvsF 0 as2)) ∧ LR H as2 sg
theorem mWt {c : Cs} {own : List (Nat × Nat)} {ex sg : List (List Nat)} : Mono (vWt c own ex sg) := fun _ _ _ e h => by
  obtain ⟨a, dx, vn, o, e1, s, as1, as2, r, h1, h2, h3, h4, h5, h6⟩ := h
  exact ⟨a, dx, vn, o, e1, s, as1, as2, r, e _ _ h1, mD _ _ _ _ e h2, e _ _ h3, h4.up e, e _ _ h5, h6.up e⟩
def sp_wait (c : Cs) : Sp := fun vs H Q _ => ∃ (x : NetD) (p : PapD) (a dx : Addr) (ws : List V), (x.Ok ∧ WOk x p) ∧ vs = .ref a :: ws ∧ H a = some (.ins c.waiting dx []) ∧ a2 (vNet c x) (vPap c p) ws H ∧ ∀ H', Kx a H H' → vWt c (ownN x) (waitN x p.lots).1 (waitN x p.lots).2 (.ref a) H' → Q .non H'
theorem ep_mkW {c : Cs} {σ : L2.St} {H : Hp} {ta : TA} (x : NetD) (p : PapD) (o : x.Ok ∧ WOk x p) (h : EvAs ta σ H (a2 (vNet c x) (vPap c p))) : EvP (tMake c.waiting (sp_wait c) [] C8.E0 ta) σ H (vWt c (ownN x) (waitN x p.lots).1 (waitN x p.lots).2) := fun H1 e Q q =>
  h H1 e _ fun vs H2 e2 a o2 dx ho hd ne => by
    have eo : Ex H2 (upd (upd H2 dx (.own o2)) o2 (.ins c.waiting dx [])) := fun b u hb => by
      have n1 : b ≠ o2 := fun z => by rw [z, ho] at hb; cases hb
      have n2 : b ≠ dx := fun z => by rw [z, hd] at hb; cases hb
      rw [upd_ne n1, upd_ne n2]
      exact hb
    obtain ⟨u1, u2, rfl, q1, q2⟩ := a2o a
    refine ⟨x, p, o2, dx, [u1, u2], o, by rw [List.append_nil], upd_same, ⟨u1, _, rfl, mO _ _ _ _ _ eo q1, u2, _, rfl, mO _ _ _ _ _ eo q2, rfl⟩, fun H3 k f => ⟨rfl, ?_⟩⟩
    have e3 : Ex H2 H3 := fun b u hb => k b u (fun z => by rw [z, ho] at hb; cases hb) (eo b u hb)
    exact q _ _ (e2.trans e3) f
/-- self.f[k], a list -/
theorem ev_row {K : PySem.W.Frag} {σ : L2.St} {H : Hp} {tl ty : TE} {a C dx e A : Addr} {fs : List (Str × V)} {f : Str} {as : List Addr} {n : Nat} (ha : Ev tl σ H (.ref a)) (hl : H a = some (.ins C dx fs)) (c : Cls K C) (na : NoAttr K C f) (lk : fs.lookup f = some (.ref e)) (he : H e = some (.dK (kvsF 0 as))) (hy : EvP ty σ H (vI (dN n))) (hA : as[n]? = some A) : Ev (tDGet (tFld K tl f) ty) σ H (.ref A) := fun H1 e1 Q q =>
  ha H1 e1 _ fun H2 e2 => ⟨a, C, dx, fs, _, rfl, e2 _ _ (e1 _ _ hl), c, na, lk, hy H2 (e1.trans e2) _ fun y H3 e3 py => by
    cases Im.isInt py
    have hv : valV (kvsF 0 as) (.inl (n : Int)) = some (.ref A) := by
      have := kvsF_val as 0 n
      rw [Nat.zero_add, hA] at this
      exact this
    exact ⟨e, .ref A, rfl, hv ▸ DGet.k (k := Sum.inl (n : Int)) (((e1.trans e2).trans e3) _ _ he), q H3 (e2.trans e3)⟩⟩
theorem own_enc (x : NetD) : mergeA (mergeA [] (mergeA [] (encA dN x.ts))) (mergeA [] (x.kept.map fun t => (t, dN 0))) = encA dN (ownN x) := by
  have e1 : ∀ qs : List (Nat × Nat), mergeA [] (encA dN qs) = encA dN (mergeA [] qs) := fun qs => mergeA_enc qs []
  have e2 : (x.kept.map fun t => (t, dN 0)) = encA dN (x.kept.map fun t => (t, 0)) := by unfold encA; rw [List.map_map]; rfl
  rw [e2, e1, e1, e1, mergeA_enc]
  rfl
theorem mD_ins {a C dx : Addr} {fs : List (Str × V)} {H H1 : Hp} {ps : List (Nat × PyData)} {v : V} (h : vD ps v H) (hp : H a = some (.ins C dx fs)) (k : Kx a H H1) : vD ps v H1 := by
  obtain ⟨p, kvs, rfl, h1, h2⟩ := h
  exact ⟨p, kvs, rfl, k _ _ (fun z => by rw [z, hp] at h1; cases h1) h1, h2.mv (k.tx (nt_ins hp))⟩
def vDL (H0 : Hp) (n : Nat) : VP := fun v G => ∃ (p : Addr) (as : List Addr), v = .ref p ∧ H0 p = none ∧ G p = some (.dK (kvsF 0 as)) ∧ as.length = n ∧ as.Nodup ∧ ∀ a ∈ as, H0 a = none ∧ G a = some (.lst [])
theorem mDL (H0 : Hp) (n : Nat) : Mono (vDL H0 n) := fun _ _ _ e h => by
  obtain ⟨p, as, r, n1, h1, l, nd, f⟩ := h
  exact ⟨p, as, r, n1, e _ _ h1, l, nd, fun a m => ⟨(f a m).1, e _ _ (f a m).2⟩⟩
theorem LR.new {H : Hp} {as : List Addr} {n : Nat} (l : as.length = n) (nd : as.Nodup) (f : ∀ a ∈ as, H a = some (.lst [])) : LR H as (List.replicate n []) := ⟨by rw [List.length_replicate]; exact l, nd, fun i a hi => ⟨[], [], by rw [List.getElem?_replicate, if_pos]; have := (List.getElem?_eq_some_iff.mp hi).1; omega, f a (List.mem_of_getElem? hi), .nil⟩⟩
/-! ### Waiting.__init__ -/
abbrev sp_Waiting_init : Sp := sp_wait c
theorem c_Waiting (T : Txt K mg c) : Mak P w K mg base 2 "Waiting" c.waiting (sp_Waiting_init (c := c)) [] := by
  have c_met_by_nets := c_met_by_nets (P := P) (w := w) (base := base) T
  have c_near_in := c_near_in (P := P) (w := w) (base := base) T
  refine mkMak T.m_Waiting_init T.g_Waiting sc_Waiting_init (fun _ _ _ _ _ _ us hl => match us, hl with | [_, _, _], _ => rfl) (fun vs H Q E h => ?_) (fun f cdv A outer s H vs Q E hr h => ?_)
  · obtain ⟨x, p, a, dx, ws, _, rfl, _, h, _⟩ := h; obtain ⟨_, _, rfl, _⟩ := a2o h; rfl
  · have hu := hu_of hr
    obtain ⟨x, p, a, dx, ws, ⟨ok, wo⟩, rfl, ha, h, k⟩ := h
    obtain ⟨v1, v2, rfl, p1, p2⟩ := a2o h
    have n4 := ok.n4
    have n1 := ok.n1
    refine ⟨_, pss_cons (ps_set (i := 3) sc_Waiting_init.nd rfl (Or.inl rfl) (pe_c c_near_in hr (by decide) (by rfl) (pa_cons (pv 1) (pa_nil))))
      (pss_cons (ps_fld (pv 0) (pv 1) rfl)
      (pss_cons (ps_fld (pv 0) (pe_dstar2 (pe_callTy (T := "dict") (cr_dictT K rfl) (by rfl) T.b_dict (by decide +kernel) (pa_cons (pe_fldK K (pv 1)) (pa_nil))) (pe_dc (own := [("thing", 4)]) rfl sc_Waiting_init.nd (pi_seqK K (pe_fldK K (pv 1))) (blkOk_by (N := N_Waiting_init) (sc := defScope s_Waiting_init) (own := [("thing", 4)]) (by decide +kernel)) (fun _ _ _ _ _ => pg_name (i := 4) sc_Waiting_init.nd rfl (Or.inl rfl)) (fun _ _ _ _ _ => pts_nil) (fun _ _ _ _ _ => pv 4) (fun _ _ _ _ _ => pe_int))) rfl)
      (pss_cons (ps_fld (pv 0) (pe_dc (own := [("thing", 4)]) rfl sc_Waiting_init.nd (pi_range1 (by rfl) T.b_range (pa_cons (pe_fldK K (pv 1)) (pa_nil))) (blkOk_by (N := N_Waiting_init) (sc := defScope s_Waiting_init) (own := [("thing", 4)]) (by decide +kernel)) (fun _ _ _ _ _ => pg_name (i := 4) sc_Waiting_init.nd rfl (Or.inl rfl)) (fun _ _ _ _ _ => pts_nil) (fun _ _ _ _ _ => pv 4) (fun _ _ _ _ _ => pe_lst (pa_nil))) rfl)
      (pss_cons (ps_fld (pv 0) (pe_dc (own := [("thing", 4)]) rfl sc_Waiting_init.nd (pi_range1 (by rfl) T.b_range (pa_cons (pe_fldK K (pv 1)) (pa_nil))) (blkOk_by (N := N_Waiting_init) (sc := defScope s_Waiting_init) (own := [("thing", 4)]) (by decide +kernel)) (fun _ _ _ _ _ => pg_name (i := 4) sc_Waiting_init.nd rfl (Or.inl rfl)) (fun _ _ _ _ _ => pts_nil) (fun _ _ _ _ _ => pv 4) (fun _ _ _ _ _ => pe_lst (pa_nil))) rfl)
      (pss_one (ps_for PassesOwn.never rfl (pi_seqK K (pe_fldK K (pv 2))) (pg_tupK K (n := 2) rfl (pgs_cons (pg_name (i := 4) sc_Waiting_init.nd rfl (Or.inl rfl)) (pgs_cons (pg_name (i := 5) sc_Waiting_init.nd rfl (Or.inl rfl)) (pgs_nil))))
      (pss_cons (ps_for PassesOwn.never rfl (pi_seqK K (pv 5)) (pg_name (i := 6) sc_Waiting_init.nd rfl (Or.inl rfl))
      (pss_one (ps_if (pt_cmpR (op_notInK K) (pv 6) (pe_fldK K (pv 1)) (by rfl)) (pss_one (ps_expr (pe_bm PySem.F.plainAttrs_list PySem.F.slot_list_append PySem.F.type_list_append mt_append (pe_dget hu (pe_fldK K (pv 0)) (pv 6) (fun _ _ => rfl)) (pa_cons (pv 4) (pa_nil))))) (pss_nil))))
      (pss_one (ps_for PassesOwn.never rfl (pi_seqK K (pe_c c_met_by_nets hr (by decide) (by rfl) (pa_cons (pv 3) (pa_cons (pv 5) (pa_nil))))) (pg_name (i := 6) sc_Waiting_init.nd rfl (Or.inl rfl))
      (pss_one (ps_if (pt_cmpR op_ne (pv 6) (pv 4) (nomark _)) (pss_one (ps_expr (pe_bm PySem.F.plainAttrs_list PySem.F.slot_list_append PySem.F.type_list_append mt_append (pe_dget hu (pe_fldK K (pv 0)) (pv 6) (fun _ _ => rfl)) (pa_cons (pv 4) (pa_nil))))) (pss_nil)))))))))))), ?_⟩
    have net : ∀ {H'}, Kx a H H' → vNet c x v1 H' := fun e => p1.keep (by simp) ha e
    have pap : ∀ {H'}, Kx a H H' → vPap c p v2 H' := fun e => p2.keep (by simp) ha e
    refine q_set (P := vL ((nearN x.n x.ss).map tupN)) (ep_callP x ok (ea_1 (mO _ _) (ep_var rfl (mO _ _) p1))) fun v3 H1 e1 pn => ?_
    have k1 : Kx a H H1 := Kx.of e1
    refine q_fldP (P := vNet c x) (ep_var (k := 1) rfl (mO _ _) (net k1)) (ev_var rfl) (e1 _ _ ha) T.cl_Waiting T.nWaiting_net (by show 0 < 1000; omega) (mO _ _) fun w2 H2 e2 pw => ?_
    have k2 : Kx a H (upd H2 a (.ins c.waiting dx (putF "net" w2 []))) := (k1.trans (Kx.of e2)).trans Kx.upd
    have hn2 : (upd H2 a (.ins c.waiting dx (putF "net" w2 []))) a = some (.ins c.waiting dx [("net", w2)]) := upd_same
    have pn2 : vL ((nearN x.n x.ss).map tupN) v3 (upd H2 a (.ins c.waiting dx (putF "net" w2 []))) := mL_ins pn (e1 _ _ ha) ((Kx.of e2).trans Kx.upd)
    have j2 : Kx a H1 (upd H2 a (.ins c.waiting dx (putF "net" w2 []))) := (Kx.of e2).trans Kx.upd
    generalize upd H2 a (.ins c.waiting dx (putF "net" w2 [])) = G2 at k2 hn2 pn2 j2
    have l0 : (mergeA ([] : List (Nat × PyData)) (encA dN x.ts)).length ≤ 500 := by
      have z := mergeA_len (encA dN x.ts) ([] : List (Nat × PyData))
      have := ok.tz
      unfold encA at z ⊢
      rw [List.length_map, List.length_nil] at z
      omega
    have l1 : (mergeA ([] : List (Nat × PyData)) (x.kept.map fun t => (t, dN 0))).length ≤ 1000 := by
      have z := mergeA_len (x.kept.map fun t => (t, dN 0)) ([] : List (Nat × PyData))
      have := ok.kz
      rw [List.length_map, List.length_nil] at z
      omega
    refine q_fldP (P := vD (encA dN (ownN x))) (EvP.imp (e_ds2 (ps := mergeA [] (encA dN x.ts)) (qs := mergeA [] (x.kept.map fun t => (t, dN 0))) (fun H' e => e_dictT (EvP.is (n_turns T (ep_var rfl (mO _ _) (mO _ _ _ _ _ e (net k2)))) (by unfold encA; rw [List.map_map]; rfl))) (fun H' e => dc_N (fun _ => dN 0) (st_T (n_kept T (ep_var rfl (mO _ _) (mO _ _ _ _ _ e (net k2))))) (by have := ok.kz; omega) (fun _ => rfl) (fun _ => rfl) fun t y H4 m e4 i => ec_i) l0 l1) fun v H3 _ p => by rw [← own_enc]; exact vDF_D p) (ev_var rfl) hn2 T.cl_Waiting T.nWaiting_own (by show 1 < 1000; omega) (mD _) fun wo2 H3 e3 po => ?_
    have k3 : Kx a H1 (upd H3 a (.ins c.waiting dx (putF "own" wo2 [("net", w2)]))) := (j2.trans (Kx.of e3)).trans Kx.upd
    have hn3 : (upd H3 a (.ins c.waiting dx (putF "own" wo2 [("net", w2)]))) a = some (.ins c.waiting dx [("net", w2), ("own", wo2)]) := upd_same
    have po3 : vD (encA dN (ownN x)) wo2 (upd H3 a (.ins c.waiting dx (putF "own" wo2 [("net", w2)]))) := mD_ins po (e3 _ _ hn2) Kx.upd
    generalize upd H3 a (.ins c.waiting dx (putF "own" wo2 [("net", w2)])) = G3 at k3 hn3 po3
    refine q_fldP (P := vDL G3 x.n) (dc_L (ea_1 (mI _) (n_things T (ep_var rfl (mO _ _) (net (k1.trans k3))))) (by omega) (fun _ => rfl) (fun _ => rfl)) (ev_var rfl) hn3 T.cl_Waiting T.nWaiting_exchangers (by show 2 < 1000; omega) (mDL _ _) fun vx H4 e4 px => ?_
    obtain ⟨ex, as1, rfl, nx, hx4, la1, nd1, fr1⟩ := px
    have na1 : ∀ A ∈ as1, A ≠ a := fun A m z => by
      have := (fr1 A m).1
      rw [z, hn3] at this
      cases this
    have k4 : Kx a G3 (upd H4 a (.ins c.waiting dx (putF "exchangers" (.ref ex) [("net", w2), ("own", wo2)]))) := (Kx.of e4).trans Kx.upd
    have hn4 : (upd H4 a (.ins c.waiting dx (putF "exchangers" (.ref ex) [("net", w2), ("own", wo2)]))) a = some (.ins c.waiting dx [("net", w2), ("own", wo2), ("exchangers", .ref ex)]) := upd_same
    have po4 : vD (encA dN (ownN x)) wo2 (upd H4 a (.ins c.waiting dx (putF "exchangers" (.ref ex) [("net", w2), ("own", wo2)]))) := mD_ins (mD _ _ _ _ e4 po3) (e4 _ _ hn3) Kx.upd
    have hx4' : (upd H4 a (.ins c.waiting dx (putF "exchangers" (.ref ex) [("net", w2), ("own", wo2)]))) ex = some (.dK (kvsF 0 as1)) := by
      rw [upd_ne (show ex ≠ a from fun z => by rw [z, hn3] at nx; cases nx)]
      exact hx4
    have f4 : ∀ A ∈ as1, (upd H4 a (.ins c.waiting dx (putF "exchangers" (.ref ex) [("net", w2), ("own", wo2)]))) A = some (.lst []) := fun A m => by
      rw [upd_ne (na1 A m)]
      exact (fr1 A m).2
    generalize upd H4 a (.ins c.waiting dx (putF "exchangers" (.ref ex) [("net", w2), ("own", wo2)])) = G4 at k4 hn4 po4 hx4' f4
    have k34 := k3.trans k4
    refine q_fldP (P := vDL G4 x.n) (dc_L (ea_1 (mI _) (n_things T (ep_var rfl (mO _ _) (net (k1.trans k34))))) (by omega) (fun _ => rfl) (fun _ => rfl)) (ev_var rfl) hn4 T.cl_Waiting T.nWaiting_signers (by show 3 < 1000; omega) (mDL _ _) fun vs H5 e5 ps => ?_
    obtain ⟨sg, as2, rfl, ns, hs5, la2, nd2, fr2⟩ := ps
    have na2 : ∀ A ∈ as2, A ≠ a := fun A m z => by
      have := (fr2 A m).1
      rw [z, hn4] at this
      cases this
    have k5 : Kx a G4 (upd H5 a (.ins c.waiting dx (putF "signers" (.ref sg) [("net", w2), ("own", wo2), ("exchangers", .ref ex)]))) := (Kx.of e5).trans Kx.upd
    have hn5 : (upd H5 a (.ins c.waiting dx (putF "signers" (.ref sg) [("net", w2), ("own", wo2), ("exchangers", .ref ex)]))) a = some (.ins c.waiting dx [("net", w2), ("own", wo2), ("exchangers", .ref ex), ("signers", .ref sg)]) := upd_same
    have po5 : vD (encA dN (ownN x)) wo2 (upd H5 a (.ins c.waiting dx (putF "signers" (.ref sg) [("net", w2), ("own", wo2), ("exchangers", .ref ex)]))) := mD_ins (mD _ _ _ _ e5 po4) (e5 _ _ hn4) Kx.upd
    have hx5 : (upd H5 a (.ins c.waiting dx (putF "signers" (.ref sg) [("net", w2), ("own", wo2), ("exchangers", .ref ex)]))) ex = some (.dK (kvsF 0 as1)) := by
      rw [upd_ne (show ex ≠ a from fun z => by rw [z, hn3] at nx; cases nx)]
      exact e5 _ _ hx4'
    have hs5' : (upd H5 a (.ins c.waiting dx (putF "signers" (.ref sg) [("net", w2), ("own", wo2), ("exchangers", .ref ex)]))) sg = some (.dK (kvsF 0 as2)) := by
      rw [upd_ne (show sg ≠ a from fun z => by rw [z, hn4] at ns; cases ns)]
      exact hs5
    have f5 : ∀ A ∈ as1 ++ as2, (upd H5 a (.ins c.waiting dx (putF "signers" (.ref sg) [("net", w2), ("own", wo2), ("exchangers", .ref ex)]))) A = some (.lst []) := fun A m => by
      rcases List.mem_append.mp m with m | m
      · rw [upd_ne (na1 A m)]
        exact e5 _ _ (f4 A m)
      · rw [upd_ne (na2 A m)]
        exact (fr2 A m).2
    generalize upd H5 a (.ins c.waiting dx (putF "signers" (.ref sg) [("net", w2), ("own", wo2), ("exchangers", .ref ex)])) = G5 at k5 hn5 po5 hx5 hs5' f5
    have k15 := k34.trans k5
    have kH5 := k1.trans k15
    have pn5 : vL ((nearN x.n x.ss).map tupN) v3 G5 := mL_ins pn (e1 _ _ ha) k15
    have fresh1 : ∀ A ∈ as1 ++ as2, H1 A = none := fun A m => by
      rcases List.mem_append.mp m with m | m
      · cases z : H1 A with
        | none => rfl
        | some u => have := k3 A u (na1 A m) z; rw [(fr1 A m).1] at this; cases this
      · cases z : H1 A with
        | none => rfl
        | some u => have := k34 A u (na2 A m) z; rw [(fr2 A m).1] at this; cases this
    have freshH : ∀ A ∈ as1 ++ as2, H A = none := fun A m => fresh_back e1 (fresh1 A m)
    have dis : ∀ A ∈ as1, A ∉ as2 := fun A m m2 => by
      have := (fr2 A m2).1
      rw [f4 A m] at this
      cases this
    have aS : a ∉ as1 ++ as2 := fun m => by
      have := f5 a m
      rw [hn5] at this
      cases this
    have dS : ∀ {b kvs}, G5 b = some (.dK kvs) → b ∉ as1 ++ as2 := fun h m => by
      have := f5 _ m
      rw [h] at this
      cases this
    have net' : ∀ {H'}, Kz (as1 ++ as2) G5 H' → vNet c x v1 H' := fun e => net (e.kx kH5 freshH)
    have near' : ∀ {H'}, Kz (as1 ++ as2) G5 H' → Tx G5 H' → vL ((nearN x.n x.ss).map tupN) v3 H' := fun {H'} e t => by
      obtain ⟨p0, xs, r, h1, im⟩ := pn
      obtain ⟨p1, ys, r2, h2, im2⟩ := pn5
      rw [r] at r2
      cases r2
      exact ⟨p0, ys, r, e _ _ (fun m => by rw [fresh1 _ m] at h1; cases h1) h2, im2.mv t⟩
    have lr1 : LR G5 as1 (List.replicate x.n []) := LR.new la1 nd1 fun A m => f5 A (List.mem_append_left _ m)
    have lr2 : LR G5 as2 (List.replicate x.n []) := LR.new la2 nd2 fun A m => f5 A (List.mem_append_right _ m)
    have rw0 : RwOk x.n 0 (List.replicate x.n []) := ⟨List.length_replicate, fun r m => by rw [List.eq_of_mem_replicate m]; exact Nat.le_refl _⟩
    have few := wo.few
    have self' : ∀ {H'}, Kz (as1 ++ as2) G5 H' → H' a = some (.ins c.waiting dx [("net", w2), ("own", wo2), ("exchangers", .ref ex), ("signers", .ref sg)]) := fun e => e _ _ aS hn5
    have kz0 : Kz (as1 ++ as2) G5 G5 := fun _ _ _ h => h
    refine s_for (xs := p.lots) (enc := rowD) (st_T (p_lots T (ep_var rfl (mO _ _) (pap kH5)))) fun G6 e6 => ⟨fun l σ' H' => ∃ o4 o5 o6, σ' = [some (.ref a), some v1, some v2, some v3, o4, o5, o6] ∧ Kz (as1 ++ as2) G5 H' ∧ Tx G5 H' ∧ LR H' as1 (l.foldl (lotStep (nearN x.n x.ss) x.kept) (List.replicate x.n [], List.replicate x.n [])).1 ∧ LR H' as2 (l.foldl (lotStep (nearN x.n x.ss) x.kept) (List.replicate x.n [], List.replicate x.n [])).2, ⟨_, _, _, rfl, kz0.up e6, Tx.of e6, lr1.up e6, lr2.up e6⟩, ?_, ?_⟩
    · rintro l r q vy σ' H' G hlt tx ⟨o4, o5, o6, rfl, kz, tz, r1, r2⟩ ex' im
      have rm : r ∈ p.lots := by rw [hlt]; exact List.mem_append_right _ List.mem_cons_self
      obtain ⟨w1, w2', w3, w4⟩ := wo.lots r rm
      have lm : ∀ z ∈ l, z ∈ p.lots := fun z m => by rw [hlt]; exact List.mem_append_left _ m
      have ll : l.length ≤ 100 := by
        have := congrArg List.length hlt
        rw [List.length_append] at this
        omega
      obtain ⟨b1, b2⟩ := RwOk.lots wo (k := 0) (a := (List.replicate x.n [], List.replicate x.n [])) lm rw0 rw0
      generalize hpr : l.foldl (lotStep (nearN x.n x.ss) x.kept) (List.replicate x.n [], List.replicate x.n []) = pr at *
      obtain ⟨exr, sgr⟩ := pr
      dsimp only at b1 b2 r1 r2
      refine g_pair im fun vt vl it il => ?_
      have kzG := kz.up ex'
      have tzG := tz.trans (Tx.of ex')
      refine q_for (xs := r.2) (enc := dN) (st_T (ei_var rfl il)) fun G7 e7 => ⟨fun m σ' H' => ∃ o6, σ' = [some (.ref a), some v1, some v2, some v3, some vt, some vl, o6] ∧ Kz (as1 ++ as2) G5 H' ∧ Tx G H' ∧ LR H' as1 (m.foldl (exStep x.kept r.1) exr) ∧ LR H' as2 sgr, ⟨_, rfl, kzG.up e7, Tx.of e7, (r1.up ex').up e7, (r2.up ex').up e7⟩, ?_, ?_⟩
      · rintro m o q2 vo σ' H7 G2' hm tx2 ⟨o6, rfl, kz7, tz7, q1, q2⟩ ex2 im2
        have om : o ∈ r.2 := by rw [hm]; exact List.mem_append_right _ List.mem_cons_self
        have on := w1 o om
        have kz8 := kz7.up ex2
        have tz8 := tz7.trans (Tx.of ex2)
        have bm := b1.ex (kept := x.kept) (t := r.1) (l := m)
        have ml : m.length ≤ r.2.length := by rw [hm, List.length_append]; exact Nat.le_add_right _ _
        refine s_when (et_t (e_ninN (ei_var rfl im2) (vST (n_kept T (ep_var rfl (mO _ _) (net' kz8)))))) (fun hb G8 e8 => ?_) fun hb G8 e8 => ?_
        · have hb : o ∉ x.kept := by simpa using hb
          obtain ⟨A, hA⟩ : ∃ A, as1[o]? = some A := ⟨as1[o]'(by omega), List.getElem?_eq_getElem (by omega)⟩
          have q18 := (q1.up ex2).up e8
          obtain ⟨row, ws, hr, hw, imr⟩ := q18.2.2 o A hA
          have Am := List.mem_of_getElem? hA
          have rl := bm.2 row (List.mem_of_getElem? hr)
          have kz9 := kz8.up e8
          refine s_appP (l := A) (ev_row (ev_var rfl) (self' kz9) T.cl_Waiting T.nWaiting_exchangers rfl (kz9 _ _ (dS hx5) hx5) (ei_var rfl (im2.up e8)) hA) hw (ei_var rfl ((it.mv tz8).up e8)) (by rw [imr.len, List.length_map]; omega) fun v G9 e9 pv => ?_
          have t9 : Tx G9 (upd G9 A (.lst (ws ++ [v]))) := Tx.lst (e9 _ _ hw)
          refine ⟨((tx2.trans (Tx.of ex2)).trans (Tx.of (e8.trans e9))).trans t9, _, rfl, (kz9.up e9).put (List.mem_append_left _ Am), (tz8.trans (Tx.of (e8.trans e9))).trans t9, ?_, (((q2.up ex2).up e8).up e9).oth (dis A Am) t9⟩
          have z := (q18.up e9).put (x := r.1) hA hr (e9 _ _ hw) (imr.up e9) pv
          have gd : (m.foldl (exStep x.kept r.1) exr).getD o [] = row := by rw [List.getD_eq_getElem?_getD, hr]; rfl
          rw [List.foldl_append]
          show LR _ as1 (exStep x.kept r.1 (m.foldl (exStep x.kept r.1) exr) o)
          unfold exStep addRow
          rw [if_neg hb]
          unfold exStep addRow at z gd
          rw [gd]
          exact z
        · have hb : o ∈ x.kept := by simpa using hb
          refine ⟨(tx2.trans (Tx.of ex2)).trans (Tx.of e8), _, rfl, kz8.up e8, tz8.trans (Tx.of e8), ?_, (q2.up ex2).up e8⟩
          rw [List.foldl_append]
          show LR _ as1 (exStep x.kept r.1 (m.foldl (exStep x.kept r.1) exr) o)
          unfold exStep
          rw [if_pos hb]
          unfold exStep at q1
          exact (q1.up ex2).up e8
      · rintro σ' H7 tx2 ⟨o6, rfl, kz7, tz7, q1, q2⟩
        have it7 := it.mv tz7
        have il7 := il.mv tz7
        refine s_for (xs := metByN (nearN x.n x.ss) r.2) (enc := dN) (st_T (ep_callP (nearN x.n x.ss, r.2) ⟨fun t m => by unfold nearN; rw [List.length_map, nearFold_len, List.length_replicate]; exact w1 t m, w2', wo.near, w3⟩ (ea1 (mL _) (ep_var rfl (mL _) (near' kz7 (tzG.trans tz7))) (ea_1 (mI _) (ei_var rfl il7))))) fun G8 e8 => ⟨fun m σ' H' => ∃ o6, σ' = [some (.ref a), some v1, some v2, some v3, some vt, some vl, o6] ∧ Kz (as1 ++ as2) G5 H' ∧ Tx H7 H' ∧ LR H' as1 (r.2.foldl (exStep x.kept r.1) exr) ∧ LR H' as2 (m.foldl (sgStep r.1) sgr), ⟨_, rfl, kz7.up e8, Tx.of e8, q1.up e8, q2.up e8⟩, ?_, ?_⟩
        · rintro m o q2' vo σ' H8 G2' hm tx3 ⟨o6, rfl, kz8, tz8, q3, q4⟩ ex2 im2
          have on := w4 o (by rw [hm]; exact List.mem_append_right _ List.mem_cons_self)
          have kz9 := kz8.up ex2
          have tz9 := tz8.trans (Tx.of ex2)
          have bm := b2.sg (t := r.1) (l := m)
          have ml : m.length ≤ (metByN (nearN x.n x.ss) r.2).length := by rw [hm, List.length_append]; exact Nat.le_add_right _ _
          have mz := metByN_len w3
          refine s_when (et_t (e_neN (ei_var rfl im2) (ei_var rfl (it7.mv tz9)))) (fun hb G9 e9 => ?_) fun hb G9 e9 => ?_
          · have hb : o ≠ r.1 := by simpa using hb
            obtain ⟨A, hA⟩ : ∃ A, as2[o]? = some A := ⟨as2[o]'(by omega), List.getElem?_eq_getElem (by omega)⟩
            have q18 := (q4.up ex2).up e9
            obtain ⟨row, ws, hr, hw, imr⟩ := q18.2.2 o A hA
            have Am := List.mem_of_getElem? hA
            have rl := bm.2 row (List.mem_of_getElem? hr)
            have kz10 := kz9.up e9
            refine s_appP (l := A) (ev_row (ev_var rfl) (self' kz10) T.cl_Waiting T.nWaiting_signers rfl (kz10 _ _ (dS hs5') hs5') (ei_var rfl (im2.up e9)) hA) hw (ei_var rfl ((it7.mv tz9).up e9)) (by rw [imr.len, List.length_map]; omega) fun v G10 e10 pv => ?_
            have t10 : Tx G10 (upd G10 A (.lst (ws ++ [v]))) := Tx.lst (e10 _ _ hw)
            refine ⟨((tx3.trans (Tx.of ex2)).trans (Tx.of (e9.trans e10))).trans t10, _, rfl, (kz10.up e10).put (List.mem_append_right _ Am), (tz9.trans (Tx.of (e9.trans e10))).trans t10, (((q3.up ex2).up e9).up e10).oth (fun z => dis A z Am) t10, ?_⟩
            have z := (q18.up e10).put (x := r.1) hA hr (e10 _ _ hw) (imr.up e10) pv
            have gd : (m.foldl (sgStep r.1) sgr).getD o [] = row := by rw [List.getD_eq_getElem?_getD, hr]; rfl
            rw [List.foldl_append]
            show LR _ as2 (sgStep r.1 (m.foldl (sgStep r.1) sgr) o)
            generalize m.foldl (sgStep r.1) sgr = rr at *
            unfold sgStep addRow
            rw [if_neg hb, gd]
            exact z
          · have hb : o = r.1 := by simpa using hb
            refine ⟨(tx3.trans (Tx.of ex2)).trans (Tx.of e9), _, rfl, kz9.up e9, tz9.trans (Tx.of e9), (q3.up ex2).up e9, ?_⟩
            rw [List.foldl_append]
            show LR _ as2 (sgStep r.1 (m.foldl (sgStep r.1) sgr) o)
            generalize m.foldl (sgStep r.1) sgr = rr at *
            unfold sgStep
            rw [if_pos hb]
            exact (q4.up ex2).up e9
        · rintro σ' H8 tx3 ⟨o6, rfl, kz8, tz8, q3, q4⟩
          have t8 := (tzG.trans tz7).trans tz8
          refine ⟨(tx.trans (Tx.of ex')).trans (tz7.trans tz8), _, _, _, rfl, kz8, t8, ?_, ?_⟩
          · rw [List.foldl_append, hpr]
            exact q3
          · rw [List.foldl_append, hpr]
            exact q4
    · rintro σ' H' tx ⟨o4, o5, o6, rfl, kz, tz, r1, r2⟩
      refine k H' (kz.kx kH5 freshH) ⟨a, dx, w2, wo2, ex, sg, as1, as2, rfl, self' kz, ?_, kz _ _ (dS hx5) hx5, r1, kz _ _ (dS hs5') hs5', r2⟩
      obtain ⟨o, kvs, rfl, h1, h2⟩ := po5
      exact ⟨o, kvs, rfl, kz _ _ (dS h1) h1, h2.mv tz⟩
end
end Lk
end

section
set_option Elab.async false
set_option linter.all false
set_option maxRecDepth 100000
set_option maxHeartbeats 4000000
namespace Lk
open PySem PySem.Spec PyProof.Rows L2 Evl PySem.W C8
local macro_rules | `(tactic| walk_at "ex") => `(tactic| first | exact Ex.refl _ | assumption | (refine Ex.trans (H1 := ?g) ?a ?b; (case a => assumption); (case b => walk_at "ex")))
local macro_rules | `(tactic| walk_at "im") => `(tactic| first | assumption | exact Im.int _ | exact Im.bl _ | (refine Im.up (H := ?g) ?a ?b; (case a => assumption); (case b => walk_at "ex")))
local macro_rules | `(tactic| walk_at "ev") => `(tactic| first
  | exact ec_i | exact ec_b | exact ec_s | exact ec_n
  | (refine ei_var rfl ?_; walk_at "im")
  | (refine eo ?_ ?_ <;> walk_at "ev")
  | (refine eoB ?_ ?_ <;> walk_at "ev")
  | (refine e_eqI ?_ ?_ <;> walk_at "ev")
  | (refine e_neI ?_ ?_ <;> walk_at "ev")
  | (refine eu ?_ <;> walk_at "ev")
  | (refine e_not ?_ <;> walk_at "ev"))

section
variable {P : Program} {w : World} {K : PySem.W.Frag} {mg : Str → Option Value} {base : Heap} {c : Cs}
structure WtD where
  own : List (Nat × Nat)
  ex : List (List Nat)
  sg : List (List Nat)
abbrev vW (c : Cs) (x : WtD) : VP := vWt c x.own x.ex x.sg
def sumF (falls : List Nat) (row : List Nat) : Int := (row.map fun o => ((falls.getD o 0 : Nat) : Int)).sum
def nowN (x : WtD) (t : Nat) (falls : List Nat) : Int :=
  ((if sumF falls (x.ex.getD t []) % 2 = 1 then -(((getA x.own t).getD 0 : Nat) : Int) else (((getA x.own t).getD 0 : Nat) : Int)) + 4 * sumF falls (x.sg.getD t [])) % 8
theorem sumF_le {falls : List Nat} (h : ∀ f ∈ falls, f ≤ 1) : ∀ row : List Nat, 0 ≤ sumF falls row ∧ sumF falls row ≤ row.length
  | [] => ⟨Int.le_refl _, Int.le_refl _⟩
  | o :: r => by
    have ih := sumF_le h r
    have g : falls.getD o 0 ≤ 1 := by
      rw [List.getD_eq_getElem?_getD]
      cases e : falls[o]? with
      | none => exact Nat.zero_le _
      | some a => exact h a (List.mem_of_getElem? e)
    have e : sumF falls (o :: r) = ((falls.getD o 0 : Nat) : Int) + sumF falls r := List.sum_cons
    rw [e, List.length_cons]
    omega
/-- what now needs -/
def NowOk (x : WtD) (t : Nat) (falls : List Nat) : Prop := (getA x.own t).isSome = true ∧ t < x.ex.length ∧ t < x.sg.length ∧ (∀ r ∈ x.ex, r.length ≤ 50000 ∧ ∀ o ∈ r, o < falls.length) ∧ (∀ r ∈ x.sg, r.length ≤ 50000 ∧ ∀ o ∈ r, o < falls.length) ∧ ∀ f ∈ falls, f ≤ 1
section
variable {K : PySem.W.Frag} {mg : Str → Option Value} {c : Cs} {σ : L2.St} {H : Hp} {te ty : TE} {x : WtD}
theorem w_own (T : Txt K mg c) (h : EvP te σ H (vW c x)) : EvP (tFld K te "own") σ H (vD (encA dN x.own)) := e_fld h (mD _) fun v H1 p => by
  obtain ⟨a, dx, vn, o, e, s, as1, as2, r, h1, h2, _⟩ := p
  exact ⟨a, _, dx, _, o, r, h1, T.cl_Waiting, T.nWaiting_own, rfl, h2⟩
/-- a row of a field -/
theorem w_row {f : Str} {rows : VP} {rr : List (List Nat)} {t : Nat} {row : List Nat} (h : EvP te σ H (vW c x)) (hy : EvP ty σ H (vI (dN t))) (hr : rr[t]? = some row)
    (hf : ∀ v G, vW c x v G → ∃ a C dx fs e as, v = .ref a ∧ G a = some (.ins C dx fs) ∧ Cls K C ∧ NoAttr K C f ∧ fs.lookup f = some (.ref e) ∧ G e = some (.dK (kvsF 0 as)) ∧ LR G as rr) : EvP (tDGet (tFld K te f) ty) σ H (vL (row.map dN)) := fun H1 e1 Q q =>
  h H1 e1 _ fun v H2 e2 p => by
    obtain ⟨a, C, dx, fs, e, as, rfl, h1, h2, h3, h4, h5, lr⟩ := hf v H2 p
    refine ⟨a, C, dx, fs, _, rfl, h1, h2, h3, h4, hy H2 (e1.trans e2) _ fun y H3 e3 py => ?_⟩
    cases Im.isInt py
    have tl : t < as.length := by rw [lr.1]; exact (List.getElem?_eq_some_iff.mp hr).1
    obtain ⟨A, hA⟩ : ∃ A, as[t]? = some A := ⟨as[t], List.getElem?_eq_getElem tl⟩
    have hv : valV (kvsF 0 as) (.inl (t : Int)) = some (.ref A) := by
      have := kvsF_val as 0 t
      rw [Nat.zero_add, hA] at this
      exact this
    obtain ⟨r2, ws, g1, g2, g3⟩ := lr.2.2 t A hA
    rw [hr] at g1
    cases g1
    exact ⟨e, .ref A, rfl, hv ▸ DGet.k (k := Sum.inl (t : Int)) (e3 _ _ h5), q _ _ (e2.trans e3) ⟨A, ws, rfl, e3 _ _ g2, g3.up e3⟩⟩
theorem w_ex (T : Txt K mg c) {t : Nat} (h : EvP te σ H (vW c x)) (hy : EvP ty σ H (vI (dN t))) (ht : t < x.ex.length) : EvP (tDGet (tFld K te "exchangers") ty) σ H (vL ((x.ex.getD t []).map dN)) := w_row (rows := vI .none) h hy (getD_nil ht) fun v G p => by
  obtain ⟨a, dx, vn, o, e, s, as1, as2, r, h1, h2, h3, h4, _⟩ := p
  exact ⟨a, _, dx, _, e, as1, r, h1, T.cl_Waiting, T.nWaiting_exchangers, rfl, h3, h4⟩
theorem w_sg (T : Txt K mg c) {t : Nat} (h : EvP te σ H (vW c x)) (hy : EvP ty σ H (vI (dN t))) (ht : t < x.sg.length) : EvP (tDGet (tFld K te "signers") ty) σ H (vL ((x.sg.getD t []).map dN)) := w_row (rows := vI .none) h hy (getD_nil ht) fun v G p => by
  obtain ⟨a, dx, vn, o, e, s, as1, as2, r, h1, h2, h3, h4, h5, h6⟩ := p
  exact ⟨a, _, dx, _, s, as2, r, h1, T.cl_Waiting, T.nWaiting_signers, rfl, h5, h6⟩
end
/-! ### Waiting.now -/
abbrev sp_Waiting_now : Sp := spP (fun x : WtD × Nat × List Nat => NowOk x.1 x.2.1 x.2.2) (fun x => a3 (vW c x.1) (vI (dN x.2.1)) (vL (x.2.2.map dN))) fun x => vI (.int (nowN x.1 x.2.1 x.2.2))
theorem c_now (T : Txt K mg c) : Met P w K mg base 1 c.waiting "now" (sp_Waiting_now (c := c)) [] := by
  refine mkMet T.cl_Waiting T.m_Waiting_now sc_Waiting_now (fun _ _ _ _ _ _ us hl => match us, hl with | [_, _, _], _ => rfl) (fun vs H Q E h => ?_) (fun f cdv A outer s H vs Q E hr h => ?_)
  · obtain ⟨x, hx, a, _⟩ := h
    obtain ⟨v0, v1, v2, rfl, _⟩ := a3o a
    rfl
  · obtain ⟨x, hx, a, k⟩ := h
    obtain ⟨v0, v1, v2, rfl, p0, p1, p2⟩ := a3o a
    have hu := hu_of hr
    refine ⟨_, pss_cons (ps_set (i := 3) sc_Waiting_now.nd rfl (Or.inl rfl) (pe_dget hu (pe_fldK K (pv 0)) (pv 1) (fun _ _ => rfl)))
      (pss_cons (ps_if (pt_cmpR op_eq (pe_op op_mod (pe_callB (id := "sum") (cr_sumK K rfl) (by rfl) T.b_sum (by decide +kernel) (pa_cons (pe_lc (own := [("other", 4)]) rfl sc_Waiting_now.nd (pi_seqK K (pe_dget hu (pe_fldK K (pv 0)) (pv 1) (fun _ _ => rfl))) (blkOk_by (N := N_Waiting_now) (sc := defScope s_Waiting_now) (own := [("other", 4)]) (by decide +kernel)) (fun _ _ _ _ _ => pg_name (i := 4) sc_Waiting_now.nd rfl (Or.inl rfl)) (fun _ _ _ _ _ => pts_nil) (fun _ _ _ _ _ => pe_ix (ix_seqK K) (pv 2) (pv 4) (fun _ _ => rfl))) (pa_nil))) (pe_int)) (pe_int) (nomark _)) (pss_one (ps_set (i := 3) sc_Waiting_now.nd rfl (Or.inl rfl) (pe_un un_neg (pv 3)))) (pss_nil))
      (pss_one (ps_ret (pe_op op_mod (pe_op op_add (pv 3) (pe_op op_mul (pe_gc rfl T.g_HALF) (pe_callB (id := "sum") (cr_sumK K rfl) (by rfl) T.b_sum (by decide +kernel) (pa_cons (pe_lc (own := [("other", 4)]) rfl sc_Waiting_now.nd (pi_seqK K (pe_dget hu (pe_fldK K (pv 0)) (pv 1) (fun _ _ => rfl))) (blkOk_by (N := N_Waiting_now) (sc := defScope s_Waiting_now) (own := [("other", 4)]) (by decide +kernel)) (fun _ _ _ _ _ => pg_name (i := 4) sc_Waiting_now.nd rfl (Or.inl rfl)) (fun _ _ _ _ _ => pts_nil) (fun _ _ _ _ _ => pe_ix (ix_seqK K) (pv 2) (pv 4) (fun _ _ => rfl))) (pa_nil))))) (pe_gc rfl T.g_ROUND))))), ?_⟩
    obtain ⟨x, t, falls⟩ := x
    obtain ⟨ho, hx1, hs1, hx2, hs2, f1⟩ := hx
    dsimp only at ho hx1 hs1 hx2 hs2 f1 p0 p1 p2
    obtain ⟨tr, htr⟩ := Option.isSome_iff_exists.mp ho
    have rx := hx2 (x.ex.getD t []) (List.mem_of_getElem? (getD_nil hx1))
    have rs := hs2 (x.sg.getD t []) (List.mem_of_getElem? (getD_nil hs1))
    have bs := sumF_le f1 (x.sg.getD t [])
    have wt : ∀ {H'}, Ex H H' → vW c x v0 H' := fun e => mWt _ _ _ e p0
    refine q_set (P := vI (dN tr)) (e_dget (w_own T (ep_var rfl mWt p0)) (ei_var rfl p1) (by rw [getA_enc, htr]; rfl)) fun v3 H1 e1 pv => ?_
    cases Im.isInt pv
    have sum_ : ∀ {row : List Nat} {te : TE} {j : Nat} {o4 : Option V} {v3 : V} {H2 : Hp}, j = 4 → Ex H H2 → (row.length ≤ 50000 ∧ ∀ o ∈ row, o < falls.length) → EvP te [some v0, some v1, some v2, some v3, o4] H2 (vL (row.map dN)) → EvP (tCB (rSum K) (tCons (tLc (iSeq K te) (gName 4) tYes (tOp (rIx K) (tVar 2) (tVar 4)) [4]) tNil)) [some v0, some v1, some v2, some v3, o4] H2 (vI (.int (sumF falls row))) := fun {row te j o4 v3 H2} _ e2 hr h => e_sum (xs := row) (f := fun o => ((falls.getD o 0 : Nat) : Int)) (lc_N1 (enc := dN) (fun o => dN (falls.getD o 0)) (src_S (vSL h)) hr.1 (fun _ => rfl) fun o y H3 m e i => e_ix (ep_var rfl (mS _) (vS_L (mL _ _ _ _ (e2.trans e) p2))) (ei_var rfl i) (getD_some (hr.2 o m)))
    refine Evl.q_ifAsg (v := .int (if sumF falls (x.ex.getD t []) % 2 = 1 then -(tr : Int) else (tr : Int))) (et_t (e_eqI (eoC (g := fun i j => i % j) (sum_ rfl e1 rx (w_ex T (ep_var rfl mWt (wt e1)) (ei_var rfl (p1.up e1)) hx1)) ec_i (by show (0 : Int) < 2; omega)) ec_i)) (fun hb => ?_) (fun hb => ?_) fun H2 e2 => ?_
    · rw [if_pos (of_decide_eq_true hb)]
      exact ei_int (eu (g := fun i => -i) (ei_var rfl pv))
    · rw [if_neg (of_decide_eq_false hb)]
      rfl
    · have e12 := e1.trans e2
      refine s_retP (P := vI (.int (nowN x t falls))) (EvP.isI (eoC (g := fun i j => i % j) (eo (g := fun i j => i + j) (ei_var rfl (.int _)) (eoC (g := fun i j => i * j) (eiI ev_c) (sum_ rfl e12 rs (w_sg T (ep_var rfl mWt (wt e12)) (ei_var rfl (p1.up e12)) hs1)) ?_)) (eiI ev_c) (by show (0 : Int) < 8; omega)) ?_) fun v H3 e p => k v H3 (e12.trans e) p
      · exact cm (by omega)
      · unfold nowN
        rw [htr]
        rfl
end
end Lk
end

section
set_option Elab.async false
set_option linter.all false
set_option maxRecDepth 100000
set_option maxHeartbeats 4000000
namespace Lk
open PySem PySem.Spec PyProof.Rows L2 Evl PySem.W C8
local macro_rules | `(tactic| walk_at "ex") => `(tactic| first | exact Ex.refl _ | assumption | (refine Ex.trans (H1 := ?g) ?a ?b; (case a => assumption); (case b => walk_at "ex")))
local macro_rules | `(tactic| walk_at "im") => `(tactic| first | assumption | exact Im.int _ | exact Im.bl _ | (refine Im.up (H := ?g) ?a ?b; (case a => assumption); (case b => walk_at "ex")))
local macro_rules | `(tactic| walk_at "ev") => `(tactic| first
  | exact ec_i | exact ec_b | exact ec_s | exact ec_n
  | (refine ei_var rfl ?_; walk_at "im")
  | (refine eo ?_ ?_ <;> walk_at "ev")
  | (refine eoB ?_ ?_ <;> walk_at "ev")
  | (refine e_eqI ?_ ?_ <;> walk_at "ev")
  | (refine e_neI ?_ ?_ <;> walk_at "ev")
  | (refine eu ?_ <;> walk_at "ev")
  | (refine e_not ?_ <;> walk_at "ev"))
section
variable {K : PySem.W.Frag} {σ : L2.St} {H : Hp} {tl te ta tb : TE} {tas : TA} {α : Type} {enc : α → PyData} {xs : List α} {g : TG} {tu : TS} {D : Ends} {j j2 : Nat}
theorem s_forI {wi : TI} {n : Nat} {Y : Nat → V → Hp → Prop} (h : SrcT wi σ H n Y)
    (k : ∀ H1, Ex H H1 → ∃ Pv : Nat → L2.St → Hp → Prop, Pv 0 σ H1 ∧
      (∀ i x σ' H' G, i < n → Tx H1 H' → Pv i σ' H' → Ex H' G → Y i x G → g x σ' G fun σ2 H2 => tu { D with nx := fun σ H => Tx H1 H ∧ Pv (i + 1) σ H, ct := fun σ H => Tx H1 H ∧ Pv (i + 1) σ H, bk := D.nx } σ2 H2) ∧
      (∀ σ' H', Tx H1 H' → Pv n σ' H' → D.nx σ' H')) : tFor wi g tu D σ H := h H (Ex.refl H) _ fun J H2 e2 hJ hS => by
  obtain ⟨Pv, p0, step, fin⟩ := k H2 e2
  refine ⟨fun i m σ' H' => m = n - i ∧ i ≤ n ∧ Tx H2 H' ∧ Pv i σ' H', ⟨_, rfl, Nat.zero_le _, Tx.refl _, p0⟩, ?_⟩
  rintro i m σ' H' ⟨rfl, hi, tx, p⟩
  by_cases lt : i < n
  · obtain ⟨go, y⟩ := hJ i H' tx lt
    refine .inr ⟨go, fun σ H => Tx H2 H ∧ Pv (i + 1) σ H, fun σ2 H3 q => ⟨_, Nat.lt_of_lt_of_le (Nat.sub_lt_sub_left lt (Nat.lt_succ_self i)) (Nat.le_refl _), rfl, lt, q.1, q.2⟩, fun x G hy => ?_⟩
    obtain ⟨ex, _, yy⟩ := y x G hy
    exact step i x σ' H' G lt tx p ex yy
  · have e : i = n := by omega
    subst e
    exact .inl ⟨hS H' tx, fin σ' H' tx p⟩
theorem q_forI {wi : TI} {tz : TS} {n : Nat} {Y : Nat → V → Hp → Prop} (h : SrcT wi σ H n Y)
    (k : ∀ H1, Ex H H1 → ∃ Pv : Nat → L2.St → Hp → Prop, Pv 0 σ H1 ∧
      (∀ i x σ' H' G, i < n → Tx H1 H' → Pv i σ' H' → Ex H' G → Y i x G → g x σ' G fun σ2 H2 => tu { D with nx := fun σ H => Tx H1 H ∧ Pv (i + 1) σ H, ct := fun σ H => Tx H1 H ∧ Pv (i + 1) σ H, bk := tz D } σ2 H2) ∧
      (∀ σ' H', Tx H1 H' → Pv n σ' H' → tz D σ' H')) : tSeq (tFor wi g tu) tz D σ H := s_forI (D := { D with nx := tz D }) h k
/-- enumerate of a tuple -/
theorem st_E (h : EvAs tas σ H (a1 (vI (.tuple (xs.map enc))))) : SrcT (iEnumT K tas) σ H xs.length (fun i x G => ∃ a, xs[i]? = some a ∧ Pr K G x (dN i) (enc a)) := fun H1 e K' q =>
  h H1 e _ fun vs H2 e2 p => by
    obtain ⟨v, _, rfl, p, rfl⟩ := p
    obtain ⟨a, ws, rfl, hp, im⟩ := p.isTup
    have len : ws.length = xs.length := by rw [im.len, List.length_map]
    refine ⟨a, ws, rfl, hp.sq, q _ H2 e2 (fun i H' e3 hi => ?_) fun H' e3 => ⟨ws, (e3 _ _ hp).sq, by omega⟩⟩
    have hi' : i < ws.length := by omega
    refine ⟨⟨ws, ws[i], (e3 _ _ hp).sq, List.getElem?_eq_getElem hi'⟩, fun x G hy => ?_⟩
    obtain ⟨t, y, rfl, ht, rfl, fx⟩ := hy
    obtain ⟨d, hd, i1⟩ := im.get (fx ws (e3 _ _ hp).sq)
    rw [List.getElem?_map, List.getElem?_eq_getElem hi] at hd
    cases hd
    exact ⟨Ex.new ht, Tx.new ht, xs[i], List.getElem?_eq_getElem hi, t, _, _, rfl, SqT.of upd_same, .int _, (i1.mv e3).mv (Tx.new ht)⟩
theorem g_pr {d e : PyData} {x : V} {Q : L2.St → Hp → Prop} (p : Pr K H x d e) (k : ∀ u w, Im H u d → Im H w e → Q ((σ.set j (some u)).set j2 (some w)) H) : gTup K 2 (gCons (gName j) (gCons (gName j2) gNil)) x σ H Q := by
  obtain ⟨p, u, w, rfl, hp, q1, q2⟩ := p
  exact ⟨p, [u, w], rfl, hp, rfl, u, [w], rfl, w, [], rfl, rfl, k u w q1 q2⟩
end
end Lk
end

section
set_option Elab.async false
set_option linter.all false
set_option maxRecDepth 100000
set_option maxHeartbeats 4000000
namespace Lk
open PySem PySem.Spec PyProof.Rows L2 Evl PySem.W C8
local macro_rules | `(tactic| walk_at "ex") => `(tactic| first | exact Ex.refl _ | assumption | (refine Ex.trans (H1 := ?g) ?a ?b; (case a => assumption); (case b => walk_at "ex")))
local macro_rules | `(tactic| walk_at "im") => `(tactic| first | assumption | exact Im.int _ | exact Im.bl _ | (refine Im.up (H := ?g) ?a ?b; (case a => assumption); (case b => walk_at "ex")))
local macro_rules | `(tactic| walk_at "ev") => `(tactic| first
  | exact ec_i | exact ec_b | exact ec_s | exact ec_n
  | (refine ei_var rfl ?_; walk_at "im")
  | (refine eo ?_ ?_ <;> walk_at "ev")
  | (refine eoB ?_ ?_ <;> walk_at "ev")
  | (refine e_eqI ?_ ?_ <;> walk_at "ev")
  | (refine e_neI ?_ ?_ <;> walk_at "ev")
  | (refine eu ?_ <;> walk_at "ev")
  | (refine e_not ?_ <;> walk_at "ev"))

section
variable {P : Program} {w : World} {K : PySem.W.Frag} {mg : Str → Option Value} {base : Heap} {c : Cs}
section
variable {σ : L2.St} {H : Hp} {ta tb : TE} {tz : TS} {D : Ends} {P : VP} {j j2 : Nat}
theorem q_parF {R : Hp → VP} (ha : EvP ta σ H P) (hb : ∀ H1, Ex H H1 → EvP tb σ H1 (R H1)) (k : ∀ a b H1 H2, Ex H H1 → Ex H1 H2 → P a H1 → R H1 b H2 → tz D ((σ.set j (some a)).set j2 (some b)) H2) : tSeq (tPar j j2 (tCons ta (tCons tb tNil))) tz D σ H :=
  ha H (Ex.refl H) _ fun a H1 e1 pa => hb H1 e1 H1 (Ex.refl _) _ fun b H2 e2 pb => ⟨a, b, rfl, k a b H1 H2 e1 e2 pa pb⟩
end
def truthsN (falls bits : List Nat) : List Nat := (falls.zip bits).map fun p => xorN p.1 p.2
def secN (x : WtD) (told falls bits : List Nat) : List (Nat × Nat) := (List.range bits.length).map fun i => (((nowN x i (truthsN falls bits) + 4 * ((bits.getD i 0 : Nat) : Int) - ((told.getD i 0 : Nat) : Int)) % 8).toNat, bits.getD i 0)
def WtOk (x : WtD) (n : Nat) : Prop := (∀ t, t < n → (getA x.own t).isSome = true) ∧ x.ex.length = n ∧ x.sg.length = n ∧ (∀ r ∈ x.ex, r.length ≤ 50000 ∧ ∀ o ∈ r, o < n) ∧ (∀ r ∈ x.sg, r.length ≤ 50000 ∧ ∀ o ∈ r, o < n)
theorem xorN_bit {a b : Nat} (ha : a < 2) (hb : b < 2) : xorN a b ≤ 1 := by
  have h1 : a = 0 ∨ a = 1 := by omega
  have h2 : b = 0 ∨ b = 1 := by omega
  rcases h1 with rfl | rfl <;> rcases h2 with rfl | rfl <;> decide
theorem WtOk.now {x : WtD} {n : Nat} (o : WtOk x n) {falls bits : List Nat} (l1 : falls.length = n) (l2 : bits.length = n) (b1 : ∀ t ∈ falls, t < 2) (b2 : ∀ t ∈ bits, t < 2) {t : Nat} (ht : t < n) : NowOk x t (truthsN falls bits) := by
  obtain ⟨o1, o2, o3, o4, o5⟩ := o
  have tl : (truthsN falls bits).length = n := by unfold truthsN; rw [List.length_map, List.length_zip]; omega
  refine ⟨o1 t ht, by omega, by omega, by rw [tl]; exact o4, by rw [tl]; exact o5, fun f m => ?_⟩
  obtain ⟨p, hp, rfl⟩ := List.mem_map.mp m
  exact xorN_bit (b1 _ (List.of_mem_zip hp).1) (b2 _ (List.of_mem_zip hp).2)
theorem ep_callM {α : Type} {pre : α → Prop} {arg : α → AV} {res : α → VP} {σ : L2.St} {H : Hp} {C : Addr} {m : Str} {E : XK} {te : TE} {ta : TA} {P : VP} {A : AV} (x : α) (hp : pre x) (h : EvP te σ H P) (mp : Mono P) (hm : ∀ v H1, P v H1 → ∃ a dx fs, v = .ref a ∧ H1 a = some (.ins C dx fs) ∧ fs.lookup m = none) (ha : EvAs ta σ H A) (arg' : ∀ v vs H1, P v H1 → A vs H1 → arg x (v :: vs) H1) :
    EvP (tMeth C m (spP pre arg res) [] E te ta) σ H (res x) := fun H1 e Q q =>
  h H1 e _ fun v H2 e2 p => by
    obtain ⟨a, dx, fs, r, h1, h2⟩ := hm v H2 p
    refine ⟨a, dx, fs, r, h1, h2, ha H2 (e.trans e2) _ fun vs H3 e3 q3 => ?_⟩
    rw [List.append_nil]
    exact ⟨x, hp, arg' v vs H3 (mp _ _ _ e3 p) q3, fun w H4 e4 r4 => q w H4 ((e2.trans e3).trans e4) r4⟩
theorem zip_bits {falls bits : List Nat} (h : falls.length = bits.length) (b1 : ∀ t ∈ falls, t < 2) (b2 : ∀ t ∈ bits, t < 2) : ∀ p ∈ falls.zip bits, p.1 < 2 ∧ p.2 < 2 := fun p m => ⟨b1 _ (List.of_mem_zip m).1, b2 _ (List.of_mem_zip m).2⟩
/-! ### secrets_for -/
abbrev sp_secrets_for : Sp := spP (fun x : WtD × List Nat × List Nat × List Nat => ∃ n, n ≤ 8 ∧ WtOk x.1 n ∧ x.2.1.length = n ∧ x.2.2.1.length = n ∧ x.2.2.2.length = n ∧ (∀ t ∈ x.2.2.1, t < 2) ∧ ∀ t ∈ x.2.2.2, t < 2) (fun x => a4 (vW c x.1) (vI (tupN x.2.1)) (vI (tupN x.2.2.1)) (vI (tupN x.2.2.2))) fun x => vI (.tuple ((secN x.1 x.2.1 x.2.2.1 x.2.2.2).map pD))
theorem c_secrets_for (T : Txt K mg c) : Cal P w K mg base 2 "secrets_for" (sp_secrets_for (c := c)) [] := by
  have c_now := c_now (P := P) (w := w) (base := base) T
  refine mkCal T.d_secrets_for sc_secrets_for (fun _ _ _ _ _ _ us hl => match us, hl with | [_, _, _, _], _ => rfl) (fun vs H Q E h => ?_) (fun f cdv A outer s H vs Q E hr h => ?_)
  · obtain ⟨x, hx, a, _⟩ := h
    obtain ⟨v0, v1, v2, v3, rfl, _⟩ := a4o a
    rfl
  · obtain ⟨x, hx, a, k⟩ := h
    obtain ⟨v0, v1, v2, v3, rfl, p0, p1, p2, p3⟩ := a4o a
    have hu := hu_of hr
    refine ⟨_, pss_cons (ps_par (i := 5) (j := 6) rfl sc_secrets_for.nd rfl rfl (by decide) rfl rfl (pa_cons (pe_lc (own := [("fall", 8), ("bit", 4)]) rfl sc_secrets_for.nd (pi_zipK K (by rfl) T.b_zip (pa_cons (pv 2) (pa_cons (pv 3) (pa_nil)))) (blkOk_by (N := N_secrets_for) (sc := defScope s_secrets_for) (own := [("fall", 8), ("bit", 4)]) (by decide +kernel)) (fun _ _ _ _ _ => pg_tupK K (n := 2) rfl (pgs_cons (pg_name (i := 8) sc_secrets_for.nd rfl (Or.inl rfl)) (pgs_cons (pg_name (i := 4) sc_secrets_for.nd rfl (Or.inl rfl)) (pgs_nil)))) (fun _ _ _ _ _ => pts_nil) (fun _ _ _ _ _ => pe_op op_xor (pv 8) (pv 4))) (pa_cons (pe_lst (pa_nil)) (pa_nil))) (by rfl))
      (pss_cons (ps_for PassesOwn.never rfl (pi_enumT K (by rfl) T.b_enumerate (pa_cons (pv 3) (pa_nil))) (pg_tupK K (n := 2) rfl (pgs_cons (pg_name (i := 7) sc_secrets_for.nd rfl (Or.inl rfl)) (pgs_cons (pg_name (i := 4) sc_secrets_for.nd rfl (Or.inl rfl)) (pgs_nil))))
      (pss_one (ps_expr (pe_bm PySem.F.plainAttrs_list PySem.F.slot_list_append PySem.F.type_list_append mt_append (pv 6) (pa_cons (pe_tupZ (pa_cons (pe_op op_mod (pe_op op_sub (pe_op op_add (pe_mt c_now hr (by decide) (pv 0) (pa_cons (pv 7) (pa_cons (pv 5) (pa_nil)))) (pe_op op_mul (pe_gc rfl T.g_HALF) (pv 4))) (pe_ix (ix_seqK K) (pv 1) (pv 7) (fun _ _ => rfl))) (pe_gc rfl T.g_ROUND)) (pa_cons (pv 4) (pa_nil)))) (pa_nil))))))
      (pss_one (ps_ret (pe_callTy (T := "tuple") (cr_tupleK K) (by rfl) T.b_tuple (by decide +kernel) (pa_cons (pv 6) (pa_nil)))))), ?_⟩
    obtain ⟨x, told, falls, bits⟩ := x
    obtain ⟨n, n8, wo, l1, l2, l3, b1, b2⟩ := hx
    dsimp only at wo l1 l2 l3 b1 b2 p0 p1 p2 p3
    refine q_parF (P := vL ((truthsN falls bits).map dN)) (R := fun H1 => vF H1 []) (EvP.isL (lc_PZ1 (xs := falls.zip bits) (e1 := fun p : Nat × Nat => dN p.1) (e2 := fun p : Nat × Nat => dN p.2) (fun p => dN (xorN p.1 p.2)) (src_Z (xs := falls) (ys := bits) (enc := dN) (enc2 := dN) (by omega) (ea1 (mI _) (ei_var rfl p2) (ea_1 (mI _) (ei_var rfl p3))) fun vs H2 a => ?_) (by rw [List.length_zip]; omega) (fun _ _ => rfl) fun p y z H2 m e i1 i2 => e_xorN (ei_var rfl i1) (ei_var rfl i2)) (by unfold truthsN; rw [List.map_map]; rfl)) (fun H1 e1 => ep_nilF) fun vt vf H1 H2 e1 e2 pt pf => ?_
    · obtain ⟨v, w, rfl, q1, q2⟩ := a2o a
      obtain ⟨q, us, rfl, t1, i1⟩ := Im.isTup q1
      obtain ⟨b, ws, rfl, t2, i2⟩ := Im.isTup q2
      exact ⟨q, b, us, ws, rfl, .inr ⟨t1.sq, t2.sq⟩, i1, i2⟩
    obtain ⟨l, ws0, rfl, nl, hl, im0⟩ := pf
    have e12 := e1.trans e2
    have fin : ∀ i, i < n → bits[i]? = some (bits.getD i 0) ∧ told[i]? = some (told.getD i 0) := fun i h => by
      rw [List.getD_eq_getElem?_getD, List.getD_eq_getElem?_getD, List.getElem?_eq_getElem (by omega), List.getElem?_eq_getElem (by omega)]
      exact ⟨rfl, rfl⟩
    refine q_forI (n := bits.length) (st_E (xs := bits) (enc := dN) (ea_1 (mI _) (ei_var rfl (p3.up e12)))) fun H3 e3 => ⟨fun i σ' H' => ∃ o4 o7 o8 ws, σ' = [some v0, some v1, some v2, some v3, o4, some vt, some (.ref l), o7, o8] ∧ Ex H1 H' ∧ H' l = some (.lst ws) ∧ ImAll H' ws (((secN x told falls bits).take i).map pD), ⟨_, _, _, ws0, rfl, e2.trans e3, e3 _ _ hl, im0.up e3⟩, ?_, ?_⟩
    · rintro i y σ' H' G hi tx ⟨o4, o7, o8, ws, rfl, eH, hl', im⟩ ex ⟨b, hb, pr⟩
      rw [l3] at hi
      obtain ⟨fb, ft⟩ := fin i hi
      rw [fb] at hb
      cases hb
      refine g_pr pr fun u w iu iw => ?_
      have eG := eH.trans ex
      have eHG := e1.trans eG
      have hlG := ex _ _ hl'
      have b8 : bits.getD i 0 < 2 := b2 _ (List.mem_of_getElem? fb)
      have sec : (secN x told falls bits)[i]? = some (((nowN x i (truthsN falls bits) + 4 * ((bits.getD i 0 : Nat) : Int) - ((told.getD i 0 : Nat) : Int)) % 8).toNat, bits.getD i 0) := by
        unfold secN
        rw [List.getElem?_map, List.getElem?_range (by omega)]
        rfl
      refine s_appP (P := vI (pD (((nowN x i (truthsN falls bits) + 4 * ((bits.getD i 0 : Nat) : Int) - ((told.getD i 0 : Nat) : Int)) % 8).toNat, bits.getD i 0))) (l := l) (ev_var rfl) hlG (ep_tup (ea_cons (EvP.isI (eoC (g := fun i j => i % j) (eo (g := fun i j => i - j) (eo (g := fun i j => i + j) (ep_callM (x, i, truthsN falls bits) (wo.now l2 l3 b1 b2 hi) (P := vW c x) (A := a2 (vI (dN i)) (vL ((truthsN falls bits).map dN))) (ep_var rfl mWt (mWt _ _ _ eHG p0)) mWt (fun v H4 p => ?_) (ea1 (mI _) (ei_var rfl iu) (ea_1 (mL _) (ep_var rfl (mL _) (mL _ _ _ _ eG pt)))) fun v vs H4 p a => ?_) (eoC (g := fun i j => i * j) (eiI ev_c) (ei_var rfl iw) (cm (by omega)))) (e_ix (ep_var rfl (mS _) (vS_I (p1.up eHG))) (ei_var rfl iu) (by rw [List.getElem?_map, ft]; rfl))) (eiI ev_c) (by show (0 : Int) < 8; omega)) (by
          have : (0 : Int) ≤ (nowN x i (truthsN falls bits) + 4 * ((bits.getD i 0 : Nat) : Int) - ((told.getD i 0 : Nat) : Int)) % 8 := Int.emod_nonneg _ (by omega)
          exact (Int.toNat_of_nonneg this).symm)) (ea_cons (ei_var rfl iw) ea_nil)) (by show 2 ≤ 100000; omega)) (by rw [im.len, List.length_map, List.length_take]; unfold secN; rw [List.length_map, List.length_range]; omega) fun v H5 e5 pv => ?_
      · obtain ⟨a, dx, vn, o, e, s, as1, as2, r, h1, _⟩ := p
        exact ⟨a, dx, _, r, h1, rfl⟩
      · obtain ⟨u1, u2, rfl, q1, q2⟩ := a2o a
        exact ⟨v, _, rfl, p, u1, _, rfl, q1, u2, _, rfl, q2, rfl⟩
      · have t5 : Tx H5 (upd H5 l (.lst (ws ++ [v]))) := Tx.lst (e5 _ _ hlG)
        refine ⟨(tx.trans (Tx.of (ex.trans e5))).trans t5, _, _, _, _, rfl, (eG.trans e5).mut nl, upd_same, ?_⟩
        rw [List.take_add_one, sec, List.map_append]
        exact (((im.up ex).up e5).mv t5).app (.cons (Im.mv t5 pv) .nil)
    · rintro σ' H' tx ⟨o4, o7, o8, ws, rfl, eH, hl', im⟩
      refine s_retP (P := vI (.tuple ((secN x told falls bits).map pD))) (e_tuple (ep_var (k := 6) rfl (mS _) (vS_L ⟨l, ws, rfl, hl', ?_⟩))) fun v H5 e p => k v H5 ((e1.trans eH).trans e) p
      have sl : (secN x told falls bits).length = bits.length := by unfold secN; rw [List.length_map, List.length_range]
      rw [← sl, List.take_length] at im
      exact im
end
end Lk
end

section
set_option Elab.async false
set_option linter.all false
set_option maxRecDepth 100000
set_option maxHeartbeats 4000000
namespace Lk
open PySem PySem.Spec PyProof.Rows L2 Evl PySem.W C8
local macro_rules | `(tactic| walk_at "ex") => `(tactic| first | exact Ex.refl _ | assumption | (refine Ex.trans (H1 := ?g) ?a ?b; (case a => assumption); (case b => walk_at "ex")))
local macro_rules | `(tactic| walk_at "im") => `(tactic| first | assumption | exact Im.int _ | exact Im.bl _ | (refine Im.up (H := ?g) ?a ?b; (case a => assumption); (case b => walk_at "ex")))
local macro_rules | `(tactic| walk_at "ev") => `(tactic| first
  | exact ec_i | exact ec_b | exact ec_s | exact ec_n
  | (refine ei_var rfl ?_; walk_at "im")
  | (refine eo ?_ ?_ <;> walk_at "ev")
  | (refine eoB ?_ ?_ <;> walk_at "ev")
  | (refine e_eqI ?_ ?_ <;> walk_at "ev")
  | (refine e_neI ?_ ?_ <;> walk_at "ev")
  | (refine eu ?_ <;> walk_at "ev")
  | (refine e_not ?_ <;> walk_at "ev"))
/-! Defs that are called where no guard stands (repr asks for that); calls by names alone; the law's own call. -/
structure FnG (P : Program) (w : World) (K : PySem.W.Frag) (mg : Str → Option Value) (base : Heap) (k : Nat) (f : Addr) (fd : FuncData) (ps : List Str) (sp : Sp) : Prop where
  long : ∀ {vs : List V} {H : Hp} {Q : VK} {E : XK}, sp vs H Q E → vs.length = ps.length
  goes : ∀ {A : Around} {outer : List Env} {s : Shared} {H : Hp} {args : Args} {us : List Value} {vs : List V} {Q : VK} {E : XK}, A.guards = some [] → Room k A → Env0 P w K mg base A outer s H → BindsTo s fd args (ps.zip us) → Vals vs us → sp vs H Q E →
    codeAny (model P w) A (.call (.ref f) args) (CR L2.CX0 outer P w H s Q E) s
section
variable {P : Program} {w : World} {K : PySem.W.Frag} {mg : Str → Option Value} {base : Heap} {f : Addr} {fd : FuncData} {N ps : List Str} {k : Nat} {sp : Sp} {x qual : Str} {params : Arguments} {body : List Stmt} {scope : Scope} {dvs : List V} {kws : List (Str × V)}
theorem fnG_mk (F : FunD K x qual params body scope dvs kws f fd) (S : FnScope N ps scope) (long : ∀ {vs : List V} {H : Hp} {Q : VK} {E : XK}, sp vs H Q E → vs.length = ps.length)
    (go : ∀ (cdv : Value) (A : Around) (outer : List Env) (s : Shared) (H : Hp) (vs : List V) (Q : VK) (E : XK), A.guards = some [] → Room k (A.deeper (envOfC qual scope s.heap.objs.size f cdv)) → sp vs H Q E →
      ∃ t, PSs (cxOf L2.CX0 P w K mg base N qual scope f cdv A outer s H E).nox body t ∧ t { nx := fun _ H' => Q .non H', rt := Q } (start N vs) H) : FnG P w K mg base (k + 1) f fd ps sp := by
  obtain ⟨oc, od, dV, kV, doc, pm, an, cdv, ct, osl, rfl, lk, hcd, _⟩ := F.ex
  refine ⟨long, ?_⟩
  intro A outer s H args us vs Q E gd hr e0 hb r h
  have here : K.In s.heap := e0.mod.kin.keeps fun b o z => (e0.bs b o z).1
  have kinds_ : ∀ y ∈ ps.zip us, scope.names.lookup y.1 = some .local ∨ (scope.names.lookup y.1 = some .cell ∧ ((cellsFrom (s.heap.objs.size + 1) scope.names []).lookup y.1).isSome = true) := by
    rintro ⟨n, v⟩ hy
    exact (S.par n (List.of_mem_zip hy).1).imp id fun q => ⟨q, PySem.W.cellsFrom_some _ _ _ (.inl q)⟩
  refine codeAny_call_function hr.depth (here _ _ lk) rfl S.co S.gen rfl (PySem.W.codeRec_of here hcd) (hb _ _ _ _ (wpAny_newFunctionEnv_cells S.kind kinds_ fun env he s1 x => ?_))
  subst he
  obtain ⟨t, ht, hq⟩ := go cdv A outer s H vs Q E gd (hr.deeper _) h
  refine ⟨(e0.mod.nolimit.keeps fun b o z => (e0.bs b o z).1).keeps x.toInCall.keep, codeAny_func (wpAny_mono (ht.nox.run [] s1 (start N vs) H _ (inv_start S hr.hd e0 (long h) r x) hq) (fun fl s' z => ?_) fun _ _ z => z)⟩
  cases fl with
  | next => obtain ⟨_, H', J, q⟩ := z; exact ⟨V.non, H', J.os, J.bare, J.base, J.hok, rfl, q⟩
  | ret u => obtain ⟨v, _, H', J, rv, q⟩ := z; exact ⟨v, H', J.os, J.bare, J.base, J.hok, rv, q⟩
  | brk => obtain ⟨_, _, _, q⟩ := z; cases q
  | cont => obtain ⟨_, _, _, q⟩ := z; cases q
end
structure CalG (P : Program) (w : World) (K : PySem.W.Frag) (mg : Str → Option Value) (base : Heap) (k : Nat) (x : Str) (sp : Sp) : Prop where
  ex : ∃ (f : Addr) (fd : FuncData) (ps : List Str), FnG P w K mg base k f fd ps sp ∧ mg x = some (.ref f) ∧ PySem.W.keepIn K (.ref f) = true ∧ Binds K fd ps []
section
variable {X : Cx} {k j : Nat} {x : Str} {sp : Sp} {p pos : Pos} {e : Expr} {es : List Expr} {t tk : TA} {kws : List Keyword} {ks ps : List Str} {f : Addr} {fd : FuncData} {E : XK}
theorem pe_cG (c : CalG X.prog X.w X.K X.mg X.base k x sp) (gd : X.A.guards = some []) (hr : Room j X.A) (hk : k ≤ j) (hg : Gl X x) (ha : PA X (e :: es) t)
    (hdb : (x == ("__debug__" : Str)) = false := by decide) (he : starEach (e :: es) X.env = (false, eval e X.env) :: starEach es X.env := by rfl) (hpl : (backTo pos (starEach es X.env)).any (·.1) = false := by rfl) :
    PE X (.Call (.Name x p) (e :: es) [] pos) (tCall sp [] C8.E0 t) := by
  obtain ⟨f, fd, ps, F, hm, kp, b⟩ := c.ex
  refine ⟨fun pins s σ H Q I h => wpAny_Call_Name_kw (ld_glob I hg hm (PySem.W.callWith_K (h₀ := X.base) I.ok.mod.kin kp (thn (ha.run pos pins s σ H _ I h) fun us s1 ⟨vs, H1, I1, r, q⟩ => ⟨I1.kIn, ?_⟩) he hpl) hdb)⟩
  have q : sp (vs ++ []) H1 Q C8.E0 := q
  have hl : (us ++ []).length = ps.length := by rw [List.append_nil, ← r.length, ← F.long q, List.append_nil]
  refine wpAny_call (codeAny_mono (F.goes (us := us ++ []) gd (hr.mono hk) I1.env0 (b s1 us I1.kIn hl) (r.append .nil) q) fun o s' z => ?_)
  match o, z with
  | .ok (.ret u), z => exact I1.after z
/-- f(k = v, ..), nothing by position -/
def tCallKw (sp : Sp) (gV : List V → List V) (m : Nat) (tk : TA) : TE := fun σ H Q => tk σ H fun zs H1 => zs.length = m ∧ sp (gV zs) H1 Q L2.E0
structure CalK (P : Program) (w : World) (K : PySem.W.Frag) (mg : Str → Option Value) (base : Heap) (k : Nat) (x : Str) (sp : Sp) (ks : List Str) (gV : List V → List V) : Prop where
  ex : ∃ (f : Addr) (fd : FuncData) (ps : List Str) (g : List Value → List Value → List Value), FnOk P w K mg base L2.CX0 k f fd ps sp ∧ mg x = some (.ref f) ∧ PySem.W.keepIn K (.ref f) = true ∧ KBn K fd ps 0 ks g (fun _ zs => gV zs)
theorem pe_cK {gV : List V → List V} (c : CalK X.prog X.w X.K X.mg X.base k x sp ks gV) (hr : Room j X.A) (hk : k ≤ j) (hg : Gl X x) (hkw : PK X kws tk) (hall : (backToKw pos (keywordEach kws X.env)).all (·.1.isSome) = true := by rfl) (hks : (backToKw pos (keywordEach kws X.env)).filterMap (·.1) = ks := by rfl)
    (hdb : (x == ("__debug__" : Str)) = false := by decide) (hpl : ((backTo pos (starEach [] X.env)).any (·.1) || (backToKw pos (keywordEach kws X.env)).any (·.1.isNone)) = false := by rfl) :
    PE X (.Call (.Name x p) [] kws pos) (tCallKw sp gV ks.length tk) := by
  obtain ⟨f, fd, ps, g, F, hm, kp, b⟩ := c.ex
  refine ⟨fun pins s σ H Q I h => wpAny_Call_Name_kw (ld_glob I hg hm (PySem.W.callWith_KW0 (h₀ := X.base) I.ok.mod.kin kp hall (thn (hkw.run pos pins s σ H _ I h) fun ws s2 ⟨zs, H2, I2, rz, l2, q2⟩ => ⟨I2.kIn, ?_⟩) hpl) hdb)⟩
  rw [hks]
  exact run_fnN (us := []) (vs := []) F (hr.mono hk) b L2.pass0 I2 .nil rz rfl l2 q2
end
/-- the law's call, its def promised where no guard stands -/
theorem law_callG {P : Program} {w : World} {K : PySem.W.Frag} {mg mb : Str → Option Value} {k : Nat} {fa a : Addr} {fd : FuncData} {x : Str} {sp : Sp} {s₁ : Shared} {vs : List Value} {ns : List Int} (KX : K.In s₁.heap) (hns : s₁.heap.Ns mainGlobals mg) (hb : s₁.heap.Ns builtinsNs mb)
    (hbb : ∀ x : Str, x ≠ "__name__" → mb x = bootBuiltins x) (hlim : s₁.heap.NoLimit) (hg : s₁.gens = #[]) (ha : s₁.heap.get? a = some { cls := .type "list", data := .seq vs.toArray }) (hi : IntsAre vs ns) (hl : ns.length ≤ sizeLine) (hr : Room k callerA)
    (F : ∀ base : Heap, K.In base → base.Ns mainGlobals mg → FnG P w K mg base k fa fd [x] sp) (hbind : ∀ (s : Shared) (u : Value), BindsTo s fd ⟨[u], []⟩ [(x, u)]) (hsp : ∀ H : Hp, Only H → SqL K H a (ns.map V.int) → sp [.ref a] H (fun v _ => v = .bl true) fun _ _ _ => False) :
    codeAny (model P w) callerA (.call (.ref fa) ⟨[.ref a], []⟩) (fun r s' => r = .ok (.ret (.bool true)) ∧ OldK s₁.heap s'.heap ∧ s'.os = s₁.os ∧ AllBare s'.gens) s₁ := by
  have rv : Vals (ns.map V.int) vs := vals_ints hi
  have core : ∀ H : Hp, Only H → SqL K H a (ns.map V.int) → HOk P w H s₁.heap → (∀ b u, H b = some u → b = a) → (∀ u, H a = some u → K.lookup a = none) → codeAny (model P w) callerA (.call (.ref fa) ⟨[.ref a], []⟩) (fun r s' => r = .ok (.ret (.bool true)) ∧ OldK s₁.heap s'.heap ∧ s'.os = s₁.os ∧ AllBare s'.gens) s₁ := fun H hO hS hok hA hK => by
    have noDict : ∀ {b : Addr} {o : Obj} {es : Array DictEntry} {ep : Nat}, s₁.heap.get? b = some o → o.data = .dict es ep → H b = none := fun {b o es ep} e d => by
      match q : H b with
      | none => rfl
      | some u =>
        rw [hA b u q, ha] at e
        cases e
        cases d
    have nsK : ∀ {b : Addr} {m : Str → Option Value}, s₁.heap.Ns b m → (hidT s₁.heap H).Ns b m := fun {b m} z => by
      obtain ⟨o, es, ep, e, d, r⟩ := z
      exact ⟨o, es, ep, hidT_get e (noDict e d), d, r⟩
    have hKb : K.In (hidT s₁.heap H) := fun b o e => hidT_get (KX b o e) (by
      match q : H b with
      | none => rfl
      | some u =>
        have e2 := hA b u q
        rw [e2] at q e
        rw [hK u q] at e
        cases e)
    obtain ⟨mc, m1, m2⟩ := hlim
    have e0 : Env0 P w K mg (hidT s₁.heap H) callerA [] s₁ H := ⟨rfl, ⟨hKb, nsK hns, ⟨mb, nsK hb, hbb⟩, ⟨mc, nsK m1, m2⟩⟩, fun b o e => of_hidT e, Nat.le_of_eq (hidT_size _ _), trivial, (fun b hb => nomatch hb), hok, .of_eq hg⟩
    refine codeAny_mono ((F _ hKb (nsK hns)).goes (us := [.ref a]) (vs := [.ref a]) rfl hr e0 (hbind s₁ (.ref a)) (.cons rfl .nil) (hsp H hO hS)) fun r s' h => ?_
    match r, h with
    | .ok (.ret u), ⟨v, H', os, bare, un, hok', r', (q : v = .bl true)⟩ =>
      subst q
      have isTrue : u = Value.bool true := r'
      subst isTrue
      refine ⟨rfl, OldK.of_keep fun b o e => ?_, os, bare⟩
      match q : H b with
      | none => exact un.keep b o e q (fun z => nomatch z) (by simp)
      | some u =>
        obtain z | ⟨ob, xs, z⟩ := hO b
        · rw [q] at z; cases z
        · obtain ⟨e1, _⟩ := hok b _ z
          obtain ⟨e2, _⟩ := hok' b _ (un.frzs b ob _ z)
          rw [e] at e1; cases e1
          exact e2
  match hk : K.lookup a with
  | some o =>
    have e := (KX a o hk).symm.trans ha
    cases e
    exact core (fun _ => none) (fun _ => .inl rfl) (.inr ⟨_, vs.toArray, _, hk, rfl, rfl, rfl, by rw [List.size_toArray, hi.length]; exact hl, by simpa using rv⟩) (fun b u z => nomatch (show (none : Option HO) = some u from z)) (fun b u z => nomatch (show (none : Option HO) = some u from z)) fun u z => nomatch (show (none : Option HO) = some u from z)
  | none =>
    have at_ : ∀ {b : Addr} {u : HO}, (if b = a then some (HO.frz { cls := .type "list", data := .seq vs.toArray } (.lst (ns.map V.int))) else none) = some u → b = a ∧ u = HO.frz { cls := .type "list", data := .seq vs.toArray } (.lst (ns.map V.int)) := fun {b u} z => by
      by_cases h : b = a
      · rw [if_pos h] at z; cases z; exact ⟨h, rfl⟩
      · rw [if_neg h] at z; cases z
    refine core (fun b => if b = a then some (.frz { cls := .type "list", data := .seq vs.toArray } (.lst (ns.map V.int))) else none) (fun b => ?_) (.inl (.inr ⟨{ cls := .type "list", data := .seq vs.toArray }, if_pos rfl⟩)) (fun b u z => ?_) (fun b u z => (at_ z).1) fun _ _ => hk
    · by_cases h : b = a
      · exact .inr ⟨_, _, if_pos h⟩
      · exact .inl (if_neg h)
    · obtain ⟨rfl, rfl⟩ := at_ z
      refine ⟨ha, ?_, vs, _, rv, ha⟩
      rw [List.length_map]
      exact hl
theorem walk_ofG {l : PySem.W.OpenLaw} {n k : Nat} {q : Program} {loose : List Str} {XP : (Str → Option Value) → Heap → Prop} {YP : World → Heap → Prop} {d : DefRec} {x : Str} (hn : l.most = some n) (hn2 : n ≤ sizeLine) (hdf : d.params.defaults = []) (hr : Room k callerA)
    (F : ∀ (w : World) (mg : Str → Option Value) (fa : Addr) (h : Heap), YP w h → h.Ns mainGlobals mg → mg d.name = some (.ref fa) → ∃ (K : PySem.W.Frag) (fd : FuncData) (sp : Sp), K.In h ∧ (∀ (s : Shared) (u : Value), BindsTo s fd ⟨[u], []⟩ [(x, u)]) ∧
        (∀ (H : Hp) (a : Addr) (ns : List Int), ns.length ≤ n → Only H → SqL K H a (ns.map V.int) → sp [.ref a] H (fun v _ => v = .bl true) fun _ _ _ => False) ∧ ∀ base : Heap, K.In base → base.Ns mainGlobals mg → FnG l.prog w K mg base k fa fd [x] sp) :
    PySem.W.WalkO q loose XP YP l.row.toRowW d [] (fun f vs => PySem.call f vs) := Att.attach_call hn hdf fun w s₀ s₁ mg mb fa o pm cd doc a vs ns G Y ho hd hcd hmg hobj hints hlen hg => by
  obtain ⟨K, fd, sp, KX, hb, ask, hF⟩ := F w mg fa _ Y G.T.g hmg
  exact law_callG KX G.T.g G.T.b G.T.builtins G.T.nolimit hg hobj hints (Nat.le_trans hlen hn2) hr hF hb fun H hO hS => ask H a ns hlen hO hS
/-! Promises with their parameters told. -/
structure CalS (P : Program) (w : World) (K : PySem.W.Frag) (mg : Str → Option Value) (base : Heap) (k : Nat) (x name : Str) (st : Stmt) (ps : List Str) (sp : Sp) : Prop where
  ex : ∃ f fd, FunD K name name (defArgs st) (defBody st) (defScope st) [] [] f fd ∧ mg x = some (.ref f) ∧ Binds K fd ps [] ∧ FnOk P w K mg base L2.CX0 k f fd ps sp
structure CalGS (P : Program) (w : World) (K : PySem.W.Frag) (mg : Str → Option Value) (base : Heap) (k : Nat) (x name : Str) (st : Stmt) (ps : List Str) (sp : Sp) : Prop where
  ex : ∃ f fd, FunD K name name (defArgs st) (defBody st) (defScope st) [] [] f fd ∧ mg x = some (.ref f) ∧ Binds K fd ps [] ∧ FnG P w K mg base k f fd ps sp
section
variable {P : Program} {w : World} {K : PySem.W.Frag} {mg : Str → Option Value} {base : Heap} {x name : Str} {st : Stmt} {N ps ks : List Str} {k : Nat} {sp : Sp}
theorem mkCalS (D : Df K mg x name st []) (S : FnScope N ps (defScope st)) (hb : ∀ (kV doc pm : Value) (an : Option Addr) (cdv ct : Value) (us : List Value), us.length = ps.length → bindArgs (PySem.W.fnOf name name (defArgs st) (defBody st) (defScope st) .none kV doc pm an cdv ct) ⟨us, []⟩ = pure (ps.zip us))
    (len : ∀ vs H Q E, sp vs H Q E → vs.length = ps.length) (go : ∀ (f : Addr) (cdv : Value) (A : Around) (outer : List Env) (s : Shared) (H : Hp) (vs : List V) (Q : VK) (E : XK), Room k (A.deeper (envOfC name (defScope st) s.heap.objs.size f cdv)) → sp vs H Q E →
      ∃ t, PSs (cxOf L2.CX0 P w K mg base N name (defScope st) f cdv A outer s H E).nox (defBody st) t ∧ t { nx := fun _ H' => Q .non H', rt := Q } (start N vs) H) : CalS P w K mg base (k + 1) x name st ps sp := by
  obtain ⟨f, fd, F, m⟩ := D.ex
  exact ⟨f, fd, F, m, F.bindsN hb, F.ok S len fun cdv A outer s H vs Q E hr h => let ⟨t, a, b⟩ := go f cdv A outer s H vs Q E hr h; ⟨t, a.nox, b⟩⟩
theorem mkCalG (D : Df K mg x name st []) (S : FnScope N ps (defScope st)) (hb : ∀ (kV doc pm : Value) (an : Option Addr) (cdv ct : Value) (us : List Value), us.length = ps.length → bindArgs (PySem.W.fnOf name name (defArgs st) (defBody st) (defScope st) .none kV doc pm an cdv ct) ⟨us, []⟩ = pure (ps.zip us))
    (len : ∀ vs H Q E, sp vs H Q E → vs.length = ps.length) (go : ∀ (f : Addr) (cdv : Value) (A : Around) (outer : List Env) (s : Shared) (H : Hp) (vs : List V) (Q : VK) (E : XK), A.guards = some [] → Room k (A.deeper (envOfC name (defScope st) s.heap.objs.size f cdv)) → sp vs H Q E →
      ∃ t, PSs (cxOf L2.CX0 P w K mg base N name (defScope st) f cdv A outer s H E).nox (defBody st) t ∧ t { nx := fun _ H' => Q .non H', rt := Q } (start N vs) H) : CalGS P w K mg base (k + 1) x name st ps sp := by
  obtain ⟨f, fd, F, m⟩ := D.ex
  exact ⟨f, fd, F, m, F.bindsN hb, fnG_mk F S (fun {vs H Q E} => len vs H Q E) fun cdv A outer s H vs Q E gd hr h => go f cdv A outer s H vs Q E gd hr h⟩
theorem CalS.cal (c : CalS P w K mg base k x name st ps sp) : Cal P w K mg base k x sp [] := by
  obtain ⟨f, fd, F, m, b, G⟩ := c.ex
  exact ⟨f, fd, ps, [], G, m, F.kp, b, .nil⟩
theorem CalGS.cal (c : CalGS P w K mg base k x name st ps sp) : CalG P w K mg base k x sp := by
  obtain ⟨f, fd, F, m, b, G⟩ := c.ex
  exact ⟨f, fd, ps, G, m, F.kp, b⟩
theorem CalS.kw {g : List Value → List Value} {gV : List V → List V} (c : CalS P w K mg base k x name st ps sp) (rel : ∀ {zs : List V} {ws : List Value}, Vals zs ws → Vals (gV zs) (g ws))
    (hk : ∀ (kV doc pm : Value) (an : Option Addr) (cdv ct : Value) (ws : List Value), ws.length = ks.length → bindArgs (PySem.W.fnOf name name (defArgs st) (defBody st) (defScope st) .none kV doc pm an cdv ct) ⟨[], ks.zip ws⟩ = pure (ps.zip (g ws))) : CalK P w K mg base k x sp ks gV := by
  obtain ⟨f, fd, F, m, b, G⟩ := c.ex
  refine ⟨f, fd, ps, fun _ ws => g ws, G, m, F.kp, ⟨fun s us ws _ l1 l2 => ?_, fun _ r => rel r⟩⟩
  obtain ⟨oc, od, dV, kV, doc, pm, an, cdv, ct, osl, rfl, _, _, hD, _⟩ := F.ex
  obtain rfl : us = [] := List.eq_nil_of_length_eq_zero l1
  rcases hD with ⟨_, rfl⟩ | ⟨e, _⟩
  · exact .of_eq (hk kV doc pm an cdv ct ws l2)
  · exact absurd rfl e
end
end Lk
end

section
set_option Elab.async false
set_option linter.all false
set_option maxRecDepth 100000
set_option maxHeartbeats 4000000
namespace Lk
open PySem PySem.Spec PyProof.Rows L2 Evl PySem.W C8
local macro_rules | `(tactic| walk_at "ex") => `(tactic| first | exact Ex.refl _ | assumption | (refine Ex.trans (H1 := ?g) ?a ?b; (case a => assumption); (case b => walk_at "ex")))
local macro_rules | `(tactic| walk_at "im") => `(tactic| first | assumption | exact Im.int _ | exact Im.bl _ | (refine Im.up (H := ?g) ?a ?b; (case a => assumption); (case b => walk_at "ex")))
local macro_rules | `(tactic| walk_at "ev") => `(tactic| first
  | exact ec_i | exact ec_b | exact ec_s | exact ec_n
  | (refine ei_var rfl ?_; walk_at "im")
  | (refine eo ?_ ?_ <;> walk_at "ev")
  | (refine eoB ?_ ?_ <;> walk_at "ev")
  | (refine e_eqI ?_ ?_ <;> walk_at "ev")
  | (refine e_neI ?_ ?_ <;> walk_at "ev")
  | (refine eu ?_ <;> walk_at "ev")
  | (refine e_not ?_ <;> walk_at "ev"))

section
variable {P : Program} {w : World} {K : PySem.W.Frag} {mg : Str → Option Value} {base : Heap} {c : Cs}
abbrev wayD (w : List (Nat × Nat)) : PyData := .tuple (w.map pD)
theorem alike_way : ∀ xs ys : List (Nat × Nat), alikeAll (xs.map pD) (ys.map pD) = true
  | [], _ => by simp [alikeAll]
  | _ :: _, [] => by simp [alikeAll]
  | x :: xs, y :: ys => by
    rw [List.map_cons, List.map_cons]
    unfold alikeAll
    rw [alike_way xs ys, Bool.and_true]
    simp [alike, alikeAll]
theorem depth_way (w : List (Nat × Nat)) : (wayD w).depth ≤ 8 := by
  have go : ∀ w : List (Nat × Nat), PyData.depthAll (w.map pD) ≤ 1 := fun w => by
    induction w with
    | nil => simp [PyData.depthAll]
    | cons a r ih =>
      rw [List.map_cons]
      unfold PyData.depthAll
      have : (pD a).depth = 1 := by simp [PyData.depth, PyData.depthAll]
      omega
  have := go w
  unfold PyData.depth
  omega
theorem e_sortW {σ : L2.St} {H : Hp} {te : TE} {ws : List (List (Nat × Nat))} (h : EvP te σ H (vS (ws.map wayD))) (ne : ∀ w ∈ ws, w ≠ []) (hl : ws.length ≤ 1000) : EvP (tCB rSortD (tCons te tNil)) σ H (vL (sortD (ws.map wayD))) := by
  refine e_sorted h ?_ (.inl fun d m => ?_) (by rw [List.length_map]; exact hl) fun d m => ?_
  · exact AllAlike.of fun a b => by
      show alike (.tuple (a.map pD)) (.tuple (b.map pD)) = true
      unfold alike
      exact alike_way a b
  · obtain ⟨w, hw, rfl⟩ := List.mem_map.mp m
    cases w with
    | nil => exact absurd rfl (ne _ hw)
    | cons a r => exact ⟨_, _, rfl⟩
  · obtain ⟨w, hw, rfl⟩ := List.mem_map.mp m
    exact depth_way w
def bitsOf (n k : Nat) : List Nat := (List.range n).map fun t => k / 2 ^ t &&& 1
def wtN (x : NetD) (p : PapD) : WtD := ⟨ownN x, (waitN x p.lots).1, (waitN x p.lots).2⟩
def waysU (x : NetD) (p : PapD) (told falls : List Nat) : List (List (Nat × Nat)) := (List.range (2 ^ x.n)).map fun k => secN (wtN x p) told falls (bitsOf x.n k)
theorem bitsOf_lt (n k : Nat) : ∀ b ∈ bitsOf n k, b < 2 := fun b m => by
  obtain ⟨t, _, rfl⟩ := List.mem_map.mp m
  have := Nat.and_le_right (n := k / 2 ^ t) (m := 1)
  omega
theorem bitsOf_len (n k : Nat) : (bitsOf n k).length = n := by unfold bitsOf; rw [List.length_map, List.length_range]
structure WaysOk (x : NetD) (p : PapD) (told falls : List Nat) : Prop where
  ok : x.Ok
  pok : PapOk x p
  wok : WOk x p
  wt : WtOk (wtN x p) x.n
  l1 : told.length = x.n
  l2 : falls.length = x.n
  t8 : ∀ t ∈ told, t < 8
  f2 : ∀ t ∈ falls, t < 2
/-! ### ways_to -/
abbrev sp_ways_to : Sp := spP (fun x : NetD × PapD × List Nat × List Nat => WaysOk x.1 x.2.1 x.2.2.1 x.2.2.2) (fun x => a4 (vNet c x.1) (vPap c x.2.1) (vS (x.2.2.1.map dN)) (vS (x.2.2.2.map dN))) fun x => vI (.tuple (sortD ((waysU x.1 x.2.1 x.2.2.1 x.2.2.2).map wayD)))
theorem s_ways_to_ok (T : Txt K mg c) : CalS P w K mg base 7 "ways_to" "ways_to" s_ways_to ["net", "paper", "told", "falls"] (sp_ways_to (c := c)) := by
  have c_Waiting := c_Waiting (P := P) (w := w) (base := base) T
  have c_need_falls := c_need_falls (P := P) (w := w) (base := base) T
  have c_need_lots := c_need_lots (P := P) (w := w) (base := base) T
  have c_need_net := c_need_net (P := P) (w := w) (base := base) T
  have c_need_net1 := c_need_net1 (P := P) (w := w) (base := base) T
  have c_need_nothing_given := c_need_nothing_given (P := P) (w := w) (base := base) T
  have c_need_told := c_need_told (P := P) (w := w) (base := base) T
  have c_secrets_for := c_secrets_for (P := P) (w := w) (base := base) T
  refine mkCalS T.d_ways_to sc_ways_to (fun _ _ _ _ _ _ us hl => match us, hl with | [_, _, _, _], _ => rfl) (fun vs H Q E h => ?_) (fun f cdv A outer s H vs Q E hr h => ?_)
  · obtain ⟨x, hx, a, _⟩ := h
    obtain ⟨v0, v1, v2, v3, rfl, _⟩ := a4o a
    rfl
  · obtain ⟨x, hx, a, k⟩ := h
    obtain ⟨v0, v1, v2, v3, rfl, p0, p1, p2, p3⟩ := a4o a
    have hu := hu_of hr
    refine ⟨_, pss_cons (ps_expr (pe_c c_need_net hr (by decide) (by rfl) (pa_cons (pv 0) (pa_cons (pe_str) (pa_nil)))))
      (pss_cons (ps_expr (pe_c c_need_lots hr (by decide) (by rfl) (pa_cons (pv 0) (pa_cons (pv 1) (pa_cons (pe_str) (pa_nil))))))
      (pss_cons (ps_asg (pe_tupZ (pa_cons (pe_c c_need_told hr (by decide) (by rfl) (pa_cons (pv 2) (pa_cons (pe_fldK K (pv 0)) (pa_nil)))) (pa_cons (pe_c c_need_falls hr (by decide) (by rfl) (pa_cons (pv 3) (pa_cons (pe_fldK K (pv 0)) (pa_nil)))) (pa_nil)))) (pg_tupK K (n := 2) rfl (pgs_cons (pg_name (i := 4) sc_ways_to.nd rfl (Or.inr rfl)) (pgs_cons (pg_name (i := 5) sc_ways_to.nd rfl (Or.inr rfl)) (pgs_nil)))))
      (pss_cons (ps_expr (pe_c c_need_nothing_given hr (by decide) (by rfl) (pa_cons (pv 0) (pa_nil))))
      (pss_cons (ps_if (pt_cmpR op_gt (pe_fldK K (pv 0)) (pe_gc rfl T.g_MOST_THINGS_ways) (nomark _)) (pss_one (ps_never)) (pss_nil))
      (pss_cons (ps_asg (pe_tupZ (pa_cons (pe_mk c_Waiting hr (by decide) (by rfl) (pa_cons (pv 0) (pa_cons (pv 1) (pa_nil)))) (pa_cons (pe_fldK K (pv 0)) (pa_nil)))) (pg_tupK K (n := 2) rfl (pgs_cons (pg_name (i := 6) sc_ways_to.nd rfl (Or.inr rfl)) (pgs_cons (pg_name (i := 7) sc_ways_to.nd rfl (Or.inr rfl)) (pgs_nil)))))
      (pss_cons (ps_setLc (i := 8) (own := [("number", 9)]) rfl sc_ways_to.nd rfl rfl (sw_true rfl rfl rfl (by decide +kernel)) (pi_range1 (by rfl) T.b_range (pa_cons (pe_op op_shl (pe_int) (pv 7)) (pa_nil))) (blkOk_by (N := N_ways_to) (sc := defScope s_ways_to) (own := [("number", 9)]) (by decide +kernel)) (fun _ _ _ _ _ => pg_name (i := 9) sc_ways_to.nd rfl (Or.inr rfl)) (fun _ _ _ _ _ => pts_nil) (fun _ _ _ _ _ => pe_callTy (T := "tuple") (cr_tupleK K) (by rfl) T.b_tuple (by decide +kernel) (pa_cons (pe_lc (own := [("thing", 10)]) rfl sc_ways_to.nd (pi_range1 (by rfl) T.b_range (pa_cons (pv 7) (pa_nil))) (blkOk_by (own := [("thing", 10)]) (by rfl)) (fun _ _ _ _ _ => pg_name (i := 10) sc_ways_to.nd rfl (Or.inl rfl)) (fun _ _ _ _ _ => pts_nil) (fun _ _ _ _ _ => pe_op op_and (pe_op op_shr (pv 9) (pv 10)) (pe_int))) (pa_nil))))
      (pss_one (ps_ret (pe_callTy (T := "tuple") (cr_tupleK K) (by rfl) T.b_tuple (by decide +kernel) (pa_cons (pe_callB (id := "sorted") (cr_sortD hr) (by rfl) T.b_sorted (by decide +kernel) (pa_cons (pe_lc (own := [("bits", 11)]) rfl sc_ways_to.nd (pi_seqK K (pv 8)) (blkOk_by (N := N_ways_to) (sc := defScope s_ways_to) (own := [("bits", 11)]) (by decide +kernel)) (fun _ _ _ _ _ => pg_name (i := 11) sc_ways_to.nd rfl (Or.inl rfl)) (fun _ _ _ _ _ => pts_nil) (fun _ _ _ _ _ => pe_c c_secrets_for hr (by decide) (by rfl) (pa_cons (pv 6) (pa_cons (pv 4) (pa_cons (pv 5) (pa_cons (pv 11) (pa_nil))))))) (pa_nil))) (pa_nil))))))))))), ?_⟩
    obtain ⟨x, p, told, falls⟩ := x
    obtain ⟨ok, pok, wok, wt, l1, l2, t8, f2⟩ := hx
    dsimp only at ok pok wok wt l1 l2 t8 f2 p0 p1 p2 p3
    have n4 := ok.n4
    have n1 := ok.n1
    have net : ∀ {H'}, Ex H H' → vNet c x v0 H' := fun e => mO _ _ _ _ _ e p0
    have pap : ∀ {H'}, Ex H H' → vPap c p v1 H' := fun e => mO _ _ _ _ _ e p1
    refine q_drop (P := vI .none) (ep_callF x (ea1 (mO _ _) (ep_var rfl (mO _ _) p0) (ea_1 (mI _) ec_s))) fun _ H1 e1 _ => ?_
    refine q_drop (P := vI .none) (ep_callP (x, p) ⟨ok, pok⟩ (ea1 (mO _ _) (ep_var rfl (mO _ _) (net e1)) (ea1 (mO _ _) (ep_var rfl (mO _ _) (pap e1)) (ea_1 (mI _) ec_s)))) fun _ H2 e2 _ => ?_
    have e12 := e1.trans e2
    refine q_unp (ep_pair (P := vI (tupN told)) (R := vI (tupN falls)) (ep_callP (told, x.n) ⟨l1, by show x.n < 64; omega, t8⟩ (ea1 (mS _) (ep_var rfl (mS _) (mS _ _ _ _ e12 p2)) (ea_1 (mI _) (n_things T (ep_var rfl (mO _ _) (net e12)))))) (ep_callP (falls, x.n) ⟨l2, by show x.n < 64; omega, f2⟩ (ea1 (mS _) (ep_var rfl (mS _) (mS _ _ _ _ e12 p3)) (ea_1 (mI _) (n_things T (ep_var rfl (mO _ _) (net e12)))))) (mI _) (mI _)) fun vt vf H3 e3 pt pf => ?_
    have e13 := e12.trans e3
    refine q_drop (P := vI .none) (ep_callF x (ea_1 (mO _ _) (ep_var rfl (mO _ _) (net e13)))) fun _ H4 e4 _ => ?_
    have e14 := e13.trans e4
    refine q_if (et_isb (et_t (eoB (n_things T (ep_var rfl (mO _ _) (net e14))) (eiI ev_c))) (by simp; omega)) fun H5 e5 => ?_
    have e15 := e14.trans e5
    refine q_unp (ep_pair (P := vW c (wtN x p)) (R := vI (dN x.n)) (ep_mkW x p ⟨ok, wok⟩ (ea1 (mO _ _) (ep_var rfl (mO _ _) (net e15)) (ea_1 (mO _ _) (ep_var rfl (mO _ _) (pap e15))))) (n_things T (ep_var rfl (mO _ _) (net e15))) mWt (mI _)) fun vw vn H6 e6 pw pn => ?_
    have e35 := (e4.trans e5).trans e6
    have pz : 2 ^ x.n ≤ 16 := Nat.pow_le_pow_right (by omega) n4
    refine q_set (P := vL (((List.range (2 ^ x.n)).map (bitsOf x.n)).map tupN)) (EvP.isL (lc_N1 (enc := dN) (fun k => tupN (bitsOf x.n k)) (src_rng (src_R1 (ea_1 (mI _) (e_shl1 (ei_var rfl pn) (by omega))) (by omega))) (by rw [List.length_range]; omega) (fun _ => rfl) fun k y H7 m e i => e_tuple (vSL (EvP.isL (lc_N1 (enc := dN) (fun t => dN (k / 2 ^ t &&& 1)) (src_rng (src_R1 (ea_1 (mI _) (ei_var rfl (pn.up e))) (by omega))) (by rw [List.length_range]; omega) (fun _ => rfl) fun t z H8 m2 e8 i2 => e_andN (e_shrN (ei_var rfl (i.up e8)) (ei_var rfl i2)) ec_i) (by unfold bitsOf; rw [List.map_map]; rfl)))) (by rw [List.map_map]; rfl)) fun vr H7 e7 pr => ?_
    have e37 := e35.trans e7
    refine s_retP (P := vI (.tuple (sortD ((waysU x p told falls).map wayD)))) (e_tuple (vSL (e_sortW (ws := waysU x p told falls) (vSL (EvP.isL (lc_N1 (xs := (List.range (2 ^ x.n)).map (bitsOf x.n)) (enc := tupN) (fun b => wayD (secN (wtN x p) told falls b)) (src_S (ep_var rfl (mS _) (vS_L pr))) (by rw [List.length_map, List.length_range]; omega) (fun _ => rfl) fun b y H8 m e i => ?_) (by unfold waysU; rw [List.map_map, List.map_map]; rfl))) (fun w m => ?_) (by unfold waysU; rw [List.length_map, List.length_range]; omega)))) fun v H8 e p => k v H8 ((e13.trans e37).trans e) p
    · obtain ⟨kk, _, rfl⟩ := List.mem_map.mp m
      exact ep_callP (wtN x p, told, falls, bitsOf x.n kk) ⟨x.n, by omega, wt, l1, l2, bitsOf_len _ _, f2, bitsOf_lt _ _⟩ (ea1 mWt (ep_var rfl mWt (mWt _ _ _ (e7.trans e) pw)) (ea1 (mI _) (ei_var rfl (pt.up (e37.trans e))) (ea1 (mI _) (ei_var rfl (pf.up (e37.trans e))) (ea_1 (mI _) (ei_var rfl i)))))
    · obtain ⟨kk, _, rfl⟩ := List.mem_map.mp m
      intro z
      have := congrArg List.length z
      unfold secN at this
      rw [List.length_map, List.length_range, bitsOf_len, List.length_nil] at this
      omega
theorem c_ways_to (T : Txt K mg c) : Cal P w K mg base 7 "ways_to" (sp_ways_to (c := c)) [] := (s_ways_to_ok T).cal
end
end Lk
end

section
set_option Elab.async false
set_option linter.all false
set_option maxRecDepth 100000
set_option maxHeartbeats 4000000
namespace Lk
open PySem PySem.Spec PyProof.Rows L2 Evl PySem.W C8
local macro_rules | `(tactic| walk_at "ex") => `(tactic| first | exact Ex.refl _ | assumption | (refine Ex.trans (H1 := ?g) ?a ?b; (case a => assumption); (case b => walk_at "ex")))
local macro_rules | `(tactic| walk_at "im") => `(tactic| first | assumption | exact Im.int _ | exact Im.bl _ | (refine Im.up (H := ?g) ?a ?b; (case a => assumption); (case b => walk_at "ex")))
local macro_rules | `(tactic| walk_at "ev") => `(tactic| first
  | exact ec_i | exact ec_b | exact ec_s | exact ec_n
  | (refine ei_var rfl ?_; walk_at "im")
  | (refine eo ?_ ?_ <;> walk_at "ev")
  | (refine eoB ?_ ?_ <;> walk_at "ev")
  | (refine e_eqI ?_ ?_ <;> walk_at "ev")
  | (refine e_neI ?_ ?_ <;> walk_at "ev")
  | (refine eu ?_ <;> walk_at "ev")
  | (refine e_not ?_ <;> walk_at "ev"))
/-! The cells that the drawing eats. -/
/-- the law's heap h: its cells, how many were begun (at most n), what is left of a great one -/
def LH (h c : Addr) (ds : List Int) (n : Nat) (H : Hp) : Prop := h ≠ c ∧ H c = some (.lst (ds.map V.int)) ∧ ∃ (lap : Nat) (sand : Int), lap ≤ n ∧ 0 ≤ sand ∧ H h = some (.lst [.ref c, .int (lap : Nat), .int sand])
section
variable {h c : Addr} {ds : List Int} {n : Nat} {H H1 : Hp}
theorem LH.up (l : LH h c ds n H) (e : Ex H H1) : LH h c ds n H1 := by
  obtain ⟨ne, h1, lap, sand, a, b, h2⟩ := l
  exact ⟨ne, e _ _ h1, lap, sand, a, b, e _ _ h2⟩
theorem LH.le (l : LH h c ds n H) {m : Nat} (e : n ≤ m) : LH h c ds m H := by
  obtain ⟨ne, h1, lap, sand, a, b, h2⟩ := l
  exact ⟨ne, h1, lap, sand, Nat.le_trans a e, b, h2⟩
theorem LH.nt (l : LH h c ds n H) : Nt h H := fun xs t => by
  obtain ⟨_, _, lap, sand, _, _, h2⟩ := l
  obtain ⟨o, _, t⟩ := t
  rw [h2] at t
  cases t
theorem LH.tx (l : LH h c ds n H) (k : Kx h H H1) : Tx H H1 := k.tx l.nt
theorem LH.keep {a : Addr} {o : HO} (l : LH h c ds n H) (k : Kx h H H1) (e : H a = some o) (ne : ∀ lap sand, o ≠ .lst [.ref c, .int (lap : Nat), .int sand]) : H1 a = some o := k a o (fun z => by
  obtain ⟨_, _, lap, sand, _, _, h2⟩ := l
  rw [z, h2] at e
  cases e
  exact ne _ _ rfl) e
/-- facts that a draw leaves -/
def Lm (P : VP) : Prop := ∀ {h c : Addr} {ds : List Int} {n : Nat} {H H1 : Hp} {v : V}, LH h c ds n H → Kx h H H1 → P v H → P v H1
theorem lI (d : PyData) : Lm (vI d) := fun l k p => p.mv (l.tx k)
theorem cell_no {xs : List V} {es : List PyData} (l : LH h c ds n H) (im : ImAll H xs es) : ∀ lap sand, (HO.lst xs) ≠ .lst [.ref c, .int (lap : Nat), .int sand] := fun lap sand e => by
  cases e
  cases im with
  | cons i _ =>
    obtain ⟨ne, h1, _⟩ := l
    cases i with
    | tup t _ =>
      obtain ⟨o, _, t⟩ := t
      rw [h1] at t
      cases t
theorem lL (es : List PyData) : Lm (vL es) := fun l k p => by
  obtain ⟨a, xs, rfl, h1, im⟩ := p
  exact ⟨a, xs, rfl, l.keep k h1 (cell_no l im), im.mv (l.tx k)⟩
theorem lS (es : List PyData) : Lm (vS es) := fun l k p => by
  obtain ⟨a, xs, rfl, h1, im⟩ := p
  refine ⟨a, xs, rfl, ?_, im.mv (l.tx k)⟩
  rcases h1 with h1 | h1
  · exact .inl (l.keep k h1 (cell_no l im))
  · exact .inr (l.tx k _ _ h1)
theorem lO (C : Addr) (fs : List (Str × PyData)) : Lm (vO C fs) := fun l k p => by
  obtain ⟨a, dx, us, rfl, h1, im⟩ := p
  exact ⟨a, dx, us, rfl, l.keep k h1 (fun _ _ e => by cases e), im.mv (l.tx k)⟩
theorem lP {P R : VP} (p1 : Lm P) (p2 : Lm R) : Lm (vP P R) := fun l k p => by
  obtain ⟨q, a, b, rfl, h1, i1, i2⟩ := p
  exact ⟨q, a, b, rfl, l.tx k _ _ h1, p1 l k i1, p2 l k i2⟩
end
end Lk
end

section
set_option Elab.async false
set_option linter.all false
set_option maxRecDepth 100000
set_option maxHeartbeats 4000000
namespace Lk
open PySem PySem.Spec PyProof.Rows L2 Evl PySem.W C8
local macro_rules | `(tactic| walk_at "ex") => `(tactic| first | exact Ex.refl _ | assumption | (refine Ex.trans (H1 := ?g) ?a ?b; (case a => assumption); (case b => walk_at "ex")))
local macro_rules | `(tactic| walk_at "im") => `(tactic| first | assumption | exact Im.int _ | exact Im.bl _ | (refine Im.up (H := ?g) ?a ?b; (case a => assumption); (case b => walk_at "ex")))
local macro_rules | `(tactic| walk_at "ev") => `(tactic| first
  | exact ec_i | exact ec_b | exact ec_s | exact ec_n
  | (refine ei_var rfl ?_; walk_at "im")
  | (refine eo ?_ ?_ <;> walk_at "ev")
  | (refine eoB ?_ ?_ <;> walk_at "ev")
  | (refine e_eqI ?_ ?_ <;> walk_at "ev")
  | (refine e_neI ?_ ?_ <;> walk_at "ev")
  | (refine eu ?_ <;> walk_at "ev")
  | (refine e_not ?_ <;> walk_at "ev"))

section
variable {P : Program} {w : World} {K : PySem.W.Frag} {mg : Str → Option Value} {base : Heap} {c : Cs}
theorem e_abs {σ : L2.St} {H : Hp} {te : TE} {i : Int} (h : EvP te σ H (vI (.int i))) : EvP (tCB (fun xs H Q => ∃ i, xs = [V.int i] ∧ Q (.int (if i < 0 then -i else i)) H) (tCons te tNil)) σ H (vI (.int (if i < 0 then -i else i))) := ep_cb1 h fun v H1 _ p Q q => by
  cases Im.isInt p
  exact ⟨i, rfl, q _ _ (Ex.refl _) (.int _)⟩
theorem e_neLI {K : PySem.W.Frag} {σ : L2.St} {H : Hp} {ta tb : TE} {ns ms : List Int} (ha : EvP ta σ H (vL (ns.map .int))) (hb : EvP tb σ H (vL (ms.map .int))) : EvP (tOp (rNeD K) ta tb) σ H (vI (.bool (!decide (ns = ms)))) :=
  e_neT (x := ns) (y := ms) (n := 1) ha (mL _) hb (fun _ _ => dpL) (fun _ _ => dpL) (flt_l fun x _ => flt_i x) (flt_l fun x _ => flt_i x)
def sp_sift0 : Sp := fun vs H Q _ => ∃ (h c : Addr) (ds : List Int) (n m : Nat), vs = [.ref h, .int (m : Nat)] ∧ LH h c ds n H ∧ 0 < m ∧ m < 1000 ∧ n < 900000 ∧ ∀ (r : Nat) H', r < m → Kx h H H' → LH h c ds (n + 1) H' → Q (.int (r : Nat)) H'
def vLK (K : PySem.W.Frag) (ds : List PyData) : VP := fun v H => ∃ p xs, v = .ref p ∧ SqL K H p xs ∧ ImAll H xs ds
theorem mLK {K : PySem.W.Frag} (ds : List PyData) : Mono (vLK K ds) := fun _ _ _ e h => by
  obtain ⟨p, xs, a, b, c⟩ := h
  exact ⟨p, xs, a, ex_l e b, c.up e⟩
theorem e_slTo {K : PySem.W.Frag} {σ : L2.St} {H : Hp} {te tb : TE} {ds : List PyData} {k : Nat} (h : EvP te σ H (vLK K ds)) (hb : EvP tb σ H (vI (dN k))) : EvP (tSl (rSlL K) te tNoPart (tPart tb)) σ H (vL (ds.take k)) := fun H1 e Q q =>
  h H1 e _ fun v H2 e2 p => hb H2 (e.trans e2) _ fun y H3 e3 py => by
    obtain ⟨a, xs, rfl, h1, im⟩ := mLK _ _ _ _ e3 p
    refine ⟨(k : Int), Im.isInt py, a, xs, rfl, h1, fun d hd => q _ _ ((e2.trans e3).trans (Ex.new hd)) ⟨d, _, rfl, upd_same, ?_⟩⟩
    have e1 : cutV xs none (some (k : Int)) = xs.take k := by
      have h1 : HT.sIx xs.length xs.length (some (k : Int)) = min k xs.length := by
        show (if (k : Int) < 0 then ((k : Int) + (xs.length : Int)).toNat else min (k : Int).toNat xs.length) = _
        rw [if_neg (by omega), Int.toNat_natCast]
      unfold cutV
      rw [h1, show HT.sIx xs.length 0 none = 0 from rfl, List.drop_zero, Nat.sub_zero]
      by_cases z : k ≤ xs.length
      · rw [Nat.min_eq_left z]
      · rw [Nat.min_eq_right (by omega), List.take_of_length_le (Nat.le_refl _), List.take_of_length_le (by omega)]
    rw [e1]
    exact (im.take k).mv (Tx.new hd)
theorem ep_heap {σ : L2.St} {H : Hp} {tc : TE} {ds : List Int} (h : EvP tc σ H (vL (ds.map .int))) : EvP (tLst (tCons tc (tCons (tC (.int 0)) (tCons (tC (.int 0)) tNil)))) σ H (fun v H => ∃ h c, v = .ref h ∧ LH h c ds 0 H) := fun H1 e1 Q1 q1 =>
  h H1 e1 _ fun v H2 e2 p => by
    obtain ⟨cc, xs, rfl, hc, im⟩ := p
    have ne : ∀ {hh : Addr}, H2 hh = none → hh ≠ cc := fun hp z => by
      rw [z, hc] at hp
      cases hp
    refine ⟨by show 3 ≤ sizeLine; decide, fun hh hp => q1 _ _ (e2.trans (Ex.new hp)) ⟨hh, cc, rfl, ne hp, ?_, 0, 0, Nat.le_refl _, Int.le_refl _, upd_same⟩⟩
    rw [upd_ne (Ne.symm (ne hp)), ← im.ints]
    exact hc
/-! ### _law_heap -/
abbrev sp_law_heap : Sp := spF (fun ds : List Int => a1 (vLK K (ds.map .int))) fun ds => fun v H => ∃ h c, v = .ref h ∧ LH h c (ds.take 60) 0 H
theorem c_law_heap (T : Txt K mg c) : Cal P w K mg base 1 "_law_heap" (sp_law_heap (K := K)) [] := by
  refine mkCal T.d_law_heap sc_law_heap (fun _ _ _ _ _ _ us hl => match us, hl with | [_], _ => rfl) (fun vs H Q E h => ?_) (fun f cdv A outer s H vs Q E hr h => ?_)
  · obtain ⟨x, a, _⟩ := h
    obtain ⟨v0, rfl, _⟩ := a1o a
    rfl
  · obtain ⟨x, a, k⟩ := h
    obtain ⟨v0, rfl, p0⟩ := a1o a
    have hu := hu_of hr
    refine ⟨_, pss_one (ps_ret (pe_lst (pa_cons (pe_lc (own := [("_law_cell", 1)]) rfl sc_law_heap.nd (pi_seqK K (pe_slice sl_list (pv 0) (po_none) (po_some (pe_int)))) (blkOk_by (N := N_law_heap) (sc := defScope s_law_heap) (own := [("_law_cell", 1)]) (by decide +kernel)) (fun _ _ _ _ _ => pg_name (i := 1) sc_law_heap.nd rfl (Or.inl rfl)) (fun _ _ _ _ _ => pts_nil) (fun _ _ _ _ _ => pe_callTy (T := "int") call_int1 (by rfl) T.b_int (by decide +kernel) (pa_cons (pv 1) (pa_nil)))) (pa_cons (pe_int) (pa_cons (pe_int) (pa_nil)))))), ?_⟩
    exact s_retP (P := fun v H => ∃ h c, v = .ref h ∧ LH h c (x.take 60) 0 H) (ep_heap (lc_N1 (xs := x.take 60) (enc := PyData.int) PyData.int (src_S (vSL (EvP.isL (e_slTo (k := 60) (ep_var rfl (mLK _) p0) ec_i) (by rw [List.map_take])))) (by rw [List.length_take]; omega) (fun _ => rfl) fun i y H2 m e i1 => e_int (ei_var rfl i1))) fun v H1 e p => k v H1 e p
/-! ### _law_sift -/
abbrev sp_law_sift : Sp := sp_sift0
theorem c_law_sift (T : Txt K mg c) : Cal P w K mg base 1 "_law_sift" (sp_law_sift) [] := by
  refine mkCal T.d_law_sift sc_law_sift (fun _ _ _ _ _ _ us hl => match us, hl with | [_, _], _ => rfl) (fun vs H Q E h => ?_) (fun f cdv A outer s H vs Q E hr h => ?_)
  · obtain ⟨h, c, ds, n, m, rfl, _⟩ := h; rfl
  · have hu := hu_of hr
    obtain ⟨h, c, ds, n, m, rfl, ⟨ne, hc, lap, sand, lp, s0, hh⟩, m0, m1, n9, k⟩ := h
    refine ⟨_, pss_cons (ps_if (pt_cmpR op_gt (pe_ix (ix_seqK K) (pv 0) (pe_int) (fun _ _ => rfl)) (pe_int) (nomark _)) (pss_cons (ps_set (i := 2) sc_law_sift.nd rfl (Or.inl rfl) (pe_callTy (T := "int") call_int1 (by rfl) T.b_int (by decide +kernel) (pa_cons (pe_ix (ix_seqK K) (pv 0) (pe_int) (fun _ _ => rfl)) (pa_nil))))
      (pss_cons (ps_asg (pe_op op_fdiv (pv 2) (pv 1)) (pg_sub (pv 0) (pe_int) set_list))
      (pss_one (ps_ret (pe_op op_mod (pe_callTy (T := "int") call_int1 (by rfl) T.b_int (by decide +kernel) (pa_cons (pv 2) (pa_nil))) (pv 1)))))) (pss_nil))
      (pss_cons (ps_set (i := 3) sc_law_sift.nd rfl (Or.inl rfl) (pe_ix (ix_seqK K) (pv 0) (pe_int) (fun _ _ => rfl)))
      (pss_cons (ps_asg (pe_op op_add (pv 3) (pe_int)) (pg_sub (pv 0) (pe_int) set_list))
      (pss_cons (ps_set (i := 4) sc_law_sift.nd rfl (Or.inl rfl) (pe_op op_add (pe_op op_mul (pe_int) (pv 3)) (pe_int)))
      (pss_cons (ps_if (pt_cmpR (op_neDK K hr.units) (pe_ix (ix_seqK K) (pv 0) (pe_int) (fun _ _ => rfl)) (pe_lst (pa_nil)) (nomark _)) (pss_one (ps_set (i := 4) sc_law_sift.nd rfl (Or.inl rfl) (pe_ix (ix_seqK K) (pe_ix (ix_seqK K) (pv 0) (pe_int) (fun _ _ => rfl)) (pe_op op_mod (pe_callTy (T := "int") call_int1 (by rfl) T.b_int (by decide +kernel) (pa_cons (pv 3) (pa_nil))) (pe_callB (id := "len") (cr_lenK K) (by rfl) T.b_len (by decide +kernel) (pa_cons (pe_ix (ix_seqK K) (pv 0) (pe_int) (fun _ _ => rfl)) (pa_nil)))) (fun _ _ => rfl)))) (pss_nil))
      (pss_cons (ps_if ((pw_and (pt_cmpR op_lt (pv 3) (pe_callB (id := "len") (cr_lenK K) (by rfl) T.b_len (by decide +kernel) (pa_cons (pe_ix (ix_seqK K) (pv 0) (pe_int) (fun _ _ => rfl)) (pa_nil))) (nomark _)) (pw_and1 (pt_cmpR op_ge (pe_callB (id := "abs") call_abs (by rfl) T.b_abs (by decide +kernel) (pa_cons (pv 4) (pa_nil))) (pe_op op_pow (pe_int) (pe_int)) (nomark _)))).pt) (pss_cons (ps_set (i := 2) sc_law_sift.nd rfl (Or.inl rfl) (pe_op op_add (pe_op op_mul (pe_int) (pe_op op_sub (pe_callB (id := "abs") call_abs (by rfl) T.b_abs (by decide +kernel) (pa_cons (pv 4) (pa_nil))) (pe_op op_pow (pe_int) (pe_int)))) (pe_callTy (T := "int") call_int1 (by rfl) T.b_int (by decide +kernel) (pa_cons (pe_cmpR op_lt (pv 4) (pe_int) (nomark _)) (pa_nil)))))
      (pss_cons (ps_asg (pe_op op_fdiv (pv 2) (pv 1)) (pg_sub (pv 0) (pe_int) set_list))
      (pss_one (ps_ret (pe_op op_mod (pe_callTy (T := "int") call_int1 (by rfl) T.b_int (by decide +kernel) (pa_cons (pv 2) (pa_nil))) (pv 1)))))) (pss_nil))
      (pss_cons (ps_set (i := 5) sc_law_sift.nd rfl (Or.inl rfl) (pe_op op_mod (pe_callTy (T := "int") call_int1 (by rfl) T.b_int (by decide +kernel) (pa_cons (pe_op op_pow (pe_op op_add (pe_op op_add (pe_op op_mod (pe_callTy (T := "int") call_int1 (by rfl) T.b_int (by decide +kernel) (pa_cons (pv 4) (pa_nil))) (pe_int)) (pe_op op_mul (pe_int) (pv 3))) (pe_int)) (pe_int)) (pa_nil))) (pe_int)))
      (pss_cons (ps_set (i := 5) sc_law_sift.nd rfl (Or.inl rfl) (pe_op op_mod (pe_callTy (T := "int") call_int1 (by rfl) T.b_int (by decide +kernel) (pa_cons (pe_op op_pow (pe_op op_add (pe_op op_add (pe_op op_mul (pv 5) (pe_op op_add (pe_op op_mul (pe_int) (pv 3)) (pe_int))) (pe_op op_mul (pe_op op_mul (pe_int) (pv 3)) (pv 3))) (pe_int)) (pe_int)) (pa_nil))) (pe_int)))
      (pss_one (ps_ret (pe_op op_mod (pe_callTy (T := "int") call_int1 (by rfl) T.b_int (by decide +kernel) (pa_cons (pe_op op_fdiv (pv 5) (pe_int)) (pa_nil))) (pv 1))))))))))), ?_⟩
    have get : ∀ {H' : Hp} {i : Nat} {z : V} {o2 o3 o4 o5 : Option V} {ws : List V}, H' h = some (.lst ws) → ws[i]? = some z → Ev (tOp (rIx K) (tVar 0) (tC (.int (i : Nat)))) [some (.ref h), some (.int (m : Nat)), o2, o3, o4, o5] H' z := fun h1 h2 => ev_ix (ev_var rfl) h1 ec_i h2
    have fin : ∀ {H1 : Hp} {i : Int} {te : TE} {o2 o3 o4 o5 : Option V}, Kx h H H1 → LH h c ds (n + 1) H1 → 0 ≤ i → EvP te [some (.ref h), some (.int (m : Nat)), o2, o3, o4, o5] H1 (vI (.int i)) → tRet (tOp (rI (fun _ j => 0 < j) fun i j => .int (i % j)) te (tVar 1)) { nx := fun _ H' => Q .non H', rt := Q } [some (.ref h), some (.int (m : Nat)), o2, o3, o4, o5] H1 := fun {H1 i te o2 o3 o4 o5} kx l i0 he => by
      refine s_retP (P := vI (.int (i % (m : Int)))) (eoC (g := fun i j => i % j) he (ei_var rfl (.int _)) (by show (0 : Int) < (m : Int); omega)) fun v H2 e p => ?_
      cases Im.isInt p
      have z0 : 0 ≤ i % (m : Int) := Int.emod_nonneg _ (by omega)
      have z1 : i % (m : Int) < m := Int.emod_lt_of_pos _ (by omega)
      have z2 : i % (m : Int) = ((i % (m : Int)).toNat : Int) := (Int.toNat_of_nonneg z0).symm
      rw [z2]
      exact k _ H2 (by omega) (kx.trans (Kx.of e)) (l.up e)
    have put : ∀ {H1 : Hp} {lap' : Nat} {sand' : Int}, Ex H H1 → lap' ≤ n + 1 → 0 ≤ sand' → LH h c ds (n + 1) (upd H1 h (.lst [.ref c, .int (lap' : Nat), .int sand'])) := fun e a b => ⟨ne, by rw [upd_ne (Ne.symm ne)]; exact e _ _ hc, _, _, a, b, upd_same⟩
    refine Evl.q_when (et_t (eoB (g := fun i j => decide (j < i)) (eiI (get (i := 2) hh rfl)) ec_i)) (fun hb H1 e1 => ?_) fun hb H1 e1 => ?_
    · refine q_set (P := vI (.int sand)) (e_int (eiI (get (i := 2) (e1 _ _ hh) rfl))) fun v H2 e2 pv => ?_
      cases Im.isInt pv
      have e12 := e1.trans e2
      refine q_setP (P := vI (.int (sand / (m : Int)))) (l := h) (j := 2) (e12 _ _ hh) (eoC (g := fun i j => i / j) (ei_var rfl (.int _)) (ei_var rfl (.int _)) ⟨by show (0 : Int) < (m : Int); omega, by show (m : Int) < 1073741824; omega⟩) (mI _) (ev_var rfl) ec_i (by show 2 < 3; omega) fun v H3 e3 pv => ?_
      cases Im.isInt pv
      have e13 := e12.trans e3
      exact fin ((Kx.of e13).trans Kx.upd) (put e13 (Nat.le_succ_of_le lp) (Int.ediv_nonneg s0 (by omega))) s0 (e_int (ei_var rfl (.int _)))
    · refine q_set (P := vI (.int (lap : Nat))) (eiI (get (i := 1) (e1 _ _ hh) rfl)) fun v H2 e2 pv => ?_
      cases Im.isInt pv
      have e12 := e1.trans e2
      refine q_setP (P := vI (.int ((lap + 1 : Nat) : Int))) (l := h) (j := 1) (e12 _ _ hh) (EvP.isI (eo (g := fun i j => i + j) (ei_var rfl (.int (lap : Nat))) ec_i) (by omega)) (mI _) (ev_var rfl) ec_i (by show 1 < 3; omega) fun v H3 e3 pv => ?_
      cases Im.isInt pv
      have e13 := e12.trans e3
      have l4 : LH h c ds (n + 1) (upd H3 h (.lst [.ref c, .int ((lap + 1 : Nat) : Int), .int sand])) := put e13 (by omega) s0
      have h4 : (upd H3 h (.lst [.ref c, .int ((lap + 1 : Nat) : Int), .int sand])) h = some (.lst [.ref c, .int ((lap + 1 : Nat) : Int), .int sand]) := upd_same
      have c4 : (upd H3 h (.lst [.ref c, .int ((lap + 1 : Nat) : Int), .int sand])) c = some (.lst (ds.map V.int)) := by rw [upd_ne (Ne.symm ne)]; exact e13 _ _ hc
      have k4 : Kx h H (upd H3 h (.lst [.ref c, .int ((lap + 1 : Nat) : Int), .int sand])) := (Kx.of e13).trans Kx.upd
      show tSeq _ _ _ _ (upd H3 h (.lst [.ref c, .int ((lap + 1 : Nat) : Int), .int sand]))
      generalize upd H3 h (.lst [.ref c, .int ((lap + 1 : Nat) : Int), .int sand]) = G at l4 h4 c4 k4
      have imc : ∀ {G' : Hp}, ImAll G' (ds.map V.int) (ds.map .int) := fun {G'} => by
        have go : ∀ l : List Int, ImAll G' (l.map V.int) (l.map .int) := fun l => by
          induction l with
          | nil => exact .nil
          | cons i r ih => exact .cons (.int i) ih
        exact go ds
      have cells : ∀ {H' : Hp} {o2 o3 o4 o5 : Option V}, Ex G H' → EvP (tOp (rIx K) (tVar 0) (tC (.int (0 : Nat)))) [some (.ref h), some (.int (m : Nat)), o2, o3, o4, o5] H' (vL (ds.map .int)) := fun {H' o2 o3 o4 o5} e => ep_of (get (i := 0) (e _ _ h4) rfl) (mL _) ⟨c, _, rfl, e _ _ c4, imc⟩
      refine q_set (P := vI (.int (72139 * (lap : Int) + 9631))) (eo (g := fun i j => i + j) (eoC (g := fun i j => i * j) ec_i (ei_var rfl (.int _)) (.inl (by omega))) ec_i) fun v G1 g1 pv => ?_
      cases Im.isInt pv
      refine Evl.q_ifAsg (v := .int (if ds = [] then 72139 * (lap : Int) + 9631 else ds.getD (lap % ds.length) 0)) (et_t (e_neLI (ns := ds) (ms := []) (cells g1) (EvP.imp ep_nilF fun v H1 _ p => vF_L p))) (fun hb => ?_) (fun hb => ?_) fun G2 g2 => ?_
      · have hb : ds ≠ [] := by simpa using hb
        have dl : 0 < ds.length := List.length_pos_iff.mpr hb
        rw [if_neg hb]
        refine ei_int (e_ix (ds := ds.map .int) (n := lap % ds.length) (vSL (cells g1)) (EvP.isI (eoC (g := fun i j => i % j) (e_int (ei_var rfl (.int _))) (e_len (vSL (cells g1))) (by show (0 : Int) < ((ds.map PyData.int).length : Nat); rw [List.length_map]; omega)) (by rw [List.length_map]; rfl)) ?_)
        rw [List.getElem?_map, List.getD_eq_getElem?_getD, List.getElem?_eq_getElem (Nat.mod_lt _ dl)]
        rfl
      · have hb : ds = [] := by simpa using hb
        rw [if_pos hb]
        rfl
      · generalize (if ds = [] then 72139 * (lap : Int) + 9631 else ds.getD (lap % ds.length) 0) = cell
        have g12 := g1.trans g2
        have pow18 : ∀ {H' : Hp} {σ : L2.St}, EvP (tOp (rI CPow fun i j => .int (i ^ j.toNat)) (tC (.int 10)) (tC (.int 18))) σ H' (vI (.int 1000000000000000000)) := fun {H' σ} => EvP.isI (eoC (g := fun i j => i ^ j.toNat) ec_i ec_i ⟨by decide, by decide, by decide⟩) (by decide)
        refine Evl.q_when (b := decide ((lap : Int) < (ds.map PyData.int).length) && decide (1000000000000000000 ≤ (if cell < 0 then -cell else cell))) (et_and (et_t (eoB (g := fun i j => decide (i < j)) (ei_var rfl (.int _)) (e_len (vSL (cells g12))))) fun _ => et_t (eoB (g := fun i j => decide (j ≤ i)) (e_abs (ei_var rfl (.int _))) pow18)) (fun hb G3 g3 => ?_) fun hb G3 g3 => ?_
        · rw [Bool.and_eq_true] at hb
          have big := of_decide_eq_true hb.2
          have g13 := g12.trans g3
          refine q_set (P := vI (.int (2 * ((if cell < 0 then -cell else cell) - 1000000000000000000) + (if decide (cell < 0) = true then 1 else 0)))) (eo (g := fun i j => i + j) (eoC (g := fun i j => i * j) ec_i (eo (g := fun i j => i - j) (e_abs (ei_var rfl (.int _))) pow18) (.inl (by omega))) (e_intB (eoB (g := fun i j => decide (i < j)) (ei_var rfl (.int _)) ec_i))) fun v G4 g4 pv => ?_
          have s2 : (0 : Int) ≤ 2 * ((if cell < 0 then -cell else cell) - 1000000000000000000) + (if decide (cell < 0) = true then 1 else 0) := by
            have : (0 : Int) ≤ (if decide (cell < 0) = true then (1 : Int) else 0) := by split <;> decide
            omega
          generalize 2 * ((if cell < 0 then -cell else cell) - 1000000000000000000) + (if decide (cell < 0) = true then (1 : Int) else 0) = sand2 at *
          cases Im.isInt pv
          have g14 := g13.trans g4
          refine q_setP (P := vI (.int (sand2 / (m : Int)))) (l := h) (j := 2) (g14 _ _ h4) (eoC (g := fun i j => i / j) (ei_var rfl (.int _)) (ei_var rfl (.int _)) ⟨by show (0 : Int) < (m : Int); omega, by show (m : Int) < 1073741824; omega⟩) (mI _) (ev_var rfl) ec_i (by show 2 < 3; omega) fun v G5 g5 pv => ?_
          cases Im.isInt pv
          have g15 := g14.trans g5
          refine fin ((k4.trans (Kx.of g15)).trans Kx.upd) ⟨ne, by rw [upd_ne (Ne.symm ne)]; exact g15 _ _ c4, lap + 1, sand2 / (m : Int), by omega, Int.ediv_nonneg s2 (by omega), upd_same⟩ s2 (e_int (ei_var rfl (.int _)))
        · have g13 := g12.trans g3
          have c0 : 0 ≤ cell % 2147483237 := Int.emod_nonneg _ (by omega)
          have c1 : cell % 2147483237 < 2147483237 := Int.emod_lt_of_pos _ (by omega)
          refine q_set (P := vI (.int ((cell % 2147483237 + 41141 * (lap : Int) + 9631) ^ 5 % 2147483179))) (eoC (g := fun i j => i % j) (e_int (EvP.isI (eoC (g := fun i j => i ^ j.toNat) (eo (g := fun i j => i + j) (eo (g := fun i j => i + j) (eoC (g := fun i j => i % j) (e_int (ei_var rfl (.int _))) ec_i (by show (0 : Int) < 2147483237; omega)) (eoC (g := fun i j => i * j) ec_i (ei_var rfl (.int _)) (.inl (by omega)))) ec_i) ec_i ⟨by decide, by decide, by omega⟩) rfl)) ec_i (by show (0 : Int) < 2147483179; omega)) fun v G4 g4 pv => ?_
          have d0 : 0 ≤ (cell % 2147483237 + 41141 * (lap : Int) + 9631) ^ 5 % 2147483179 := Int.emod_nonneg _ (by omega)
          have d1 : (cell % 2147483237 + 41141 * (lap : Int) + 9631) ^ 5 % 2147483179 < 2147483179 := Int.emod_lt_of_pos _ (by omega)
          generalize (cell % 2147483237 + 41141 * (lap : Int) + 9631) ^ 5 % 2147483179 = dust at *
          cases Im.isInt pv
          have m1' : dust * (2 * (lap : Int) + 4283) ≤ 2147483179 * 1804283 := Int.mul_le_mul (by omega) (by omega) (by omega) (by omega)
          have m2' : 0 ≤ dust * (2 * (lap : Int) + 4283) := Int.mul_nonneg d0 (by omega)
          have m3' : 72139 * (lap : Int) * (lap : Int) ≤ (72139 * 900000) * 900000 := Int.mul_le_mul (by omega) (by omega) (by omega) (by omega)
          have m4' : 0 ≤ 72139 * (lap : Int) * (lap : Int) := Int.mul_nonneg (by omega) (by omega)
          refine q_set (P := vI (.int ((dust * (2 * (lap : Int) + 4283) + 72139 * (lap : Int) * (lap : Int) + 41141) ^ 3 % 2147483171))) (eoC (g := fun i j => i % j) (e_int (EvP.isI (eoC (g := fun i j => i ^ j.toNat) (eo (g := fun i j => i + j) (eo (g := fun i j => i + j) (eoC (g := fun i j => i * j) (ei_var rfl (.int _)) (eo (g := fun i j => i + j) (eoC (g := fun i j => i * j) ec_i (ei_var rfl (.int _)) (.inl (by omega))) ec_i) (.inl (by omega))) (eoC (g := fun i j => i * j) (eoC (g := fun i j => i * j) ec_i (ei_var rfl (.int _)) (.inl (by omega))) (ei_var rfl (.int _)) (.inr (by omega)))) ec_i) ec_i ⟨by decide, by decide, by omega⟩) rfl)) ec_i (by show (0 : Int) < 2147483171; omega)) fun v G5 g5 pv => ?_
          have f0 : 0 ≤ (dust * (2 * (lap : Int) + 4283) + 72139 * (lap : Int) * (lap : Int) + 41141) ^ 3 % 2147483171 := Int.emod_nonneg _ (by omega)
          generalize (dust * (2 * (lap : Int) + 4283) + 72139 * (lap : Int) * (lap : Int) + 41141) ^ 3 % 2147483171 = dust2 at *
          cases Im.isInt pv
          have g15 := (g13.trans g4).trans g5
          exact fin (k4.trans (Kx.of g15)) (l4.up g15) (Int.ediv_nonneg f0 (by omega)) (e_int (eoC (g := fun i j => i / j) (ei_var rfl (.int _)) ec_i ⟨by show (0 : Int) < 64; omega, by show (64 : Int) < 1073741824; omega⟩))
end
end Lk
end

section
set_option Elab.async false
set_option linter.all false
set_option maxRecDepth 100000
set_option maxHeartbeats 4000000
namespace Lk
open PySem PySem.Spec PyProof.Rows L2 Evl PySem.W C8
local macro_rules | `(tactic| walk_at "ex") => `(tactic| first | exact Ex.refl _ | assumption | (refine Ex.trans (H1 := ?g) ?a ?b; (case a => assumption); (case b => walk_at "ex")))
local macro_rules | `(tactic| walk_at "im") => `(tactic| first | assumption | exact Im.int _ | exact Im.bl _ | (refine Im.up (H := ?g) ?a ?b; (case a => assumption); (case b => walk_at "ex")))
local macro_rules | `(tactic| walk_at "ev") => `(tactic| first
  | exact ec_i | exact ec_b | exact ec_s | exact ec_n
  | (refine ei_var rfl ?_; walk_at "im")
  | (refine eo ?_ ?_ <;> walk_at "ev")
  | (refine eoB ?_ ?_ <;> walk_at "ev")
  | (refine e_eqI ?_ ?_ <;> walk_at "ev")
  | (refine e_neI ?_ ?_ <;> walk_at "ev")
  | (refine eu ?_ <;> walk_at "ev")
  | (refine e_not ?_ <;> walk_at "ev"))

section
variable {P : Program} {w : World} {K : PySem.W.Frag} {mg : Str → Option Value} {base : Heap} {c : Cs}
abbrev vN (t : Nat) : V := .int (t : Nat)
theorem imN {H : Hp} : ∀ ts : List Nat, ImAll H (ts.map vN) (ts.map dN)
  | [] => .nil
  | _ :: r => .cons (.int _) (imN r)
theorem imN_of {H : Hp} : ∀ {xs : List V} {ts : List Nat}, ImAll H xs (ts.map dN) → xs = ts.map vN
  | [], [], _ => rfl
  | [], _ :: _, h => nomatch h
  | _ :: _, [], h => nomatch h
  | x :: xs, t :: ts, .cons a r => by
    cases a
    rw [List.map_cons, imN_of r]
/-- what an expression that draws comes to -/
def EvH (h c : Addr) (ds : List Int) (m : Nat) (te : TE) (σ : L2.St) (H : Hp) (P : VP) : Prop := ∀ Q : VK, (∀ v H2, Kx h H H2 → LH h c ds m H2 → P v H2 → Q v H2) → te σ H Q
/-- a number below k -/
abbrev vB (k : Nat) : VP := fun v _ => ∃ r : Nat, r < k ∧ v = vN r
section
variable {h c : Addr} {ds : List Int} {n m m2 : Nat} {H : Hp} {σ : L2.St} {te ta tb : TE} {tas : TA} {P R S : VP} {D : Ends} {tz : TS}
theorem EvH.of (l : LH h c ds n H) (e : EvP te σ H P) : EvH h c ds n te σ H P := fun Q q => e H (Ex.refl H) Q fun v H2 e2 p => q v H2 (Kx.of e2) (l.up e2) p
theorem EvH.imp (e : EvH h c ds m te σ H P) (f : ∀ v H2, P v H2 → R v H2) : EvH h c ds m te σ H R := fun Q q => e Q fun v H2 k l p => q v H2 k l (f v H2 p)
theorem as_h {i : Nat} {k : Int} (h1 : Ev (tVar i) σ H (.ref h)) (h2 : EvP te σ H (vI (.int k))) : EvAs (tCons (tVar i) (tCons te tNil)) σ H (fun vs _ => vs = [.ref h, .int k]) := fun H1 e Q q =>
  h1 H1 e _ fun H2 e2 => h2 H2 (e.trans e2) _ fun v H3 e3 p => q _ _ (e2.trans e3) (by cases Im.isInt p; rfl)
theorem eh_sift {k : Nat} {E : XK} (l : LH h c ds n H) (hn : n < 900000) (k0 : 0 < k) (k1 : k < 1000) (a : EvAs tas σ H (fun vs _ => vs = [.ref h, .int (k : Nat)])) : EvH h c ds (n + 1) (tCall sp_sift0 [] E tas) σ H (vB k) := fun Q q =>
  a H (Ex.refl H) _ fun vs H1 e1 p => ⟨h, c, ds, n, k, by rw [p]; rfl, l.up e1, k0, k1, hn, fun r H2 hr kx l2 => q _ _ ((Kx.of e1).trans kx) l2 ⟨r, hr, rfl⟩⟩
theorem eh_op {r : R2} (l : LH h c ds n H) (ha : EvH h c ds m ta σ H P) (lp : Lm P) (hb : ∀ H1, Kx h H H1 → LH h c ds m H1 → EvH h c ds m2 tb σ H1 R) (k : ∀ x y H1, Kx h H H1 → LH h c ds m2 H1 → P x H1 → R y H1 → ∀ Q : VK, (∀ w H2, Ex H1 H2 → S w H2 → Q w H2) → r x y H1 Q) : EvH h c ds m2 (tOp r ta tb) σ H S := fun Q q =>
  ha _ fun x H1 k1 l1 p => hb H1 k1 l1 _ fun y H2 k2 l2 p2 => k x y H2 (k1.trans k2) l2 (lp l1 k2 p) p2 Q fun w H3 e3 s => q w H3 ((k1.trans k2).trans (Kx.of e3)) (l2.up e3) s
theorem s_setH {i : Nat} (e : EvH h c ds m te σ H P) (k : ∀ v H1, Kx h H H1 → LH h c ds m H1 → P v H1 → D.nx (σ.set i (some v)) H1) : tAsg te (gName i) D σ H := e _ fun v H1 k1 l1 p => k v H1 k1 l1 p
theorem q_setH {i : Nat} (e : EvH h c ds m te σ H P) (k : ∀ v H1, Kx h H H1 → LH h c ds m H1 → P v H1 → tz D (σ.set i (some v)) H1) : tSeq (tAsg te (gName i)) tz D σ H := s_setH (D := { D with nx := tz D }) e k
theorem q_parH {i j : Nat} (ha : EvH h c ds m ta σ H P) (lp : Lm P) (hb : ∀ H1, Kx h H H1 → LH h c ds m H1 → EvH h c ds m2 tb σ H1 R) (k : ∀ a b H1, Kx h H H1 → LH h c ds m2 H1 → P a H1 → R b H1 → tz D ((σ.set i (some a)).set j (some b)) H1) : tSeq (tPar i j (tCons ta (tCons tb tNil))) tz D σ H :=
  ha _ fun a H1 k1 l1 pa => hb H1 k1 l1 _ fun b H2 k2 l2 pb => ⟨a, b, rfl, k a b H2 (k1.trans k2) l2 (lp l1 k2 pa) pb⟩
theorem lB (k : Nat) : Lm (vB k) := fun _ _ p => p
theorem s_retH (e : EvH h c ds m te σ H P) (k : ∀ v H1, Kx h H H1 → LH h c ds m H1 → P v H1 → D.rt v H1) : tRet te D σ H := e _ fun v H1 k1 l1 p => k v H1 k1 l1 p
/-- a test that draws -/
def EvTH (h c : Addr) (ds : List Int) (m : Nat) (t : TT) (σ : L2.St) (H : Hp) : Prop := ∀ Q : Bool → Hp → Prop, (∀ b H2, Kx h H H2 → LH h c ds m H2 → Q b H2) → t σ H Q
theorem eth_t (e : EvH h c ds m te σ H (fun v _ => ∃ b, v = .bl b)) : EvTH h c ds m (tTest te) σ H := fun Q q => e _ fun v H2 k l p => by
  obtain ⟨b, rfl⟩ := p
  exact ⟨b, rfl, q b H2 k l⟩
theorem s_ifH {t : TT} {tu tw : TS} (e : EvTH h c ds m t σ H) (h1 : ∀ H1, Kx h H H1 → LH h c ds m H1 → tu D σ H1) (h2 : ∀ H1, Kx h H H1 → LH h c ds m H1 → tw D σ H1) : tIfS t tu tw D σ H := e _ fun b H1 k l => by
  cases b with
  | true => exact h1 H1 k l
  | false => exact h2 H1 k l
theorem Kx.mutf {a : Addr} {o : HO} {H1 : Hp} (k : Kx h H H1) (n : H a = none) : Kx h H (L2.upd H1 a o) := fun b u nb hb => by
  rw [upd_ne (show b ≠ a from fun z => by rw [z, n] at hb; cases hb)]
  exact k b u nb hb
theorem LH.oth {a : Addr} {o : HO} (l : LH h c ds n H) (n1 : a ≠ h) (n2 : a ≠ c) : LH h c ds n (upd H a o) := by
  obtain ⟨ne, h1, lap, sand, a1, b1, h2⟩ := l
  exact ⟨ne, by rw [upd_ne (Ne.symm n2)]; exact h1, lap, sand, a1, b1, by rw [upd_ne (Ne.symm n1)]; exact h2⟩
theorem LH.ne_of {a : Addr} (l : LH h c ds n H) (f : H a = none) : a ≠ h ∧ a ≠ c := by
  obtain ⟨ne, h1, lap, sand, a1, b1, h2⟩ := l
  exact ⟨(fun z => by rw [z, h2] at f; cases f), (fun z => by rw [z, h1] at f; cases f)⟩
end
theorem pick_perm {α : Type} : ∀ (l : List α) (r : Nat) (h : r < l.length), (l[r] :: l.eraseIdx r).Perm l
  | _ :: _, 0, _ => .refl _
  | a :: l, r + 1, h => ((List.Perm.swap a (l[r]'(Nat.lt_of_succ_lt_succ h)) (l.eraseIdx r))).trans (.cons a (pick_perm l r (Nat.lt_of_succ_lt_succ h)))
theorem map_erase {α β : Type} (f : α → β) : ∀ (l : List α) (r : Nat), (l.map f).eraseIdx r = (l.eraseIdx r).map f
  | [], _ => rfl
  | _ :: _, 0 => rfl
  | a :: l, r + 1 => congrArg (f a :: ·) (map_erase f l r)
def sp_any : Sp := fun vs H Q _ => ∃ (h c : Addr) (ds : List Int) (n : Nat) (ns : List Nat) (v1 : V), vs = [.ref h, v1] ∧ LH h c ds n H ∧ vL (ns.map dN) v1 H ∧ 0 < ns.length ∧ ns.length < 1000 ∧ n < 900000 ∧ ∀ (t : Nat) H', t ∈ ns → Kx h H H' → LH h c ds (n + 1) H' → Q (vN t) H'
def sp_mixed : Sp := fun vs H Q _ => ∃ (h c : Addr) (ds : List Int) (n : Nat) (ns : List Nat) (v1 : V), vs = [.ref h, v1] ∧ LH h c ds n H ∧ vL (ns.map dN) v1 H ∧ ns.length < 1000 ∧ n + ns.length < 900000 ∧ ∀ (ms : List Nat) (f : Addr) H', ms.Perm ns → Kx h H H' → LH h c ds (n + ns.length) H' → H f = none → H' f = some (.lst (ms.map vN)) → Q (.ref f) H'
/-! ### _law_any_of -/
abbrev sp_law_any_of : Sp := sp_any
theorem c_law_any_of (T : Txt K mg c) : Cal P w K mg base 2 "_law_any_of" (sp_law_any_of) [] := by
  have c_law_sift := c_law_sift (P := P) (w := w) (base := base) T
  refine mkCal T.d_law_any_of sc_law_any_of (fun _ _ _ _ _ _ us hl => match us, hl with | [_, _], _ => rfl) (fun vs H Q E h => ?_) (fun f cdv A outer s H vs Q E hr h => ?_)
  · obtain ⟨h, c, ds, n, ns, v1, rfl, _⟩ := h; rfl
  · have hu := hu_of hr
    obtain ⟨h, c, ds, n, ns, v1, rfl, l, pl, n0, n1, n9, k⟩ := h
    refine ⟨_, pss_one (ps_ret (pe_ix (ix_seqK K) (pv 1) (pe_c c_law_sift hr (by decide) (by rfl) (pa_cons (pv 0) (pa_cons (pe_callB (id := "len") (cr_lenK K) (by rfl) T.b_len (by decide +kernel) (pa_cons (pv 1) (pa_nil))) (pa_nil)))) (fun _ _ => rfl))), ?_⟩
    refine s_retH (h := h) (c := c) (ds := ds) (m := n + 1) (P := fun v _ => ∃ t ∈ ns, v = vN t) (eh_op (m := n) (P := vL (ns.map dN)) (R := vB ns.length) l (.of l (ep_var rfl (mL _) pl)) (lL _) (fun H1 k1 l1 => eh_sift l1 n9 n0 n1 (as_h (ev_var rfl) (EvP.isI (e_len (vSL (ep_var rfl (mL _) (lL _ l k1 pl)))) (by rw [List.length_map])))) fun x y H1 k1 l1 p1 p2 Q1 q1 => ?_) fun v H1 k1 l1 p => ?_
    · obtain ⟨r, hr, rfl⟩ := p2
      obtain ⟨a, xs, rfl, ha, im⟩ := p1
      rw [imN_of im] at ha
      exact .inl ⟨a, ns.map vN, (r : Int), vN ns[r], rfl, rfl, SqL.of ha, atI_nat (by rw [List.getElem?_map, List.getElem?_eq_getElem hr]; rfl), q1 _ _ (Ex.refl _) ⟨ns[r], List.getElem_mem hr, rfl⟩⟩
    · obtain ⟨t, ht, rfl⟩ := p
      exact k t H1 ht k1 l1
/-! ### _law_mixed -/
abbrev sp_law_mixed : Sp := sp_mixed
theorem c_law_mixed (T : Txt K mg c) : Cal P w K mg base 2 "_law_mixed" (sp_law_mixed) [] := by
  have c_law_sift := c_law_sift (P := P) (w := w) (base := base) T
  refine mkCal T.d_law_mixed sc_law_mixed (fun _ _ _ _ _ _ us hl => match us, hl with | [_, _], _ => rfl) (fun vs H Q E h => ?_) (fun f cdv A outer s H vs Q E hr h => ?_)
  · obtain ⟨h, c, ds, n, ns, v1, rfl, _⟩ := h; rfl
  · have hu := hu_of hr
    obtain ⟨h, c, ds, n, ns, v1, rfl, l, pl, n1, n9, k⟩ := h
    refine ⟨_, pss_cons (ps_par (i := 2) (j := 3) rfl sc_law_mixed.nd rfl rfl (by decide) rfl rfl (pa_cons (pe_callTy (T := "list") (cr_listK K) (by rfl) T.b_list (by decide +kernel) (pa_cons (pv 1) (pa_nil))) (pa_cons (pe_lst (pa_nil)) (pa_nil))) (by rfl))
      (pss_cons (ps_while PassesOwn.never (pt_cmpR (op_neDK K hr.units) (pv 2) (pe_lst (pa_nil)) (nomark _))
      (pss_one (ps_expr (pe_bm PySem.F.plainAttrs_list PySem.F.slot_list_append PySem.F.type_list_append mt_append (pv 3) (pa_cons (pe_bm PySem.F.plainAttrs_list PySem.F.slot_list_pop PySem.F.type_list_pop mt_popAt (pv 2) (pa_cons (pe_c c_law_sift hr (by decide) (by rfl) (pa_cons (pv 0) (pa_cons (pe_callB (id := "len") (cr_lenK K) (by rfl) T.b_len (by decide +kernel) (pa_cons (pv 2) (pa_nil))) (pa_nil)))) (pa_nil))) (pa_nil))))))
      (pss_one (ps_ret (pv 3)))), ?_⟩
    refine q_parF (P := vF H (ns.map dN)) (R := fun H1 => vF H1 []) (e_listF (ep_var rfl (mS _) (vS_L pl))) (fun H1 e1 => ep_nilF) fun a b H1 H2 e1 e2 pa pb => ?_
    obtain ⟨la, xs, rfl, na, ha, ima⟩ := pa
    obtain ⟨fa, ys, rfl, nb, hb, imb⟩ := pb
    rw [imN_of ima] at ha
    rw [imN_of (ts := []) imb] at hb
    have ab : la ≠ fa := fun z => by rw [z, nb] at ha; cases ha
    have nbH : H fa = none := fresh_back e1 nb
    obtain ⟨la1, la2⟩ := l.ne_of na
    obtain ⟨fa1, fa2⟩ := l.ne_of nbH
    refine q_while (fun f σ' H' => ∃ left found : List Nat, σ' = [some (.ref h), some v1, some (.ref la), some (.ref fa)] ∧ left.length = f ∧ (found ++ left).Perm ns ∧ Kx h H H' ∧ LH h c ds (n + found.length) H' ∧ H' la = some (.lst (left.map vN)) ∧ H' fa = some (.lst (found.map vN))) ns.length ⟨ns, [], rfl, rfl, .refl _, Kx.of (e1.trans e2), l.up (e1.trans e2), e2 _ _ ha, hb⟩ ?_
    rintro f σ' H' ⟨left, found, rfl, lf, pm, kx, lh, hl, hf⟩
    have plen := pm.length_eq
    rw [List.length_append] at plen
    refine ⟨_, et_t (e_neLN (ns := left) (ms := []) (ep_var rfl (mL _) ⟨la, _, rfl, hl, imN _⟩) (EvP.imp ep_nilF fun v H1 _ p => vF_L p)), fun hbt H3 e3 => ?_, fun hbt H3 e3 => ?_⟩
    · have ne : left ≠ [] := by simpa using hbt
      have l0 : 0 < left.length := List.length_pos_iff.mpr ne
      have hl3 := e3 _ _ hl
      have hf3 := e3 _ _ hf
      refine ⟨_, fun σ2 H2 q => ⟨left.length - 1, by omega, q⟩, ?_⟩
      have l3 := lh.up e3
      refine ⟨.ref fa, rfl, .inl ⟨rfl, _, sq_of hf3⟩, .ref la, rfl, .inl ⟨rfl, _, sq_of hl3⟩, ?_⟩
      refine eh_sift (k := left.length) l3 (by omega) l0 (by omega) (as_h (ev_var rfl) (EvP.isI (e_len (ds := left.map dN) (vSL (ep_var rfl (mL _) ⟨la, _, rfl, hl3, imN _⟩))) (by rw [List.length_map]))) _ fun v H4 k4 l4 p => ?_
      obtain ⟨r, hr, rfl⟩ := p
      have hl4 : H4 la = some (.lst (left.map vN)) := k4 _ _ la1 hl3
      have hf4 : H4 fa = some (.lst (found.map vN)) := k4 _ _ fa1 hf3
      refine ⟨la, left.map vN, (r : Int), r, vN left[r], rfl, rfl, hl4, by omega, by omega, ?_, by rw [List.getElem?_map, List.getElem?_eq_getElem hr]; rfl, ?_⟩
      · unfold seqIndex?
        rw [List.length_map]
        simp [show ¬ ((r : Int) < 0) by omega, hr]
      · refine ⟨fa, found.map vN, vN left[r], rfl, rfl, by rw [upd_ne (Ne.symm ab)]; exact hf4, by rw [List.length_map]; exact sz_lt (by omega), ?_⟩
        refine ⟨left.eraseIdx r, found ++ [left[r]], rfl, by rw [List.length_eraseIdx, if_pos hr], ?_, ?_, ?_, ?_, ?_⟩
        · refine List.Perm.trans ?_ pm
          rw [List.append_assoc]
          refine List.Perm.append_left _ ?_
          exact pick_perm left r hr
        · exact (((kx.trans (Kx.of e3)).trans k4).mutf na).mutf nbH
        · rw [List.length_append, List.length_singleton, ← Nat.add_assoc]
          exact (l4.oth la1 la2).oth fa1 fa2
        · rw [upd_ne ab, upd_same, map_erase]
        · rw [upd_same, List.map_append]
          rfl
    · have e : left = [] := by simpa using hbt
      subst e
      rw [List.append_nil] at pm
      refine s_retP (P := fun v H4 => v = .ref fa ∧ H4 fa = some (.lst (found.map vN))) (fun G e4 Q1 q1 => ⟨_, rfl, q1 _ _ (Ex.refl _) ⟨rfl, e4 _ _ (e3 _ _ hf)⟩⟩) fun v H4 e4 p => ?_
      obtain ⟨rfl, hfa⟩ := p
      rw [← pm.length_eq] at k
      exact k found fa H4 pm (kx.trans (Kx.of (e3.trans e4))) ((lh.up e3).up e4) nbH hfa
end
end Lk
end

section
set_option Elab.async false
set_option linter.all false
set_option maxRecDepth 100000
set_option maxHeartbeats 4000000
namespace Lk
open PySem PySem.Spec PyProof.Rows L2 Evl PySem.W C8
local macro_rules | `(tactic| walk_at "ex") => `(tactic| first | exact Ex.refl _ | assumption | (refine Ex.trans (H1 := ?g) ?a ?b; (case a => assumption); (case b => walk_at "ex")))
local macro_rules | `(tactic| walk_at "im") => `(tactic| first | assumption | exact Im.int _ | exact Im.bl _ | (refine Im.up (H := ?g) ?a ?b; (case a => assumption); (case b => walk_at "ex")))
local macro_rules | `(tactic| walk_at "ev") => `(tactic| first
  | exact ec_i | exact ec_b | exact ec_s | exact ec_n
  | (refine ei_var rfl ?_; walk_at "im")
  | (refine eo ?_ ?_ <;> walk_at "ev")
  | (refine eoB ?_ ?_ <;> walk_at "ev")
  | (refine e_eqI ?_ ?_ <;> walk_at "ev")
  | (refine e_neI ?_ ?_ <;> walk_at "ev")
  | (refine eu ?_ <;> walk_at "ev")
  | (refine e_not ?_ <;> walk_at "ev"))

section
variable {P : Program} {w : World} {K : PySem.W.Frag} {mg : Str → Option Value} {base : Heap} {c : Cs}
section
variable {h c : Addr} {ds : List Int} {n m m2 : Nat} {H : Hp} {σ : L2.St} {te ta tb tl : TE} {tas : TA} {P R S : VP} {D : Ends} {tz tu : TS} {g : TG}
theorem rng_loop {k : Nat} {H1 : Hp} (Pv : Nat → L2.St → Hp → Prop) (p0 : Pv 0 σ H1) (step : ∀ i σ' H', i < k → Pv i σ' H' → g (vN i) σ' H' fun σ2 H2 => tu { D with nx := Pv (i + 1), ct := Pv (i + 1), bk := D.nx } σ2 H2) (fin : ∀ σ' H', Pv k σ' H' → D.nx σ' H') :
    ∃ W : Nat → Nat → L2.St → Hp → Prop, (∃ m, W 0 m σ H1) ∧ ∀ i m σ H, W i m σ H → ((Itr 0 k).stop i H ∧ D.nx σ H) ∨ ((Itr 0 k).go i H ∧ ∃ N : L2.St → Hp → Prop, (∀ σ' H', N σ' H' → ∃ m', m' < m ∧ W (i + 1) m' σ' H') ∧ ∀ x H', (Itr 0 k).yld i H x H' → g x σ H' fun σ2 H2 => tu { D with nx := N, ct := N, bk := D.nx } σ2 H2) := by
  refine ⟨fun i m σ' H' => m = k - i ∧ i ≤ k ∧ Pv i σ' H', ⟨_, rfl, Nat.zero_le _, p0⟩, ?_⟩
  rintro i m σ' H' ⟨rfl, hi, p⟩
  by_cases lt : i < k
  · refine .inr ⟨lt, Pv (i + 1), fun σ2 H3 q => ⟨_, Nat.lt_of_lt_of_le (Nat.sub_lt_sub_left lt (Nat.lt_succ_self i)) (Nat.le_refl _), rfl, lt, q⟩, fun x G hy => ?_⟩
    obtain ⟨rfl, rfl⟩ := hy
    have z := step i σ' G lt p
    show g (V.int (0 + (i : Int))) σ' G _
    rw [Int.zero_add]
    exact z
  · have e : i = k := by omega
    subst e
    exact .inl ⟨Nat.le_refl _, fin σ' H' p⟩
/-- for x in range(..), drawn -/
theorem s_forRH {k : Nat} (he : EvH h c ds m te σ H (vB k)) (hk : k ≤ 50000) (kk : ∀ r H1, r < k → Kx h H H1 → LH h c ds m H1 → ∃ Pv : Nat → L2.St → Hp → Prop, Pv 0 σ H1 ∧ (∀ i σ' H', i < r → Pv i σ' H' → g (vN i) σ' H' fun σ2 H2 => tu { D with nx := Pv (i + 1), ct := Pv (i + 1), bk := D.nx } σ2 H2) ∧ (∀ σ' H', Pv r σ' H' → D.nx σ' H')) : tFor (iRng1 (tCons te tNil)) g tu D σ H :=
  he _ fun v H1 k1 l1 p => by
    obtain ⟨r, hr, rfl⟩ := p
    obtain ⟨Pv, p0, step, fin⟩ := kk r H1 hr k1 l1
    refine ⟨(r : Int), rfl, by omega, by omega, ?_⟩
    rw [Int.toNat_natCast]
    exact rng_loop Pv p0 step fin
theorem q_forRH {k : Nat} (he : EvH h c ds m te σ H (vB k)) (hk : k ≤ 50000) (kk : ∀ r H1, r < k → Kx h H H1 → LH h c ds m H1 → ∃ Pv : Nat → L2.St → Hp → Prop, Pv 0 σ H1 ∧ (∀ i σ' H', i < r → Pv i σ' H' → g (vN i) σ' H' fun σ2 H2 => tu { D with nx := Pv (i + 1), ct := Pv (i + 1), bk := tz D } σ2 H2) ∧ (∀ σ' H', Pv r σ' H' → tz D σ' H')) : tSeq (tFor (iRng1 (tCons te tNil)) g tu) tz D σ H := s_forRH (D := { D with nx := tz D }) he hk kk
/-- .. not drawn -/
theorem s_forR {k : Nat} (he : EvP te σ H (vI (dN k))) (hk : k ≤ 50000) (kk : ∀ H1, Ex H H1 → ∃ Pv : Nat → L2.St → Hp → Prop, Pv 0 σ H1 ∧ (∀ i σ' H', i < k → Pv i σ' H' → g (vN i) σ' H' fun σ2 H2 => tu { D with nx := Pv (i + 1), ct := Pv (i + 1), bk := D.nx } σ2 H2) ∧ (∀ σ' H', Pv k σ' H' → D.nx σ' H')) : tFor (iRng1 (tCons te tNil)) g tu D σ H :=
  he H (Ex.refl H) _ fun v H1 e1 p => by
    cases Im.isInt p
    obtain ⟨Pv, p0, step, fin⟩ := kk H1 e1
    refine ⟨(k : Int), rfl, by omega, by omega, ?_⟩
    rw [Int.toNat_natCast]
    exact rng_loop Pv p0 step fin
theorem q_forR {k : Nat} (he : EvP te σ H (vI (dN k))) (hk : k ≤ 50000) (kk : ∀ H1, Ex H H1 → ∃ Pv : Nat → L2.St → Hp → Prop, Pv 0 σ H1 ∧ (∀ i σ' H', i < k → Pv i σ' H' → g (vN i) σ' H' fun σ2 H2 => tu { D with nx := Pv (i + 1), ct := Pv (i + 1), bk := tz D } σ2 H2) ∧ (∀ σ' H', Pv k σ' H' → tz D σ' H')) : tSeq (tFor (iRng1 (tCons te tNil)) g tu) tz D σ H := s_forR (D := { D with nx := tz D }) he hk kk
/-- append of what is drawn to a list apart from the heap -/
theorem s_appH {K : PySem.W.Frag} {l : Addr} {ws : List V} (ha : Ev tl σ H (.ref l)) (hl : H l = some (.lst ws)) (nh : l ≠ h) (hz : ws.length < 100000) (he : ∀ H1, Ex H H1 → EvH h c ds m te σ H1 P) (k : ∀ v H1, Kx h H H1 → LH h c ds m H1 → P v H1 → D.nx σ (upd H1 l (.lst (ws ++ [v])))) : tDrop (tBM K "list" rAppend tl (tCons te tNil)) D σ H :=
  ha H (Ex.refl H) _ fun H1 e1 => ⟨Or.inl ⟨rfl, ws, sq_of (e1 l _ hl)⟩, he H1 e1 _ fun v H2 k2 l2 p => ⟨l, ws, v, rfl, rfl, k2 _ _ nh (e1 _ _ hl), sz_lt hz, k v H2 ((Kx.of e1).trans k2) l2 p⟩⟩
/-- a tuple of two facts and a drawn number -/
theorem eh_t3 {tc : TE} {f : Nat → Prop} (l : LH h c ds n H) {d e : PyData} (h1 : EvP ta σ H (vI d)) (h2 : ∀ H1, Ex H H1 → EvP tb σ H1 (vI e)) (h3 : ∀ H1, Ex H H1 → LH h c ds n H1 → EvH h c ds m tc σ H1 (fun v _ => ∃ r : Nat, f r ∧ v = vN r)) : EvH h c ds m (tTupZ (tCons ta (tCons tb (tCons tc tNil)))) σ H (fun v H2 => ∃ r : Nat, f r ∧ Im H2 v (.tuple [d, e, dN r])) := fun Q q =>
  h1 H (Ex.refl H) _ fun v1 H1 e1 p1 => h2 H1 e1 H1 (Ex.refl _) _ fun v2 H2 e2 p2 => h3 H2 (e1.trans e2) (l.up (e1.trans e2)) _ fun v3 H3 k3 l3 p3 => by
    obtain ⟨r, fr, rfl⟩ := p3
    refine ⟨by show 3 ≤ sizeLine; decide, fun p o dz hp => q _ _ (((Kx.of (e1.trans e2)).trans k3).trans (Kx.of (Ex.new hp))) (l3.up (Ex.new hp)) ⟨r, fr, ?_⟩⟩
    have t3 := (l.up (e1.trans e2)).tx k3
    exact .tup (Tz.new dz) (.cons (((p1.up e2).mv t3).mv (Tx.new hp)) (.cons ((p2.mv t3).mv (Tx.new hp)) (.cons (.int _) .nil)))
theorem eh_cb1 {r : List V → Hp → VK → Prop} (h1 : EvH h c ds m te σ H P) (k : ∀ v H1, P v H1 → ∀ Q : VK, (∀ w, S w H1 → Q w H1) → r [v] H1 Q) : EvH h c ds m (tCB r (tCons te tNil)) σ H S := fun Q q =>
  h1 _ fun v H1 k1 l1 p => k v H1 p Q fun w s => q w H1 k1 l1 s
end
inductive Deed where
  | turn (w t : Nat)
  | mix (w : Nat)
  | sign (w o : Nat)
def deedD : Deed → PyData
  | .turn w t => .tuple [.str "turn", dN w, dN t]
  | .mix w => .tuple [.str "mix", dN w]
  | .sign w o => .tuple [.str "sign", dN w, dN o]
def DeedOk (n : Nat) : Deed → Prop
  | .turn w t => w < n ∧ t < 8
  | .mix w => w < n
  | .sign w o => w < n ∧ o < n ∧ o ≠ w
def sp_deeds : Sp := fun vs H Q _ => ∃ (h c : Addr) (ds : List Int) (n wires : Nat), vs = [.ref h, vN wires, vN 4] ∧ LH h c ds n H ∧ 0 < wires ∧ wires ≤ 2 ∧ n < 800000 ∧ ∀ (dd : List Deed) v H', dd.length ≤ 4 → (∀ d ∈ dd, DeedOk wires d) → Kx h H H' → LH h c ds (n + 20) H' → vL (dd.map deedD) v H' → Q v H'
/-! ### _law_deeds -/
abbrev sp_law_deeds : Sp := sp_deeds
theorem c_law_deeds (T : Txt K mg c) : Cal P w K mg base 2 "_law_deeds" (sp_law_deeds) [] := by
  have c_law_sift := c_law_sift (P := P) (w := w) (base := base) T
  refine mkCal T.d_law_deeds sc_law_deeds (fun _ _ _ _ _ _ us hl => match us, hl with | [_, _, _], _ => rfl) (fun vs H Q E h => ?_) (fun f cdv A outer s H vs Q E hr h => ?_)
  · obtain ⟨h, c, ds, n, wires, rfl, _⟩ := h; rfl
  · have hu := hu_of hr
    obtain ⟨h, c, ds, n, wires, rfl, l, w0, w2, n8, k⟩ := h
    refine ⟨_, pss_cons (ps_set (i := 3) sc_law_deeds.nd rfl (Or.inl rfl) (pe_lst (pa_nil)))
      (pss_cons (ps_for PassesOwn.never rfl (pi_range1 (by rfl) T.b_range (pa_cons (pe_c c_law_sift hr (by decide) (by rfl) (pa_cons (pv 0) (pa_cons (pe_op op_add (pv 2) (pe_int)) (pa_nil)))) (pa_nil))) (pg_name (i := 4) sc_law_deeds.nd rfl (Or.inl rfl))
      (pss_cons (ps_par (i := 5) (j := 6) rfl sc_law_deeds.nd rfl rfl (by decide) rfl rfl (pa_cons (pe_c c_law_sift hr (by decide) (by rfl) (pa_cons (pv 0) (pa_cons (pe_int) (pa_nil)))) (pa_cons (pe_c c_law_sift hr (by decide) (by rfl) (pa_cons (pv 0) (pa_cons (pv 1) (pa_nil)))) (pa_nil))) (by rfl))
      (pss_one (ps_if (pt_cmpR op_lt (pv 5) (pe_int) (nomark _)) (pss_one (ps_expr (pe_bm PySem.F.plainAttrs_list PySem.F.slot_list_append PySem.F.type_list_append mt_append (pv 3) (pa_cons (pe_tupZ (pa_cons (pe_str) (pa_cons (pv 6) (pa_cons (pe_op op_add (pe_int) (pe_c c_law_sift hr (by decide) (by rfl) (pa_cons (pv 0) (pa_cons (pe_int) (pa_nil))))) (pa_nil))))) (pa_nil))))) (pss_one (ps_if ((pw_or (pt_cmpR op_lt (pv 5) (pe_int) (nomark _)) (pw_or1 (pt_cmpR op_eq (pv 1) (pe_int) (nomark _)))).pt) (pss_one (ps_expr (pe_bm PySem.F.plainAttrs_list PySem.F.slot_list_append PySem.F.type_list_append mt_append (pv 3) (pa_cons (pe_tupZ (pa_cons (pe_str) (pa_cons (pv 6) (pa_nil)))) (pa_nil))))) (pss_one (ps_expr (pe_bm PySem.F.plainAttrs_list PySem.F.slot_list_append PySem.F.type_list_append mt_append (pv 3) (pa_cons (pe_tupZ (pa_cons (pe_str) (pa_cons (pv 6) (pa_cons (pe_op op_mod (pe_callTy (T := "int") call_int1 (by rfl) T.b_int (by decide +kernel) (pa_cons (pe_op op_add (pe_op op_add (pv 6) (pe_int)) (pe_c c_law_sift hr (by decide) (by rfl) (pa_cons (pv 0) (pa_cons (pe_op op_sub (pv 1) (pe_int)) (pa_nil))))) (pa_nil))) (pv 1)) (pa_nil))))) (pa_nil)))))))))))
      (pss_one (ps_ret (pv 3)))), ?_⟩
    refine q_set (P := vF H []) ep_nilF fun vf H1 e1 pf => ?_
    obtain ⟨fa, ys, rfl, nf, hf, imf⟩ := pf
    obtain ⟨fa1, fa2⟩ := l.ne_of nf
    have l1 := l.up e1
    refine q_forRH (k := 5) (eh_sift (k := 5) l1 (by omega) (by omega) (by omega) (as_h (ev_var rfl) (eo (g := fun i j => i + j) (i := 4) (j := 1) (ei_var rfl (.int _)) ec_i))) (by omega) fun r H2 hr k2 l2 => ⟨fun i σ' H' => ∃ o4 o5 o6 ws dd, σ' = [some (.ref h), some (vN wires), some (vN 4), some (.ref fa), o4, o5, o6] ∧ dd.length = i ∧ (∀ d ∈ dd, DeedOk wires d) ∧ Kx h H H' ∧ LH h c ds (n + 1 + i * 3) H' ∧ H' fa = some (.lst ws) ∧ ImAll H' ws (dd.map deedD), ⟨_, _, _, ys, [], rfl, rfl, (fun d m => by cases m), (Kx.of e1).trans k2, l2, k2 _ _ fa1 hf, imf.mv (l1.tx k2)⟩, ?_, ?_⟩
    · rintro i σ' H' hi ⟨o4, o5, o6, ws, dd, rfl, dl, dok, kx, lh, hw, imd⟩
      have wl : ws.length = i := by rw [imd.len, List.length_map, dl]
      refine q_parH (m := n + 1 + i * 3 + 1) (m2 := n + 1 + i * 3 + 2) (P := vB 5) (R := vB wires) (eh_sift (k := 5) lh (by omega) (by omega) (by omega) (as_h (ev_var rfl) ec_i)) (lB 5) (fun H3 k3 l3 => eh_sift (k := wires) l3 (by omega) w0 (by omega) (as_h (ev_var rfl) (ei_var rfl (.int _)))) fun a b H3 k3 l3 pa pb => ?_
      obtain ⟨way, hway, rfl⟩ := pa
      obtain ⟨u, hu', rfl⟩ := pb
      have hw3 := k3 _ _ fa1 hw
      have im3 := imd.mv (lh.tx k3)
      have l3' : LH h c ds (n + 1 + i * 3 + 2) H3 := l3
      have step : ∀ {H5 : Hp} {v : V} {d : Deed}, Kx h H3 H5 → LH h c ds (n + 1 + i * 3 + 3) H5 → Im H5 v (deedD d) → DeedOk wires d → (dd ++ [d]).length = i + 1 ∧ (∀ e ∈ dd ++ [d], DeedOk wires e) ∧ Kx h H (upd H5 fa (.lst (ws ++ [v]))) ∧ LH h c ds (n + 1 + (i + 1) * 3) (upd H5 fa (.lst (ws ++ [v]))) ∧ (upd H5 fa (.lst (ws ++ [v]))) fa = some (.lst (ws ++ [v])) ∧ ImAll (upd H5 fa (.lst (ws ++ [v]))) (ws ++ [v]) ((dd ++ [d]).map deedD) := fun {H5 v d} k5 l5 iv od => by
        have t5 := l3'.tx k5
        have t6 : Tx H5 (upd H5 fa (.lst (ws ++ [v]))) := Tx.lst (k5 _ _ fa1 hw3)
        refine ⟨by rw [List.length_append, dl]; rfl, fun e m => ?_, ((kx.trans k3).trans k5).mutf nf, (l5.oth fa1 fa2).le (by omega), upd_same, ?_⟩
        · rcases List.mem_append.mp m with m | m
          · exact dok e m
          · rw [List.mem_singleton] at m
            rw [m]
            exact od
        · rw [List.map_append]
          exact ((im3.mv t5).mv t6).app (.cons (iv.mv t6) .nil)
      refine s_ifT (et_t (eoB (g := fun i j => decide (i < j)) (ei_var rfl (.int _)) ec_i)) (fun hb H4 e4 => ?_) fun hb H4 e4 => ?_
      · refine s_appH (h := h) (c := c) (ds := ds) (m := n + 1 + i * 3 + 3) (P := fun v H2 => ∃ r : Nat, r < 8 ∧ Im H2 v (.tuple [.str "turn", dN u, dN r])) (ev_var rfl) (e4 _ _ hw3) fa1 (by omega) (fun H5 e5 => eh_t3 (f := fun r => r < 8) ((l3'.up e4).up e5) ec_s (fun _ _ => ei_var rfl (.int _)) fun H6 e6 l6 => eh_op (m := n + 1 + i * 3 + 2) (P := vI (.int 1)) (R := vB 7) l6 (.of l6 ec_i) (lI _) (fun H7 k7 l7 => eh_sift (k := 7) l7 (by omega) (by omega) (by omega) (as_h (ev_var rfl) ec_i)) fun x y H7 k7 l7 px py Q1 q1 => ?_) fun v H5 k5 l5 pv => ?_
        · obtain ⟨r, hr, rfl⟩ := py
          cases Im.isInt px
          exact ⟨1, (r : Int), rfl, rfl, q1 _ _ (Ex.refl _) ⟨1 + r, by omega, by show V.int (1 + (r : Int)) = V.int ((1 + r : Nat) : Int); rw [Int.natCast_add]; rfl⟩⟩
        · obtain ⟨r, hr, iv⟩ := pv
          exact ⟨_, _, _, _, _, rfl, step (d := .turn u r) ((Kx.of e4).trans k5) l5 iv ⟨hu', hr⟩⟩
      · refine s_ifT (et_or (et_t (eoB (g := fun i j => decide (i < j)) (ei_var rfl (.int _)) ec_i)) fun _ => et_t (e_eqI (ei_var rfl (.int _)) ec_i)) (fun hb2 H5 e5 => ?_) fun hb2 H5 e5 => ?_
        · refine s_appH (h := h) (c := c) (ds := ds) (m := n + 1 + i * 3 + 2) (P := vI (.tuple [.str "mix", dN u])) (ev_var rfl) (e5 _ _ (e4 _ _ hw3)) fa1 (by omega) (fun H6 e6 => .of (((l3'.up e4).up e5).up e6) (ep_tup (ea_cons ec_s (ea_cons (ei_var rfl (.int _)) ea_nil)) (by show 2 ≤ 100000; omega))) fun v H6 k6 l6 pv => ?_
          exact ⟨_, _, _, _, _, rfl, step (d := .mix u) ((Kx.of (e4.trans e5)).trans k6) (l6.le (by omega)) pv hu'⟩
        · have w2' : wires = 2 := by
            rw [Bool.or_eq_false_iff] at hb2
            have := of_decide_eq_false hb2.2
            omega
          refine s_appH (h := h) (c := c) (ds := ds) (m := n + 1 + i * 3 + 3) (P := fun v H2 => ∃ r : Nat, (r < wires ∧ r ≠ u) ∧ Im H2 v (.tuple [.str "sign", dN u, dN r])) (ev_var rfl) (e5 _ _ (e4 _ _ hw3)) fa1 (by omega) (fun H6 e6 => eh_t3 (f := fun r => r < wires ∧ r ≠ u) (((l3'.up e4).up e5).up e6) ec_s (fun _ _ => ei_var rfl (.int _)) fun H7 e7 l7 => eh_op (m := n + 1 + i * 3 + 3) (P := fun v _ => ∃ s : Nat, s < 1 ∧ v = .int ((u : Int) + 1 + (s : Int))) (R := vI (.int (wires : Nat))) l7 (eh_cb1 (P := fun v _ => ∃ s : Nat, s < 1 ∧ v = .int ((u : Int) + 1 + (s : Int))) (eh_op (m := n + 1 + i * 3 + 2) (P := vI (.int ((u : Int) + 1))) (R := vB 1) l7 (.of l7 (eo (g := fun i j => i + j) (ei_var rfl (.int _)) ec_i)) (lI _) (fun H8 k8 l8 => eh_sift (k := 1) l8 (by omega) (by omega) (by omega) (as_h (ev_var rfl) (EvP.isI (eo (g := fun i j => i - j) (ei_var rfl (.int _)) ec_i) (by omega)))) fun x y H8 k8 l8 px py Q1 q1 => ?_) fun v H8 pv Q1 q1 => ?_) (fun _ _ p => p) (fun H8 k8 l8 => .of l8 (ei_var rfl (.int _))) fun x y H8 k8 l8 px py Q1 q1 => ?_) fun v H6 k6 l6 pv => ?_
          · obtain ⟨r, hr, rfl⟩ := py
            cases Im.isInt px
            exact ⟨_, _, rfl, rfl, q1 _ _ (Ex.refl _) ⟨r, hr, rfl⟩⟩
          · obtain ⟨s, hs, rfl⟩ := pv
            exact .inl ⟨_, rfl, q1 _ ⟨s, hs, rfl⟩⟩
          · obtain ⟨s, hs, rfl⟩ := px
            cases Im.isInt py
            subst w2'
            refine ⟨_, _, rfl, rfl, by show (0 : Int) < 2; omega, q1 _ _ (Ex.refl _) ⟨(u + 1 + s) % 2, ⟨by omega, by omega⟩, ?_⟩⟩
            show V.int (((u : Int) + 1 + (s : Int)) % ((2 : Nat) : Int)) = V.int (((u + 1 + s) % 2 : Nat) : Int)
            congr 1
          · obtain ⟨r, hr, iv⟩ := pv
            exact ⟨_, _, _, _, _, rfl, step (d := .sign u r) ((Kx.of (e4.trans e5)).trans k6) l6 iv ⟨hu', hr.1, hr.2⟩⟩
    · rintro σ' H' ⟨o4, o5, o6, ws, dd, rfl, dl, dok, kx, lh, hw, imd⟩
      exact s_retP (P := vL (dd.map deedD)) (ep_var (k := 3) rfl (mL _) ⟨fa, ws, rfl, hw, imd⟩) fun v H5 e p => k dd v H5 (by omega) dok (kx.trans (Kx.of e)) ((lh.up e).le (by omega)) p
end
end Lk
end

section
set_option Elab.async false
set_option linter.all false
set_option maxRecDepth 100000
set_option maxHeartbeats 4000000
namespace Lk
open PySem PySem.Spec PyProof.Rows L2 Evl PySem.W C8
local macro_rules | `(tactic| walk_at "ex") => `(tactic| first | exact Ex.refl _ | assumption | (refine Ex.trans (H1 := ?g) ?a ?b; (case a => assumption); (case b => walk_at "ex")))
local macro_rules | `(tactic| walk_at "im") => `(tactic| first | assumption | exact Im.int _ | exact Im.bl _ | (refine Im.up (H := ?g) ?a ?b; (case a => assumption); (case b => walk_at "ex")))
local macro_rules | `(tactic| walk_at "ev") => `(tactic| first
  | exact ec_i | exact ec_b | exact ec_s | exact ec_n
  | (refine ei_var rfl ?_; walk_at "im")
  | (refine eo ?_ ?_ <;> walk_at "ev")
  | (refine eoB ?_ ?_ <;> walk_at "ev")
  | (refine e_eqI ?_ ?_ <;> walk_at "ev")
  | (refine e_neI ?_ ?_ <;> walk_at "ev")
  | (refine eu ?_ <;> walk_at "ev")
  | (refine e_not ?_ <;> walk_at "ev"))

section
variable {P : Program} {w : World} {K : PySem.W.Frag} {mg : Str → Option Value} {base : Heap} {c : Cs}
def rotA (x : Am) : Am := (-x.2.2.2, x.1, x.2.1, x.2.2.1)
def rotN : Nat → Am → Am
  | 0, x => x
  | k + 1, x => rotA (rotN k x)
def sumA (x y : Am) : Am := (x.1 + y.1, x.2.1 + y.2.1, x.2.2.1 + y.2.2.1, x.2.2.2 + y.2.2.2)
theorem g_am {K : PySem.W.Frag} {σ : L2.St} {H : Hp} {v : V} {x : Am} {Q : L2.St → Hp → Prop} {i j l m : Nat} (im : Im H v (am x)) (k : Q ((((σ.set i (some (.int x.1))).set j (some (.int x.2.1))).set l (some (.int x.2.2.1))).set m (some (.int x.2.2.2))) H) : gTup K 4 (gCons (gName i) (gCons (gName j) (gCons (gName l) (gCons (gName m) gNil)))) v σ H Q := by
  obtain ⟨q0, rfl, t0⟩ := am4 im
  exact ⟨q0, _, rfl, t0.sq, rfl, _, _, rfl, _, _, rfl, _, _, rfl, _, _, rfl, rfl, k⟩
theorem q_am {K : PySem.W.Frag} {σ : L2.St} {H : Hp} {te : TE} {x : Am} {tz : TS} {D : Ends} {i j l m : Nat} (h : EvP te σ H (vI (am x))) (k : ∀ H1, Ex H H1 → tz D ((((σ.set i (some (.int x.1))).set j (some (.int x.2.1))).set l (some (.int x.2.2.1))).set m (some (.int x.2.2.2))) H1) : tSeq (tAsg te (gTup K 4 (gCons (gName i) (gCons (gName j) (gCons (gName l) (gCons (gName m) gNil)))))) tz D σ H :=
  h H (Ex.refl H) _ fun v H1 e p => g_am p (k H1 e)
theorem s_am {K : PySem.W.Frag} {σ : L2.St} {H : Hp} {te : TE} {x : Am} {D : Ends} {i j l m : Nat} (h : EvP te σ H (vI (am x))) (k : ∀ H1, Ex H H1 → D.nx ((((σ.set i (some (.int x.1))).set j (some (.int x.2.1))).set l (some (.int x.2.2.1))).set m (some (.int x.2.2.2))) H1) : tAsg te (gTup K 4 (gCons (gName i) (gCons (gName j) (gCons (gName l) (gCons (gName m) gNil))))) D σ H :=
  h H (Ex.refl H) _ fun v H1 e p => g_am p (k H1 e)
theorem ep_am {σ : L2.St} {H : Hp} {ta tb tc td : TE} {x : Am} (h1 : EvP ta σ H (vI (.int x.1))) (h2 : EvP tb σ H (vI (.int x.2.1))) (h3 : EvP tc σ H (vI (.int x.2.2.1))) (h4 : EvP td σ H (vI (.int x.2.2.2))) : EvP (tTupZ (tCons ta (tCons tb (tCons tc (tCons td tNil))))) σ H (vI (am x)) := ep_tup (ds := [_, _, _, _]) (ea_cons h1 (ea_cons h2 (ea_cons h3 (ea_cons h4 ea_nil)))) (by show 4 ≤ _; omega)
/-! ### _law_turned -/
abbrev sp_law_turned : Sp := spF (fun x : Am × Int => a2 (vI (am x.1)) (vI (.int x.2))) fun x => vI (am (rotN (x.2 % 8).toNat x.1))
theorem c_law_turned (T : Txt K mg c) : Cal P w K mg base 1 "_law_turned" (sp_law_turned) [] := by
  refine mkCal T.d_law_turned sc_law_turned (fun _ _ _ _ _ _ us hl => match us, hl with | [_, _], _ => rfl) (fun vs H Q E h => ?_) (fun f cdv A outer s H vs Q E hr h => ?_)
  · obtain ⟨x, a, _⟩ := h
    obtain ⟨v0, v1, rfl, _⟩ := a2o a
    rfl
  · obtain ⟨x, a, k⟩ := h
    obtain ⟨v0, v1, rfl, p0, p1⟩ := a2o a
    have hu := hu_of hr
    refine ⟨_, pss_cons (ps_asg (pv 0) (pg_tupK K (n := 4) rfl (pgs_cons (pg_name (i := 2) sc_law_turned.nd rfl (Or.inl rfl)) (pgs_cons (pg_name (i := 3) sc_law_turned.nd rfl (Or.inl rfl)) (pgs_cons (pg_name (i := 4) sc_law_turned.nd rfl (Or.inl rfl)) (pgs_cons (pg_name (i := 5) sc_law_turned.nd rfl (Or.inl rfl)) (pgs_nil)))))))
      (pss_cons (ps_for PassesOwn.never rfl (pi_range1 (by rfl) T.b_range (pa_cons (pe_op op_mod (pe_callTy (T := "int") call_int1 (by rfl) T.b_int (by decide +kernel) (pa_cons (pv 1) (pa_nil))) (pe_int)) (pa_nil))) (pg_name (i := 6) sc_law_turned.nd rfl (Or.inl rfl))
      (pss_one (ps_asg (pe_tupZ (pa_cons (pe_un un_neg (pv 5)) (pa_cons (pv 2) (pa_cons (pv 3) (pa_cons (pv 4) (pa_nil)))))) (pg_tupK K (n := 4) rfl (pgs_cons (pg_name (i := 2) sc_law_turned.nd rfl (Or.inl rfl)) (pgs_cons (pg_name (i := 3) sc_law_turned.nd rfl (Or.inl rfl)) (pgs_cons (pg_name (i := 4) sc_law_turned.nd rfl (Or.inl rfl)) (pgs_cons (pg_name (i := 5) sc_law_turned.nd rfl (Or.inl rfl)) (pgs_nil)))))))))
      (pss_one (ps_ret (pe_tupZ (pa_cons (pv 2) (pa_cons (pv 3) (pa_cons (pv 4) (pa_cons (pv 5) (pa_nil))))))))), ?_⟩
    obtain ⟨x, t⟩ := x
    dsimp only at p0 p1
    have t0 : 0 ≤ t % 8 := Int.emod_nonneg _ (by omega)
    have t1 : t % 8 < 8 := Int.emod_lt_of_pos _ (by omega)
    refine q_am (ei_var rfl p0) fun H1 e1 => ?_
    refine q_forR (k := (t % 8).toNat) (EvP.isI (eoC (g := fun i j => i % j) (e_int (ei_var rfl (p1.up e1))) ec_i (by show (0 : Int) < 8; omega)) (Int.toNat_of_nonneg t0).symm) (by omega) fun H2 e2 => ⟨fun i σ' H' => ∃ o6, σ' = [some v0, some v1, some (.int (rotN i x).1), some (.int (rotN i x).2.1), some (.int (rotN i x).2.2.1), some (.int (rotN i x).2.2.2), o6] ∧ Ex H H', ⟨_, rfl, e1.trans e2⟩, ?_, ?_⟩
    · rintro i σ' H' hi ⟨o6, rfl, eH⟩
      exact s_am (x := rotN (i + 1) x) (ep_am (eu (g := fun i => -i) (ei_var rfl (.int _))) (ei_var rfl (.int _)) (ei_var rfl (.int _)) (ei_var rfl (.int _))) fun H3 e3 => ⟨_, rfl, eH.trans e3⟩
    · rintro σ' H' ⟨o6, rfl, eH⟩
      exact s_retP (P := vI (am (rotN (t % 8).toNat x))) (ep_am (ei_var rfl (.int _)) (ei_var rfl (.int _)) (ei_var rfl (.int _)) (ei_var rfl (.int _))) fun v H3 e p => k v H3 (eH.trans e) p
/-! ### _law_sum -/
abbrev sp_law_sum : Sp := spF (fun x : Am × Am => a2 (vI (am x.1)) (vI (am x.2))) fun x => vI (am (sumA x.1 x.2))
theorem c_law_sum (T : Txt K mg c) : Cal P w K mg base 1 "_law_sum" (sp_law_sum) [] := by
  refine mkCal T.d_law_sum sc_law_sum (fun _ _ _ _ _ _ us hl => match us, hl with | [_, _], _ => rfl) (fun vs H Q E h => ?_) (fun f cdv A outer s H vs Q E hr h => ?_)
  · obtain ⟨x, a, _⟩ := h
    obtain ⟨v0, v1, rfl, _⟩ := a2o a
    rfl
  · obtain ⟨x, a, k⟩ := h
    obtain ⟨v0, v1, rfl, p0, p1⟩ := a2o a
    have hu := hu_of hr
    refine ⟨_, pss_one (ps_ret (pe_callTy (T := "tuple") (cr_tupleK K) (by rfl) T.b_tuple (by decide +kernel) (pa_cons (pe_lc (own := [("_law_mine", 2), ("_law_its", 3)]) rfl sc_law_sum.nd (pi_zipK K (by rfl) T.b_zip (pa_cons (pv 0) (pa_cons (pv 1) (pa_nil)))) (blkOk_by (N := N_law_sum) (sc := defScope s_law_sum) (own := [("_law_mine", 2), ("_law_its", 3)]) (by decide +kernel)) (fun _ _ _ _ _ => pg_tupK K (n := 2) rfl (pgs_cons (pg_name (i := 2) sc_law_sum.nd rfl (Or.inl rfl)) (pgs_cons (pg_name (i := 3) sc_law_sum.nd rfl (Or.inl rfl)) (pgs_nil)))) (fun _ _ _ _ _ => pts_nil) (fun _ _ _ _ _ => pe_op op_add (pv 2) (pv 3))) (pa_nil)))), ?_⟩
    obtain ⟨x, y⟩ := x
    dsimp only at p0 p1
    refine s_retP (P := vI (am (sumA x y))) (e_tuple (vSL (lc_PZ1 (xs := [x.1, x.2.1, x.2.2.1, x.2.2.2].zip [y.1, y.2.1, y.2.2.1, y.2.2.2]) (e1 := fun p : Int × Int => .int p.1) (e2 := fun p : Int × Int => .int p.2) (fun p => .int (p.1 + p.2)) (src_Z (xs := [x.1, x.2.1, x.2.2.1, x.2.2.2]) (ys := [y.1, y.2.1, y.2.2.1, y.2.2.2]) (enc := PyData.int) (enc2 := PyData.int) (Nat.le_refl _) (ea1 (mI _) (ei_var rfl p0) (ea_1 (mI _) (ei_var rfl p1))) fun vs H2 a => ?_) (by show 4 ≤ 50000; omega) (fun _ _ => rfl) fun p y z H2 m e i1 i2 => eo (g := fun i j => i + j) (ei_var rfl i1) (ei_var rfl i2)))) fun v H1 e p => k v H1 e p
    obtain ⟨v, w, rfl, q1, q2⟩ := a2o a
    obtain ⟨q, us, rfl, t1, i1⟩ := Im.isTup q1
    obtain ⟨b, ws, rfl, t2, i2⟩ := Im.isTup q2
    exact ⟨q, b, us, ws, rfl, .inr ⟨t1.sq, t2.sq⟩, i1, i2⟩
def phase (w : List (Nat × Nat)) (n k : Nat) : Int := ((List.range n).map fun t => (((w.getD t (0, 0)).1 * (k / 2 ^ t % 2) : Nat) : Int)).sum
def oneA : Am := (1, 0, 0, 0)
def prodA (w : List (Nat × Nat)) (n k l : Nat) : Am := timesA (rotN (phase w n k % 8).toNat oneA) (mirrorA (rotN (phase w n l % 8).toNat oneA))
def prodsA (ws : List (List (Nat × Nat))) (n k l : Nat) : Am := ws.foldl (fun a w => sumA a (prodA w n k l)) (0, 0, 0, 0)
theorem rot_small : ∀ k : Nat, k < 8 → smallA (rotN k oneA) := fun k h => by
  have : ∀ k : Fin 8, smallA (rotN k.val oneA) := by
    intro k
    unfold smallA
    revert k
    decide
  exact this ⟨k, h⟩
/-! ### _law_products -/
abbrev sp_law_products : Sp := spP (fun x : List (List (Nat × Nat)) × Nat × Nat × Nat => x.2.1 ≤ 8 ∧ ∀ w ∈ x.1, w.length = x.2.1) (fun x => a4 (vI (.tuple (x.1.map wayD))) (vI (dN x.2.1)) (vI (dN x.2.2.1)) (vI (dN x.2.2.2))) fun x => vI (am (prodsA x.1 x.2.1 x.2.2.1 x.2.2.2))
theorem c_law_products (T : Txt K mg c) : Cal P w K mg base 5 "_law_products" (sp_law_products) [] := by
  have c_law_sum := c_law_sum (P := P) (w := w) (base := base) T
  have c_law_turned := c_law_turned (P := P) (w := w) (base := base) T
  have c_mirrored := c_mirrored (P := P) (w := w) (base := base) T
  have c_multiplied := c_multiplied (P := P) (w := w) (base := base) T
  refine mkCal T.d_law_products sc_law_products (fun _ _ _ _ _ _ us hl => match us, hl with | [_, _, _, _], _ => rfl) (fun vs H Q E h => ?_) (fun f cdv A outer s H vs Q E hr h => ?_)
  · obtain ⟨x, hx, a, _⟩ := h
    obtain ⟨v0, v1, v2, v3, rfl, _⟩ := a4o a
    rfl
  · obtain ⟨x, hx, a, k⟩ := h
    obtain ⟨v0, v1, v2, v3, rfl, p0, p1, p2, p3⟩ := a4o a
    have hu := hu_of hr
    refine ⟨_, pss_cons (ps_set (i := 4) sc_law_products.nd rfl (Or.inl rfl) (pe_tupZ (pa_cons (pe_int) (pa_cons (pe_int) (pa_cons (pe_int) (pa_cons (pe_int) (pa_nil)))))))
      (pss_cons (ps_for PassesOwn.never rfl (pi_seqK K (pv 0)) (pg_name (i := 5) sc_law_products.nd rfl (Or.inr rfl))
      (pss_cons (ps_setLc (i := 6) (own := [("_law_number", 7)]) rfl sc_law_products.nd rfl rfl (sw_true rfl rfl rfl (by decide +kernel)) (pi_seqK K (pe_tupZ (pa_cons (pv 2) (pa_cons (pv 3) (pa_nil))))) (blkOk_by (N := N_law_products) (sc := defScope s_law_products) (own := [("_law_number", 7)]) (by decide +kernel)) (fun _ _ _ _ _ => pg_name (i := 7) sc_law_products.nd rfl (Or.inr rfl)) (fun _ _ _ _ _ => pts_nil) (fun _ _ _ _ _ => pe_callB (id := "sum") (cr_sumK K rfl) (by rfl) T.b_sum (by decide +kernel) (pa_cons (pe_lc (own := [("_law_thing", 8)]) rfl sc_law_products.nd (pi_range1 (by rfl) T.b_range (pa_cons (pv 1) (pa_nil))) (blkOk_by (own := [("_law_thing", 8)]) (by rfl)) (fun _ _ _ _ _ => pg_name (i := 8) sc_law_products.nd rfl (Or.inl rfl)) (fun _ _ _ _ _ => pts_nil) (fun _ _ _ _ _ => pe_op op_mul (pe_ix (ix_seqK K) (pe_ix (ix_seqK K) (pv 5) (pv 8) (fun _ _ => rfl)) (pe_int) (fun _ _ => rfl)) (pe_op op_mod (pe_callTy (T := "int") call_int1 (by rfl) T.b_int (by decide +kernel) (pa_cons (pe_op op_shr (pv 7) (pv 8)) (pa_nil))) (pe_int)))) (pa_nil))))
      (pss_one (ps_set (i := 4) sc_law_products.nd rfl (Or.inl rfl) (pe_c c_law_sum hr (by decide) (by rfl) (pa_cons (pv 4) (pa_cons (pe_c c_multiplied hr (by decide) (by rfl) (pa_cons (pe_c c_law_turned hr (by decide) (by rfl) (pa_cons (pe_tupZ (pa_cons (pe_int) (pa_cons (pe_int) (pa_cons (pe_int) (pa_cons (pe_int) (pa_nil)))))) (pa_cons (pe_ix (ix_seqK K) (pv 6) (pe_int) (fun _ _ => rfl)) (pa_nil)))) (pa_cons (pe_c c_mirrored hr (by decide) (by rfl) (pa_cons (pe_c c_law_turned hr (by decide) (by rfl) (pa_cons (pe_tupZ (pa_cons (pe_int) (pa_cons (pe_int) (pa_cons (pe_int) (pa_cons (pe_int) (pa_nil)))))) (pa_cons (pe_ix (ix_seqK K) (pv 6) (pe_int) (fun _ _ => rfl)) (pa_nil)))) (pa_nil))) (pa_nil)))) (pa_nil))))))))
      (pss_one (ps_ret (pv 4)))), ?_⟩
    obtain ⟨ws, n, ka, kb⟩ := x
    obtain ⟨n8, wl⟩ := hx
    dsimp only at n8 wl p0 p1 p2 p3
    refine q_set (P := vI (am (0, 0, 0, 0))) (ep_am ec_i ec_i ec_i ec_i) fun vw H1 e1 pw => ?_
    refine q_for (xs := ws) (enc := wayD) (st_T (ei_var rfl (p0.up e1))) fun H2 e2 => ⟨fun l σ' H' => ∃ vw o5 o6 o7 o8, σ' = [some v0, some v1, some v2, some v3, some vw, o5, o6, o7, o8] ∧ Ex H H' ∧ Im H' vw (am (prodsA l n ka kb)), ⟨_, _, _, _, _, rfl, e1.trans e2, pw.up e2⟩, ?_, ?_⟩
    · rintro l w r vy σ' H' G hlt tx ⟨vw, o5, o6, o7, o8, rfl, eH, iw⟩ ex im
      have wn : w.length = n := wl w (by rw [hlt]; exact List.mem_append_right _ List.mem_cons_self)
      have eG := eH.trans ex
      refine q_set (P := vL (([ka, kb].map fun k => phase w n k).map .int)) (EvP.isL (lc_N1 (xs := [ka, kb]) (enc := dN) (fun k => .int (phase w n k)) (src_S (vST (ep_tup (ds := [dN ka, dN kb]) (ea_cons (ei_var rfl (p2.up eG)) (ea_cons (ei_var rfl (p3.up eG)) ea_nil)) (by show 2 ≤ 100000; omega)))) (by show 2 ≤ 50000; omega) (fun _ => rfl) fun k y H3 m e i => e_sum (xs := List.range n) (f := fun t => (((w.getD t (0, 0)).1 * (k / 2 ^ t % 2) : Nat) : Int)) (lc_N1 (enc := dN) (fun t => .int (((w.getD t (0, 0)).1 * (k / 2 ^ t % 2) : Nat) : Int)) (src_rng (src_R1 (ea_1 (mI _) (ei_var rfl (p1.up (eG.trans e)))) (by omega))) (by rw [List.length_range]; omega) (fun _ => rfl) fun t z H4 m2 e4 i2 => ?_)) rfl) fun vt H3 e3 pt => ?_
      · have tn := List.mem_range.mp m2
        have ge : w[t]? = some (w.getD t (0, 0)) := by rw [List.getD_eq_getElem?_getD, List.getElem?_eq_getElem (by omega)]; rfl
        have k2 : ((k / 2 ^ t % 2 : Nat) : Int) < 2 := by omega
        exact EvP.isI (eoC (g := fun i j => i * j) (e_ix (n := 0) (ds := [dN (w.getD t (0, 0)).1, dN (w.getD t (0, 0)).2]) (vST (e_ix (n := t) (ds := w.map pD) (vST (ei_var rfl ((im.up e).up e4))) (ei_var rfl i2) (by rw [List.getElem?_map, ge]; rfl))) ec_i rfl) (eoC (g := fun i j => i % j) (e_int (e_shrN (ei_var rfl (i.up e4)) (ei_var rfl i2))) ec_i (by show (0 : Int) < 2; omega)) (.inr (by omega))) (by rw [Int.natCast_mul]; rfl)
      · have z : ∀ k, 0 ≤ phase w n k % 8 := fun k => Int.emod_nonneg _ (by omega)
        have z8 : ∀ k, (phase w n k % 8).toNat < 8 := fun k => by have := Int.emod_lt_of_pos (phase w n k) (show (0 : Int) < 8 by omega); omega
        refine s_set (P := vI (am (sumA (prodsA l n ka kb) (prodA w n ka kb)))) (ep_callF (prodsA l n ka kb, prodA w n ka kb) (ea1 (mI _) (ei_var rfl ((iw.up ex).up e3)) (ea_1 (mI _) (ep_callP (rotN (phase w n ka % 8).toNat oneA, mirrorA (rotN (phase w n kb % 8).toNat oneA)) (rot_small _ (z8 ka)) (ea1 (mI _) (ep_callF (oneA, phase w n ka) (ea1 (mI _) (ep_am (x := oneA) ec_i ec_i ec_i ec_i) (ea_1 (mI _) (e_ix (n := 0) (vSL (ep_var rfl (mL _) pt)) ec_i rfl)))) (ea_1 (mI _) (ep_callF (rotN (phase w n kb % 8).toNat oneA) (ea_1 (mI _) (ep_callF (oneA, phase w n kb) (ea1 (mI _) (ep_am (x := oneA) ec_i ec_i ec_i ec_i) (ea_1 (mI _) (e_ix (n := 1) (vSL (ep_var rfl (mL _) pt)) ec_i rfl)))))))))))) fun v H4 e4 pv => ?_
        refine ⟨(tx.trans (Tx.of ex)).trans (Tx.of (e3.trans e4)), _, _, _, _, _, rfl, eG.trans (e3.trans e4), ?_⟩
        unfold prodsA at pv ⊢
        rw [List.foldl_append]
        exact pv
    · rintro σ' H' tx ⟨vw, o5, o6, o7, o8, rfl, eH, iw⟩
      exact s_retP (P := vI (am (prodsA ws n ka kb))) (ei_var rfl iw) fun v H3 e p => k v H3 (eH.trans e) p
end
end Lk
end

section
set_option Elab.async false
set_option linter.all false
set_option maxRecDepth 100000
set_option maxHeartbeats 4000000
namespace Lk
open PySem PySem.Spec PyProof.Rows L2 Evl PySem.W C8
local macro_rules | `(tactic| walk_at "ex") => `(tactic| first | exact Ex.refl _ | assumption | (refine Ex.trans (H1 := ?g) ?a ?b; (case a => assumption); (case b => walk_at "ex")))
local macro_rules | `(tactic| walk_at "im") => `(tactic| first | assumption | exact Im.int _ | exact Im.bl _ | (refine Im.up (H := ?g) ?a ?b; (case a => assumption); (case b => walk_at "ex")))
local macro_rules | `(tactic| walk_at "ev") => `(tactic| first
  | exact ec_i | exact ec_b | exact ec_s | exact ec_n
  | (refine ei_var rfl ?_; walk_at "im")
  | (refine eo ?_ ?_ <;> walk_at "ev")
  | (refine eoB ?_ ?_ <;> walk_at "ev")
  | (refine e_eqI ?_ ?_ <;> walk_at "ev")
  | (refine e_neI ?_ ?_ <;> walk_at "ev")
  | (refine eu ?_ <;> walk_at "ev")
  | (refine e_not ?_ <;> walk_at "ev"))

section
variable {P : Program} {w : World} {K : PySem.W.Frag} {mg : Str → Option Value} {base : Heap} {c : Cs}
def tIfT (tc ta tb : TT) : TT := fun σ H Q => tc σ H fun k H1 => if k = true then ta σ H1 Q else tb σ H1 Q
theorem pt_ifE {X : Cx} {cc a b : Expr} {pos : Pos} {tc ta tb : TT} (hc : PT X cc tc) (ha : PT X a ta) (hb : PT X b tb) : PT X (.IfExp cc a b pos) (tIfT tc ta tb) := by
  refine ⟨fun pins s σ H Q I h => ?_⟩
  rw [arm_isTrue_IfExp]
  refine wpAny_bind (thn (hc.run pins s σ H _ I h) fun d s1 ⟨H1, I1, q1⟩ => ?_)
  cases d with
  | true => exact ha.run pins s1 σ H1 Q I1 q1
  | false => exact hb.run pins s1 σ H1 Q I1 q1
theorem et_ifE {σ : L2.St} {H : Hp} {tc ta tb : TT} {k a b : Bool} (h : EvT tc σ H k) (h1 : k = true → EvT ta σ H a) (h2 : k = false → EvT tb σ H b) : EvT (tIfT tc ta tb) σ H (if k then a else b) := fun H1 e Q q => h H1 e _ fun H2 e2 => by
  cases k with
  | true => exact h1 rfl H2 (e.trans e2) Q fun H3 e3 => q H3 (e2.trans e3)
  | false => exact h2 rfl H2 (e.trans e2) Q fun H3 e3 => q H3 (e2.trans e3)
def exL (lots : List (Nat × List Nat)) (t : Nat) : List Nat := (lots.filter fun r => decide (t ∈ r.2)).map (·.1)
def metL (ss : List (Nat × Nat)) (lot : List Nat) (t : Nat) : List (Nat × Nat) := ss.filter fun p => decide (t ∈ [p.1, p.2]) && (if p.2 = t then decide (p.1 ∈ lot) else decide (p.2 ∈ lot))
def sgL (ss : List (Nat × Nat)) (lots : List (Nat × List Nat)) (t : Nat) : List Nat := (lots.filter fun r => (!decide (r.1 = t)) && decide ((metL ss r.2 t).length % 2 = 1)).map (·.1)
theorem p_at {K : PySem.W.Frag} {σ : L2.St} {H : Hp} {ta : TE} {p : Nat × Nat} (h : EvP ta σ H (vI (pD p))) : EvP (tOp (rIx K) ta (tC (.int 0))) σ H (vI (dN p.1)) ∧ EvP (tOp (rIx K) ta (tC (.int 1))) σ H (vI (dN p.2)) := ⟨e_ix (n := 0) (vST h) ec_i rfl, e_ix (n := 1) (vST h) ec_i rfl⟩
/-! ### _law_waits -/
abbrev sp_law_waits : Sp := spP (fun x : List (Nat × Nat) × List (Nat × List Nat) × Nat => x.1.length ≤ 100 ∧ x.2.1.length ≤ 100) (fun x => a4 (fun _ _ => True) (vL (x.1.map pD)) (vL (x.2.1.map rowD)) (vI (dN x.2.2))) fun x => vP (vL ((exL x.2.1 x.2.2).map dN)) (vL ((sgL x.1 x.2.1 x.2.2).map dN))
theorem c_law_waits (T : Txt K mg c) : Cal P w K mg base 1 "_law_waits" (sp_law_waits) [] := by
  refine mkCal T.d_law_waits sc_law_waits (fun _ _ _ _ _ _ us hl => match us, hl with | [_, _, _, _], _ => rfl) (fun vs H Q E h => ?_) (fun f cdv A outer s H vs Q E hr h => ?_)
  · obtain ⟨x, hx, a, _⟩ := h
    obtain ⟨v0, v1, v2, v3, rfl, _⟩ := a4o a
    rfl
  · obtain ⟨x, hx, a, k⟩ := h
    obtain ⟨v0, v1, v2, v3, rfl, p0, p1, p2, p3⟩ := a4o a
    have hu := hu_of hr
    refine ⟨_, pss_cons (ps_set (i := 4) sc_law_waits.nd rfl (Or.inl rfl) (pe_lst (pa_nil)))
      (pss_cons (ps_for PassesOwn.never rfl (pi_seqK K (pv 2)) (pg_tupK K (n := 2) rfl (pgs_cons (pg_name (i := 5) sc_law_waits.nd rfl (Or.inl rfl)) (pgs_cons (pg_name (i := 6) sc_law_waits.nd rfl (Or.inr rfl)) (pgs_nil))))
      (pss_cons (ps_setLc (i := 7) (own := [("_law_pair", 8)]) rfl sc_law_waits.nd rfl rfl (sw_true rfl rfl rfl (by decide +kernel)) (pi_seqK K (pv 1)) (blkOk_by (N := N_law_waits) (sc := defScope s_law_waits) (own := [("_law_pair", 8)]) (by decide +kernel)) (fun _ _ _ _ _ => pg_name (i := 8) sc_law_waits.nd rfl (Or.inl rfl)) (fun _ _ _ _ _ => pts_one ((pw_and (pt_cmpR (op_inK K) (pv 3) (pv 8) (by rfl)) (pw_and1 (pt_ifE (pt_cmpR op_eq (pe_ix (ix_seqK K) (pv 8) (pe_int) (fun _ _ => rfl)) (pv 3) (nomark _)) (pt_cmpR (op_inK K) (pe_ix (ix_seqK K) (pv 8) (pe_int) (fun _ _ => rfl)) (pv 6) (by rfl)) (pt_cmpR (op_inK K) (pe_ix (ix_seqK K) (pv 8) (pe_int) (fun _ _ => rfl)) (pv 6) (by rfl))))).pt)) (fun _ _ _ _ _ => pv 8))
      (pss_one (ps_if ((pw_and (pt_cmpR op_ne (pv 5) (pv 3) (nomark _)) (pw_and1 (pt_cmpR op_eq (pe_op op_mod (pe_callTy (T := "int") call_int1 (by rfl) T.b_int (by decide +kernel) (pa_cons (pe_callB (id := "len") (cr_lenK K) (by rfl) T.b_len (by decide +kernel) (pa_cons (pv 7) (pa_nil))) (pa_nil))) (pe_int)) (pe_int) (nomark _)))).pt) (pss_one (ps_expr (pe_bm PySem.F.plainAttrs_list PySem.F.slot_list_append PySem.F.type_list_append mt_append (pv 4) (pa_cons (pv 5) (pa_nil))))) (pss_nil)))))
      (pss_one (ps_ret (pe_tupZ (pa_cons (pe_lc (own := [("_law_other", 5), ("_law_lot", 6)]) rfl sc_law_waits.nd (pi_seqK K (pv 2)) (blkOk_by (N := N_law_waits) (sc := defScope s_law_waits) (own := [("_law_other", 5), ("_law_lot", 6)]) (by decide +kernel)) (fun _ _ _ _ _ => pg_tupK K (n := 2) rfl (pgs_cons (pg_name (i := 5) sc_law_waits.nd rfl (Or.inl rfl)) (pgs_cons (pg_name (i := 6) sc_law_waits.nd rfl (Or.inl rfl)) (pgs_nil)))) (fun _ _ _ _ _ => pts_one (pt_cmpR (op_inK K) (pv 3) (pv 6) (by rfl))) (fun _ _ _ _ _ => pv 5)) (pa_cons (pv 4) (pa_nil))))))), ?_⟩
    obtain ⟨ss, lots, t⟩ := x
    obtain ⟨ls, ll⟩ := hx
    dsimp only at ls ll p1 p2 p3
    refine q_set (P := vF H []) ep_nilF fun vf H1 e1 pf => ?_
    obtain ⟨fa, ys, rfl, nf, hf, imf⟩ := pf
    rw [imN_of (ts := []) imf] at hf
    obtain ⟨lp, lws, rfl, hlp, lim⟩ := mL _ _ _ _ e1 p2
    have nlp : lp ≠ fa := fun z => by
      obtain ⟨q, us, z1, z2, _⟩ := p2
      cases z1
      rw [z, nf] at z2
      cases z2
    refine q_forLv (xs := lots) (enc := rowD) (p := lp) (ws := lws) rfl hlp lim (fun l σ' H' => ∃ o5 o6 o7 o8, σ' = [some v0, some v1, some (.ref lp), some v3, some (.ref fa), o5, o6, o7, o8] ∧ Ex H H' ∧ H' fa = some (.lst ((sgL ss l t).map vN)) ∧ H' lp = some (.lst lws)) ⟨_, _, _, _, rfl, e1, hf, hlp⟩ (fun l σ' H' p => by obtain ⟨_, _, _, _, _, _, _, h⟩ := p; exact h) ?_ ?_
    · rintro l r q y σ' H' hlt tx ⟨o5, o6, o7, o8, rfl, eH, hfa, hl'⟩ im
      have ll2 : l.length ≤ 100 := by
        have := congrArg List.length hlt
        rw [List.length_append] at this
        omega
      refine g_pair im fun vo vl io il => ?_
      refine q_set (P := vL ((metL ss r.2 t).map pD)) (lc_N (xs := ss) (enc := pD) (fun p => decide (t ∈ [p.1, p.2]) && (if p.2 = t then decide (p.1 ∈ r.2) else decide (p.2 ∈ r.2))) pD (src_S (vSL (ep_var rfl (mL _) (mL _ _ _ _ eH p1)))) (by omega) (fun _ => rfl) (fun p z H3 m e i => ?_) fun p z H3 m ht e i => ei_var rfl i) fun vm H3 e3 pm => ?_
      · have i3 := p3.up (eH.trans e)
        refine et_and (et_t (e_inN (ns := [p.1, p.2]) (ei_var rfl i3) (vST (ei_var rfl i)))) fun _ => et_isb (et_ifE (et_t (e_eqN (p_at (ei_var rfl i)).2 (ei_var rfl i3))) (fun _ => et_t (e_inN (ns := r.2) (p_at (ei_var rfl i)).1 (vST (ei_var rfl (il.up e))))) fun _ => et_t (e_inN (ns := r.2) (p_at (ei_var rfl i)).2 (vST (ei_var rfl (il.up e))))) ?_
        by_cases z : p.2 = t
        · rw [if_pos z, if_pos (decide_eq_true z)]
        · rw [if_neg z, if_neg (by simp [z])]
      · have sgs : ∀ b : Bool, ((!decide (r.1 = t)) && decide ((metL ss r.2 t).length % 2 = 1)) = b → sgL ss (l ++ [r]) t = sgL ss l t ++ (if b then [r.1] else []) := fun b hb => by
          unfold sgL
          rw [List.filter_append, List.map_append]
          congr 1
          simp only [List.filter, hb]
          cases b <;> rfl
        have hfa3 := e3 _ _ hfa
        refine s_when (et_and (et_t (e_neN (ei_var rfl (io.up e3)) (ei_var rfl (p3.up (eH.trans e3))))) fun _ => et_isb (et_t (e_eqI (eoC (g := fun i j => i % j) (e_int (e_len (vSL (ep_var rfl (mL _) pm)))) ec_i (by show (0 : Int) < 2; omega)) ec_i)) (b := decide ((metL ss r.2 t).length % 2 = 1)) (by rw [List.length_map, decide_eq_decide]; omega)) (fun hb H4 e4 => ?_) fun hb H4 e4 => ?_
        · refine s_appP (l := fa) (P := vI (dN r.1)) (ev_var rfl) (e4 _ _ hfa3) (ei_var rfl ((io.up e3).up e4)) (by rw [List.length_map]; unfold sgL; rw [List.length_map]; have := List.length_filter_le (fun r : Nat × List Nat => (!decide (r.1 = t)) && decide ((metL ss r.2 t).length % 2 = 1)) l; omega) fun v H5 e5 pv => ?_
          cases Im.isInt pv
          have hf5 := e5 _ _ (e4 _ _ hfa3)
          refine ⟨(tx.trans (Tx.of (e3.trans (e4.trans e5)))).trans (Tx.lst hf5), _, _, _, _, rfl, (eH.trans (e3.trans (e4.trans e5))).mut nf, ?_, by rw [upd_ne nlp]; exact (e3.trans (e4.trans e5)) _ _ hl'⟩
          rw [upd_same, sgs true hb, List.map_append]
          rfl
        · refine ⟨tx.trans (Tx.of (e3.trans e4)), _, _, _, _, rfl, eH.trans (e3.trans e4), ?_, (e3.trans e4) _ _ hl'⟩
          rw [sgs false hb]
          show H4 fa = some (.lst ((sgL ss l t ++ []).map vN))
          rw [List.append_nil]
          exact e4 _ _ hfa3
    · rintro σ' H' tx ⟨o5, o6, o7, o8, rfl, eH, hfa, hl'⟩
      refine s_retP (P := vP (vL ((exL lots t).map dN)) (vL ((sgL ss lots t).map dN))) (ep_pair (EvP.isL (lc_P (xs := lots) (e1 := fun r : Nat × List Nat => dN r.1) (e2 := fun r : Nat × List Nat => tupN r.2) (fun r => decide (t ∈ r.2)) (fun r => dN r.1) (src_S (vSL (ep_var rfl (mL _) (mL _ _ _ _ eH p2)))) (by omega) (fun _ _ => rfl) (fun r y z H3 m e i1 i2 => et_t (e_inN (ns := r.2) (ei_var rfl (p3.up (eH.trans e))) (vST (ei_var rfl i2)))) fun r y z H3 m ht e i1 i2 => ei_var rfl i1) (by unfold exL; rw [List.map_map]; rfl)) (ep_var (k := 4) rfl (mL _) ⟨fa, _, rfl, hfa, imN _⟩) (mL _) (mL _)) fun v H3 e p => k v H3 (eH.trans e) p
end
end Lk
end

section
set_option Elab.async false
set_option linter.all false
set_option maxRecDepth 100000
set_option maxHeartbeats 4000000
namespace Lk
open PySem PySem.Spec PyProof.Rows L2 Evl PySem.W C8
local macro_rules | `(tactic| walk_at "ex") => `(tactic| first | exact Ex.refl _ | assumption | (refine Ex.trans (H1 := ?g) ?a ?b; (case a => assumption); (case b => walk_at "ex")))
local macro_rules | `(tactic| walk_at "im") => `(tactic| first | assumption | exact Im.int _ | exact Im.bl _ | (refine Im.up (H := ?g) ?a ?b; (case a => assumption); (case b => walk_at "ex")))
local macro_rules | `(tactic| walk_at "ev") => `(tactic| first
  | exact ec_i | exact ec_b | exact ec_s | exact ec_n
  | (refine ei_var rfl ?_; walk_at "im")
  | (refine eo ?_ ?_ <;> walk_at "ev")
  | (refine eoB ?_ ?_ <;> walk_at "ev")
  | (refine e_eqI ?_ ?_ <;> walk_at "ev")
  | (refine e_neI ?_ ?_ <;> walk_at "ev")
  | (refine eu ?_ <;> walk_at "ev")
  | (refine e_not ?_ <;> walk_at "ev"))

section
variable {P : Program} {w : World} {K : PySem.W.Frag} {mg : Str → Option Value} {base : Heap} {c : Cs}
abbrev rDictP (K : PySem.W.Frag) : List V → Hp → VK → Prop := fun xs H Q => ∃ (a : Addr) (ps : List Addr) (kvs : List (Key × V)), xs = [.ref a] ∧ SqL K H a (ps.map V.ref) ∧ Paired (fun p kv => SqT K H p [kV kv.1, kv.2]) ps kvs ∧
    ∀ p, H p = none → Q (.ref p) (upd H p (.dK (mergeK [] kvs)))
theorem cr_dictP {X : Cx} (K : PySem.W.Frag) (hc : X.calm = true) (hK : X.K = K := by rfl) : CallR X (.type "dict") (rDictP K) := by
  subst hK
  exact call_dictP hc
theorem e_dictL {K : PySem.W.Frag} {σ : L2.St} {H : Hp} {te : TE} {ps : List (Nat × PyData)} (h : EvP te σ H (vL (ps.map prD))) : EvP (tCB (rDictP K) (tCons te tNil)) σ H (vDF H (mergeA [] ps)) := fun H1 e Q q => h H1 e _ fun v H2 e2 p => by
  obtain ⟨a, ws, rfl, t, im⟩ := p
  obtain ⟨as, kvs, rfl, pr, dk⟩ := pairs_im (K := K) im
  exact ⟨a, as, kvs, rfl, SqL.of t, pr, fun d hd => q _ _ (e2.trans (Ex.new hd)) ⟨d, _, rfl, fresh_back (e.trans e2) hd, upd_same, DkIm.merge .nil (dk.mv (Tx.new hd))⟩⟩
def vT4 (P R S T : VP) : VP := fun v H => ∃ p a b c d, v = .ref p ∧ Tz H p [a, b, c, d] ∧ P a H ∧ R b H ∧ S c H ∧ T d H
theorem mT4 {P R S T : VP} (m1 : Mono P) (m2 : Mono R) (m3 : Mono S) (m4 : Mono T) : Mono (vT4 P R S T) := fun _ _ _ e h => by
  obtain ⟨p, a, b, c, d, r, t, h1, h2, h3, h4⟩ := h
  exact ⟨p, a, b, c, d, r, t.up e, m1 _ _ _ e h1, m2 _ _ _ e h2, m3 _ _ _ e h3, m4 _ _ _ e h4⟩
theorem lT4 {P R S T : VP} (m1 : Lm P) (m2 : Lm R) (m3 : Lm S) (m4 : Lm T) : Lm (vT4 P R S T) := fun l k h => by
  obtain ⟨p, a, b, c, d, r, t, h1, h2, h3, h4⟩ := h
  exact ⟨p, a, b, c, d, r, l.tx k _ _ t, m1 l k h1, m2 l k h2, m3 l k h3, m4 l k h4⟩
section
variable {K : PySem.W.Frag} {σ : L2.St} {H : Hp} {te ta tb tc td : TE} {P R S T : VP} {tz : TS} {D : Ends} {i j l m : Nat}
theorem ep_t4 (h1 : EvP ta σ H P) (h2 : EvP tb σ H R) (h3 : EvP tc σ H S) (h4 : EvP td σ H T) (m1 : Mono P) (m2 : Mono R) (m3 : Mono S) (m4 : Mono T) : EvP (tTupZ (tCons ta (tCons tb (tCons tc (tCons td tNil))))) σ H (vT4 P R S T) := fun H1 e Q q => h1 H1 e _ fun a H2 e2 p1 => h2 H2 (e.trans e2) _ fun b H3 e3 p2 => h3 H3 ((e.trans e2).trans e3) _ fun c H4 e4 p3 => h4 H4 (((e.trans e2).trans e3).trans e4) _ fun d H5 e5 p4 =>
  ⟨by show 4 ≤ sizeLine; decide, fun p o dz hp => q _ _ ((((e2.trans e3).trans e4).trans e5).trans (Ex.new hp)) ⟨p, a, b, c, d, rfl, Tz.new dz, m1 _ _ _ (((e3.trans e4).trans e5).trans (Ex.new hp)) p1, m2 _ _ _ ((e4.trans e5).trans (Ex.new hp)) p2, m3 _ _ _ (e5.trans (Ex.new hp)) p3, m4 _ _ _ (Ex.new hp) p4⟩⟩
theorem q_unp4 (h : EvP te σ H (vT4 P R S T)) (k : ∀ a b c d H1, Ex H H1 → P a H1 → R b H1 → S c H1 → T d H1 → tz D ((((σ.set i (some a)).set j (some b)).set l (some c)).set m (some d)) H1) : tSeq (tAsg te (gTup K 4 (gCons (gName i) (gCons (gName j) (gCons (gName l) (gCons (gName m) gNil)))))) tz D σ H := h H (Ex.refl H) _ fun v H1 e p => by
  obtain ⟨q, a, b, c, d, rfl, hl, h1, h2, h3, h4⟩ := p
  exact ⟨q, [a, b, c, d], rfl, sqT_inj hl, rfl, a, _, rfl, b, _, rfl, c, _, rfl, d, _, rfl, rfl, k a b c d H1 e h1 h2 h3 h4⟩
end
abbrev vParts (x : NetD) : VP := vT4 (vI (dN x.n)) (vL (x.ss.map pD)) (vL (x.kept.map dN)) (vL (x.ts.map pD))
theorem mParts (x : NetD) : Mono (vParts x) := mT4 (mI _) (mL _) (mL _) (mL _)
theorem lParts (x : NetD) : Lm (vParts x) := lT4 (P := vI (dN x.n)) (R := vL (x.ss.map pD)) (S := vL (x.kept.map dN)) (T := vL (x.ts.map pD)) (lI _) (lL _) (lL _) (lL _)
def turnL (x : NetD) (t : Nat) : Nat := if t ∈ x.kept then 0 else (getA (mergeA [] x.ts) t).getD 0
def nowL (x : NetD) (lots : List (Nat × List Nat)) (t : Nat) (falls : List Nat) : Int :=
  ((if (!decide (t ∈ x.kept)) && decide (sumF falls (exL lots t) % 2 = 1) then -((turnL x t : Nat) : Int) else ((turnL x t : Nat) : Int)) + 4 * sumF falls (sgL x.ss lots t)) % 8
def NowLOk (x : NetD) (lots : List (Nat × List Nat)) (t : Nat) (falls : List Nat) : Prop := x.ss.length ≤ 100 ∧ lots.length ≤ 100 ∧ (∀ r ∈ lots, r.1 < falls.length) ∧ (∀ f ∈ falls, f ≤ 1) ∧ (t ∉ x.kept → (getA (mergeA [] x.ts) t).isSome = true)
theorem exL_mem {lots : List (Nat × List Nat)} {t o : Nat} (m : o ∈ exL lots t) : ∃ r ∈ lots, r.1 = o := by
  obtain ⟨r, hr, rfl⟩ := List.mem_map.mp m
  exact ⟨r, (List.mem_filter.mp hr).1, rfl⟩
theorem sgL_mem {ss : List (Nat × Nat)} {lots : List (Nat × List Nat)} {t o : Nat} (m : o ∈ sgL ss lots t) : ∃ r ∈ lots, r.1 = o := by
  obtain ⟨r, hr, rfl⟩ := List.mem_map.mp m
  exact ⟨r, (List.mem_filter.mp hr).1, rfl⟩
theorem exL_len (lots : List (Nat × List Nat)) (t : Nat) : (exL lots t).length ≤ lots.length := by
  unfold exL
  rw [List.length_map]
  exact List.length_filter_le _ _
theorem sgL_len (ss : List (Nat × Nat)) (lots : List (Nat × List Nat)) (t : Nat) : (sgL ss lots t).length ≤ lots.length := by
  unfold sgL
  rw [List.length_map]
  exact List.length_filter_le _ _
/-! ### _law_now -/
abbrev sp_law_now : Sp := spP (fun x : NetD × List (Nat × List Nat) × Nat × List Nat => NowLOk x.1 x.2.1 x.2.2.1 x.2.2.2) (fun x => a4 (vParts x.1) (vL (x.2.1.map rowD)) (vI (dN x.2.2.1)) (vL (x.2.2.2.map dN))) fun x => vI (.int (nowL x.1 x.2.1 x.2.2.1 x.2.2.2))
theorem c_law_now (T : Txt K mg c) : Cal P w K mg base 2 "_law_now" (sp_law_now) [] := by
  have c_law_waits := c_law_waits (P := P) (w := w) (base := base) T
  refine mkCal T.d_law_now sc_law_now (fun _ _ _ _ _ _ us hl => match us, hl with | [_, _, _, _], _ => rfl) (fun vs H Q E h => ?_) (fun f cdv A outer s H vs Q E hr h => ?_)
  · obtain ⟨x, hx, a, _⟩ := h
    obtain ⟨v0, v1, v2, v3, rfl, _⟩ := a4o a
    rfl
  · obtain ⟨x, hx, a, k⟩ := h
    obtain ⟨v0, v1, v2, v3, rfl, p0, p1, p2, p3⟩ := a4o a
    have hu := hu_of hr
    refine ⟨_, pss_cons (ps_asg (pv 0) (pg_tupK K (n := 4) rfl (pgs_cons (pg_name (i := 4) sc_law_now.nd rfl (Or.inl rfl)) (pgs_cons (pg_name (i := 5) sc_law_now.nd rfl (Or.inl rfl)) (pgs_cons (pg_name (i := 6) sc_law_now.nd rfl (Or.inl rfl)) (pgs_cons (pg_name (i := 7) sc_law_now.nd rfl (Or.inl rfl)) (pgs_nil)))))))
      (pss_cons (ps_asg (pe_c c_law_waits hr (by decide) (by rfl) (pa_cons (pv 4) (pa_cons (pv 5) (pa_cons (pv 1) (pa_cons (pv 2) (pa_nil)))))) (pg_tupK K (n := 2) rfl (pgs_cons (pg_name (i := 8) sc_law_now.nd rfl (Or.inl rfl)) (pgs_cons (pg_name (i := 9) sc_law_now.nd rfl (Or.inl rfl)) (pgs_nil)))))
      (pss_cons (ps_set (i := 10) sc_law_now.nd rfl (Or.inl rfl) (pe_ifExp (pt_cmpR (op_inK K) (pv 2) (pv 6) (by rfl)) (pe_int) (pe_dget hu (pe_callTy (T := "dict") (cr_dictP K rfl) (by rfl) T.b_dict (by decide +kernel) (pa_cons (pv 7) (pa_nil))) (pv 2) (fun _ _ => rfl))))
      (pss_cons (ps_if ((pw_and (pt_cmpR (op_notInK K) (pv 2) (pv 6) (by rfl)) (pw_and1 (pt_cmpR op_eq (pe_op op_mod (pe_callTy (T := "int") call_int1 (by rfl) T.b_int (by decide +kernel) (pa_cons (pe_callB (id := "sum") (cr_sumK K rfl) (by rfl) T.b_sum (by decide +kernel) (pa_cons (pe_lc (own := [("_law_other", 11)]) rfl sc_law_now.nd (pi_seqK K (pv 8)) (blkOk_by (N := N_law_now) (sc := defScope s_law_now) (own := [("_law_other", 11)]) (by decide +kernel)) (fun _ _ _ _ _ => pg_name (i := 11) sc_law_now.nd rfl (Or.inl rfl)) (fun _ _ _ _ _ => pts_nil) (fun _ _ _ _ _ => pe_ix (ix_seqK K) (pv 3) (pv 11) (fun _ _ => rfl))) (pa_nil))) (pa_nil))) (pe_int)) (pe_int) (nomark _)))).pt) (pss_one (ps_set (i := 10) sc_law_now.nd rfl (Or.inl rfl) (pe_un un_neg (pv 10)))) (pss_nil))
      (pss_one (ps_ret (pe_op op_mod (pe_callTy (T := "int") call_int1 (by rfl) T.b_int (by decide +kernel) (pa_cons (pe_op op_add (pv 10) (pe_op op_mul (pe_int) (pe_callB (id := "sum") (cr_sumK K rfl) (by rfl) T.b_sum (by decide +kernel) (pa_cons (pe_lc (own := [("_law_other", 11)]) rfl sc_law_now.nd (pi_seqK K (pv 9)) (blkOk_by (N := N_law_now) (sc := defScope s_law_now) (own := [("_law_other", 11)]) (by decide +kernel)) (fun _ _ _ _ _ => pg_name (i := 11) sc_law_now.nd rfl (Or.inl rfl)) (fun _ _ _ _ _ => pts_nil) (fun _ _ _ _ _ => pe_ix (ix_seqK K) (pv 3) (pv 11) (fun _ _ => rfl))) (pa_nil))))) (pa_nil))) (pe_int))))))), ?_⟩
    obtain ⟨x, lots, t, falls⟩ := x
    obtain ⟨ls, ll, lk, f1, tt⟩ := hx
    dsimp only at ls ll lk f1 tt p0 p1 p2 p3
    have bs := sumF_le f1 (sgL x.ss lots t)
    have sz := sgL_len x.ss lots t
    refine q_unp4 (ep_var rfl (mParts x) p0) fun vn vs vk vt H1 e1 qn qs qk qt => ?_
    refine q_unp (ep_callP (x.ss, lots, t) ⟨ls, ll⟩ (ea1 (fun _ _ _ _ _ => trivial) (EvP.imp (ei_var rfl qn) fun _ _ _ _ => trivial) (ea1 (mL _) (ep_var rfl (mL _) qs) (ea1 (mL _) (ep_var rfl (mL _) (mL _ _ _ _ e1 p1)) (ea_1 (mI _) (ei_var rfl (p2.up e1))))))) fun vx vg H2 e2 qx qg => ?_
    have e12 := e1.trans e2
    refine q_set (P := vI (dN (turnL x t))) (ep_if (b := decide (t ∈ x.kept)) (et_t (e_inN (ei_var rfl (p2.up e12)) (ep_var rfl (mS _) (vS_L (mL _ _ _ _ e2 qk))))) (fun hb => EvP.isI ec_i (by unfold turnL; rw [if_pos (of_decide_eq_true hb)]; rfl)) fun hb => ?_) fun v3 H3 e3 pv => ?_
    · have hb := of_decide_eq_false hb
      obtain ⟨tr, htr⟩ := Option.isSome_iff_exists.mp (tt hb)
      exact e_dget (ps := encA dN (mergeA [] x.ts)) (EvP.imp (e_dictL (ps := encA dN x.ts) (EvP.isL (ep_var rfl (mL _) (mL _ _ _ _ e2 qt)) (by unfold encA; rw [List.map_map]; rfl))) fun v G _ p => by rw [← mergeA_enc x.ts []]; exact vDF_D p) (ei_var rfl (p2.up e12)) (by rw [getA_enc, htr]; unfold turnL; rw [if_neg hb, htr]; rfl)
    · have e13 := e12.trans e3
      cases Im.isInt pv
      have sum_ : ∀ {row : List Nat} {te : TE} {v8 v9 v10 : V} {o11 : Option V} {H2 : Hp}, Ex H H2 → row.length ≤ 100 → (∀ o ∈ row, o < falls.length) → EvP te [some v0, some v1, some v2, some v3, some vn, some vs, some vk, some vt, some v8, some v9, some v10, o11] H2 (vL (row.map dN)) → EvP (tCB (rSum K) (tCons (tLc (iSeq K te) (gName 11) tYes (tOp (rIx K) (tVar 3) (tVar 11)) [11]) tNil)) [some v0, some v1, some v2, some v3, some vn, some vs, some vk, some vt, some v8, some v9, some v10, o11] H2 (vI (.int (sumF falls row))) := fun {row te v8 v9 v10 o11 H2} e2 hl hr h => e_sum (xs := row) (f := fun o => ((falls.getD o 0 : Nat) : Int)) (lc_N1 (enc := dN) (fun o => dN (falls.getD o 0)) (src_S (vSL h)) (by omega) (fun _ => rfl) fun o y H3 m e i => e_ix (ep_var rfl (mS _) (vS_L (mL _ _ _ _ (e2.trans e) p3))) (ei_var rfl i) (getD_some (hr o m)))
      refine Evl.q_ifAsg (v := .int (if (!decide (t ∈ x.kept)) && decide (sumF falls (exL lots t) % 2 = 1) then -((turnL x t : Nat) : Int) else ((turnL x t : Nat) : Int))) (et_and (et_t (e_ninN (ei_var rfl (p2.up e13)) (ep_var rfl (mS _) (vS_L (mL _ _ _ _ (e2.trans e3) qk))))) fun _ => et_t (e_eqI (eoC (g := fun i j => i % j) (e_int (sum_ e13 (Nat.le_trans (exL_len lots t) ll) (fun o m => by obtain ⟨r, hr, rfl⟩ := exL_mem m; exact lk r hr) (ep_var rfl (mL _) (mL _ _ _ _ e3 qx)))) ec_i (by show (0 : Int) < 2; omega)) ec_i)) (fun hb => ?_) (fun hb => ?_) fun H4 e4 => ?_
      · rw [if_pos hb]
        exact ei_int (eu (g := fun i => -i) (ei_var rfl pv))
      · rw [if_neg (by rw [hb]; exact Bool.false_ne_true)]
        rfl
      · have e14 := e13.trans e4
        exact s_retP (P := vI (.int (nowL x lots t falls))) (eoC (g := fun i j => i % j) (e_int (eo (g := fun i j => i + j) (ei_var rfl (.int _)) (eoC (g := fun i j => i * j) ec_i (sum_ e14 (Nat.le_trans (sgL_len x.ss lots t) ll) (fun o m => by obtain ⟨r, hr, rfl⟩ := sgL_mem m; exact lk r hr) (ep_var rfl (mL _) (mL _ _ _ _ (e3.trans e4) qg))) (cm (by omega))))) ec_i (by show (0 : Int) < 8; omega)) fun v H5 e p => k v H5 (e14.trans e) p
end
end Lk
end

section
set_option Elab.async false
set_option linter.all false
set_option maxRecDepth 100000
set_option maxHeartbeats 4000000
namespace Lk
open PySem PySem.Spec PyProof.Rows L2 Evl PySem.W C8
local macro_rules | `(tactic| walk_at "ex") => `(tactic| first | exact Ex.refl _ | assumption | (refine Ex.trans (H1 := ?g) ?a ?b; (case a => assumption); (case b => walk_at "ex")))
local macro_rules | `(tactic| walk_at "im") => `(tactic| first | assumption | exact Im.int _ | exact Im.bl _ | (refine Im.up (H := ?g) ?a ?b; (case a => assumption); (case b => walk_at "ex")))
local macro_rules | `(tactic| walk_at "ev") => `(tactic| first
  | exact ec_i | exact ec_b | exact ec_s | exact ec_n
  | (refine ei_var rfl ?_; walk_at "im")
  | (refine eo ?_ ?_ <;> walk_at "ev")
  | (refine eoB ?_ ?_ <;> walk_at "ev")
  | (refine e_eqI ?_ ?_ <;> walk_at "ev")
  | (refine e_neI ?_ ?_ <;> walk_at "ev")
  | (refine eu ?_ <;> walk_at "ev")
  | (refine e_not ?_ <;> walk_at "ev"))

section
variable {P : Program} {w : World} {K : PySem.W.Frag} {mg : Str → Option Value} {base : Heap} {c : Cs}
def secL (x : NetD) (lots : List (Nat × List Nat)) (told falls bits : List Nat) : List (Nat × Nat) := (List.range x.n).map fun i => (((nowL x lots i (truthsN falls bits) + 4 * ((bits.getD i 0 : Nat) : Int) - ((told.getD i 0 : Nat) : Int)) % 8).toNat, bits.getD i 0)
def waysL (x : NetD) (lots : List (Nat × List Nat)) (told falls : List Nat) : List (List (Nat × Nat)) := (List.range (2 ^ x.n)).map fun k => secL x lots told falls (bitsOf x.n k)
structure WaysLOk (x : NetD) (lots : List (Nat × List Nat)) (told falls : List Nat) : Prop where
  n1 : 1 ≤ x.n
  n4 : x.n ≤ 4
  ss : x.ss.length ≤ 100
  ll : lots.length ≤ 100
  lk : ∀ r ∈ lots, r.1 < x.n
  l1 : told.length = x.n
  l2 : falls.length = x.n
  f2 : ∀ t ∈ falls, t < 2
  tt : ∀ t, t < x.n → t ∉ x.kept → (getA (mergeA [] x.ts) t).isSome = true
/-! ### _law_ways -/
abbrev sp_law_ways : Sp := spP (fun x : NetD × List (Nat × List Nat) × List Nat × List Nat => WaysLOk x.1 x.2.1 x.2.2.1 x.2.2.2) (fun x => a4 (vParts x.1) (vL (x.2.1.map rowD)) (vL (x.2.2.1.map dN)) (vL (x.2.2.2.map dN))) fun x => vL (sortD ((waysL x.1 x.2.1 x.2.2.1 x.2.2.2).map wayD))
theorem c_law_ways (T : Txt K mg c) : Cal P w K mg base 3 "_law_ways" (sp_law_ways) [] := by
  have c_law_now := c_law_now (P := P) (w := w) (base := base) T
  refine mkCal T.d_law_ways sc_law_ways (fun _ _ _ _ _ _ us hl => match us, hl with | [_, _, _, _], _ => rfl) (fun vs H Q E h => ?_) (fun f cdv A outer s H vs Q E hr h => ?_)
  · obtain ⟨x, hx, a, _⟩ := h
    obtain ⟨v0, v1, v2, v3, rfl, _⟩ := a4o a
    rfl
  · obtain ⟨x, hx, a, k⟩ := h
    obtain ⟨v0, v1, v2, v3, rfl, p0, p1, p2, p3⟩ := a4o a
    have hu := hu_of hr
    refine ⟨_, pss_cons (ps_par (i := 4) (j := 5) rfl sc_law_ways.nd rfl rfl (by decide) rfl rfl (pa_cons (pe_ix (ix_seqK K) (pv 0) (pe_int) (fun _ _ => rfl)) (pa_cons (pe_lst (pa_nil)) (pa_nil))) (by rfl))
      (pss_cons (ps_for PassesOwn.never rfl (pi_range1 (by rfl) T.b_range (pa_cons (pe_op op_shl (pe_int) (pv 4)) (pa_nil))) (pg_name (i := 6) sc_law_ways.nd rfl (Or.inr rfl))
      (pss_cons (ps_set (i := 7) sc_law_ways.nd rfl (Or.inr rfl) (pe_lc (own := [("_law_thing", 9)]) rfl sc_law_ways.nd (pi_range1 (by rfl) T.b_range (pa_cons (pv 4) (pa_nil))) (blkOk_by (N := N_law_ways) (sc := defScope s_law_ways) (own := [("_law_thing", 9)]) (by decide +kernel)) (fun _ _ _ _ _ => pg_name (i := 9) sc_law_ways.nd rfl (Or.inl rfl)) (fun _ _ _ _ _ => pts_nil) (fun _ _ _ _ _ => pe_op op_mod (pe_callTy (T := "int") call_int1 (by rfl) T.b_int (by decide +kernel) (pa_cons (pe_op op_shr (pv 6) (pv 9)) (pa_nil))) (pe_int))))
      (pss_cons (ps_set (i := 8) sc_law_ways.nd rfl (Or.inr rfl) (pe_lc (own := [("_law_fall", 10), ("_law_bit", 11)]) rfl sc_law_ways.nd (pi_zipK K (by rfl) T.b_zip (pa_cons (pv 3) (pa_cons (pv 7) (pa_nil)))) (blkOk_by (N := N_law_ways) (sc := defScope s_law_ways) (own := [("_law_fall", 10), ("_law_bit", 11)]) (by decide +kernel)) (fun _ _ _ _ _ => pg_tupK K (n := 2) rfl (pgs_cons (pg_name (i := 10) sc_law_ways.nd rfl (Or.inl rfl)) (pgs_cons (pg_name (i := 11) sc_law_ways.nd rfl (Or.inl rfl)) (pgs_nil)))) (fun _ _ _ _ _ => pts_nil) (fun _ _ _ _ _ => pe_op op_xor (pv 10) (pv 11))))
      (pss_one (ps_expr (pe_bm PySem.F.plainAttrs_list PySem.F.slot_list_append PySem.F.type_list_append mt_append (pv 5) (pa_cons (pe_callTy (T := "tuple") (cr_tupleK K) (by rfl) T.b_tuple (by decide +kernel) (pa_cons (pe_lc (own := [("_law_thing", 9)]) rfl sc_law_ways.nd (pi_range1 (by rfl) T.b_range (pa_cons (pv 4) (pa_nil))) (blkOk_by (N := N_law_ways) (sc := defScope s_law_ways) (own := [("_law_thing", 9)]) (by decide +kernel)) (fun _ _ _ _ _ => pg_name (i := 9) sc_law_ways.nd rfl (Or.inl rfl)) (fun _ _ _ _ _ => pts_nil) (fun _ _ _ _ _ => pe_tupZ (pa_cons (pe_op op_mod (pe_callTy (T := "int") call_int1 (by rfl) T.b_int (by decide +kernel) (pa_cons (pe_op op_sub (pe_op op_add (pe_c c_law_now hr (by decide) (by rfl) (pa_cons (pv 0) (pa_cons (pv 1) (pa_cons (pv 9) (pa_cons (pv 8) (pa_nil)))))) (pe_op op_mul (pe_int) (pe_ix (ix_seqK K) (pv 7) (pv 9) (fun _ _ => rfl)))) (pe_ix (ix_seqK K) (pv 2) (pv 9) (fun _ _ => rfl))) (pa_nil))) (pe_int)) (pa_cons (pe_ix (ix_seqK K) (pv 7) (pv 9) (fun _ _ => rfl)) (pa_nil))))) (pa_nil))) (pa_nil))))))))
      (pss_one (ps_ret (pe_callB (id := "sorted") (cr_sortD hr) (by rfl) T.b_sorted (by decide +kernel) (pa_cons (pv 5) (pa_nil)))))), ?_⟩
    obtain ⟨x, lots, told, falls⟩ := x
    obtain ⟨n1, n4, ls, ll, lk, l1, l2, f2, tt⟩ := hx
    dsimp only at n1 n4 ls ll lk l1 l2 f2 tt p0 p1 p2 p3
    have pz : 2 ^ x.n ≤ 16 := Nat.pow_le_pow_right (by omega) n4
    refine q_parF (P := vI (dN x.n)) (R := fun H1 => vF H1 []) (fun H1 e1 Q1 q1 => ?_) (fun H1 e1 => ep_nilF) fun vn vf H1 H2 e1 e2 pn pf => ?_
    · refine ⟨v0, rfl, ?_⟩
      obtain ⟨p, aa, b, cc, d, rfl, t, h1, _⟩ := p0
      exact .inr (.inl ⟨p, [aa, b, cc, d], 0, aa, rfl, rfl, (t.up e1).sq, atI_nat (j := 0) rfl, q1 _ _ (Ex.refl _) (h1.up e1)⟩)
    obtain ⟨fa, ws0, rfl, nl, hl, im0⟩ := pf
    have e12 := e1.trans e2
    refine q_forR (k := 2 ^ x.n) (e_shl1 (ei_var rfl (pn.up e2)) (by omega)) (by omega) fun H3 e3 => ⟨fun i σ' H' => ∃ o6 o7 o8 o9 o10 o11 ws, σ' = [some v0, some v1, some v2, some v3, some vn, some (.ref fa), o6, o7, o8, o9, o10, o11] ∧ Ex H1 H' ∧ H' fa = some (.lst ws) ∧ ImAll H' ws (((List.range i).map fun k => wayD (secL x lots told falls (bitsOf x.n k)))), ⟨_, _, _, _, _, _, ws0, rfl, e2.trans e3, e3 _ _ hl, im0.up e3⟩, ?_, ?_⟩
    · rintro i σ' H' hi ⟨o6, o7, o8, o9, o10, o11, ws, rfl, eH, hw, im⟩
      have eHH := e1.trans eH
      refine q_set (P := vL ((bitsOf x.n i).map dN)) (EvP.isL (lc_N1 (enc := dN) (fun t => dN (i / 2 ^ t &&& 1)) (src_rng (src_R1 (ea_1 (mI _) (ei_var rfl (pn.up eH))) (by omega))) (by rw [List.length_range]; omega) (fun _ => rfl) fun t y H4 m e it => EvP.isI (eoC (g := fun i j => i % j) (e_int (e_shrN (a := i) (ei_var rfl (.int _)) (ei_var rfl it))) ec_i (by show (0 : Int) < 2; omega)) (by rw [Nat.and_one_is_mod]; rfl)) (by unfold bitsOf; rw [List.map_map]; rfl)) fun vb H4 e4 pb => ?_
      have b2 := bitsOf_lt x.n i
      have l3 := bitsOf_len x.n i
      refine q_set (P := vL ((truthsN falls (bitsOf x.n i)).map dN)) (EvP.isL (lc_PZ1 (xs := falls.zip (bitsOf x.n i)) (e1 := fun p : Nat × Nat => dN p.1) (e2 := fun p : Nat × Nat => dN p.2) (fun p => dN (xorN p.1 p.2)) (src_Z (xs := falls) (ys := bitsOf x.n i) (enc := dN) (enc2 := dN) (by omega) (ea1 (mL _) (ep_var rfl (mL _) (mL _ _ _ _ (eHH.trans e4) p3)) (ea_1 (mL _) (ep_var rfl (mL _) pb))) fun vs H2 a => ?_) (by rw [List.length_zip]; omega) (fun _ _ => rfl) fun p y z H2 m e i1 i2 => e_xorN (ei_var rfl i1) (ei_var rfl i2)) (by unfold truthsN; rw [List.map_map]; rfl)) fun vt H5 e5 pt => ?_
      · obtain ⟨v, w, rfl, q1, q2⟩ := a2o a
        obtain ⟨q, us, rfl, t1, i1⟩ := q1
        obtain ⟨b, ws, rfl, t2, i2⟩ := q2
        exact ⟨q, b, us, ws, rfl, .inl ⟨SqL.of t1, SqL.of t2⟩, i1, i2⟩
      · have e45 := e4.trans e5
        have hw5 := e45 _ _ hw
        have tl : (truthsN falls (bitsOf x.n i)).length = x.n := by unfold truthsN; rw [List.length_map, List.length_zip]; omega
        have t1 : ∀ f ∈ truthsN falls (bitsOf x.n i), f ≤ 1 := fun f m => by
          obtain ⟨p, hp, rfl⟩ := List.mem_map.mp m
          exact xorN_bit (f2 _ (List.of_mem_zip hp).1) (b2 _ (List.of_mem_zip hp).2)
        refine s_appP (P := vI (wayD (secL x lots told falls (bitsOf x.n i)))) (l := fa) (ev_var rfl) hw5 (e_tuple (vSL (EvP.isL (lc_N1 (enc := dN) (fun t => pD (((nowL x lots t (truthsN falls (bitsOf x.n i)) + 4 * (((bitsOf x.n i).getD t 0 : Nat) : Int) - ((told.getD t 0 : Nat) : Int)) % 8).toNat, (bitsOf x.n i).getD t 0)) (src_rng (src_R1 (ea_1 (mI _) (ei_var rfl (pn.up (eH.trans e45)))) (by omega))) (by rw [List.length_range]; omega) (fun _ => rfl) fun t y H6 m e it => ?_) (by unfold secL; rw [List.map_map]; rfl)))) (by rw [im.len, List.length_map, List.length_range]; omega) fun v H6 e6 pv => ?_
        · have tn := List.mem_range.mp m
          have bt : (bitsOf x.n i).getD t 0 < 2 := b2 _ (by rw [List.getD_eq_getElem?_getD, List.getElem?_eq_getElem (by omega)]; exact List.getElem_mem _)
          have eb : EvP (tOp (rIx K) (tVar 7) (tVar 9)) _ H6 (vI (dN ((bitsOf x.n i).getD t 0))) := e_ix (σ := ((wipe [some v0, some v1, some v2, some v3, some vn, some (.ref fa), some (vN i), some vb, some vt, o9, o10, o11] [9]).set 9 (some y))) (ep_var rfl (mS _) (vS_L (mL _ _ _ _ (e5.trans e) pb))) (ei_var rfl it) (getD_some (by omega))
          exact ep_tup (ea_cons (EvP.isI (eoC (g := fun i j => i % j) (e_int (eo (g := fun i j => i - j) (eo (g := fun i j => i + j) (ep_callP (x, lots, t, truthsN falls (bitsOf x.n i)) ⟨ls, ll, by rw [tl]; exact lk, t1, tt t tn⟩ (ea1 (mParts x) (ep_var rfl (mParts x) (mParts x _ _ _ (eHH.trans (e45.trans e)) p0)) (ea1 (mL _) (ep_var rfl (mL _) (mL _ _ _ _ (eHH.trans (e45.trans e)) p1)) (ea1 (mI _) (ei_var rfl it) (ea_1 (mL _) (ep_var rfl (mL _) (mL _ _ _ _ e pt))))))) (eoC (g := fun i j => i * j) ec_i eb (cm (by omega)))) (e_ix (ep_var rfl (mS _) (vS_L (mL _ _ _ _ (eHH.trans (e45.trans e)) p2))) (ei_var rfl it) (getD_some (by omega))))) ec_i (by show (0 : Int) < 8; omega)) (by
            have : (0 : Int) ≤ (nowL x lots t (truthsN falls (bitsOf x.n i)) + 4 * (((bitsOf x.n i).getD t 0 : Nat) : Int) - ((told.getD t 0 : Nat) : Int)) % 8 := Int.emod_nonneg _ (by omega)
            exact (Int.toNat_of_nonneg this).symm)) (ea_cons eb ea_nil)) (by show 2 ≤ 100000; omega)
        · have t6 : Tx H6 (upd H6 fa (.lst (ws ++ [v]))) := Tx.lst (e6 _ _ hw5)
          refine ⟨_, _, _, _, _, _, _, rfl, ((eH.trans e45).trans e6).mut nl, upd_same, ?_⟩
          rw [List.range_succ, List.map_append]
          exact (((im.up e45).up e6).mv t6).app (.cons (Im.mv t6 pv) .nil)
    · rintro σ' H' ⟨o6, o7, o8, o9, o10, o11, ws, rfl, eH, hw, im⟩
      refine s_retP (P := vL (sortD ((waysL x lots told falls).map wayD))) (e_sortW (ws := waysL x lots told falls) (ep_var (k := 5) rfl (mS _) (vS_L ⟨fa, ws, rfl, hw, by unfold waysL; rw [List.map_map]; exact im⟩)) (fun w m => ?_) (by unfold waysL; rw [List.length_map, List.length_range]; omega)) fun v H5 e p => k v H5 ((e1.trans eH).trans e) p
      obtain ⟨kk, _, rfl⟩ := List.mem_map.mp m
      intro z
      have := congrArg List.length z
      unfold secL at this
      rw [List.length_map, List.length_range, List.length_nil] at this
      omega
end
end Lk
end

section
set_option Elab.async false
set_option linter.all false
set_option maxRecDepth 100000
set_option maxHeartbeats 4000000
namespace Lk
open PySem PySem.Spec PyProof.Rows L2 Evl PySem.W C8
local macro_rules | `(tactic| walk_at "ex") => `(tactic| first | exact Ex.refl _ | assumption | (refine Ex.trans (H1 := ?g) ?a ?b; (case a => assumption); (case b => walk_at "ex")))
local macro_rules | `(tactic| walk_at "im") => `(tactic| first | assumption | exact Im.int _ | exact Im.bl _ | (refine Im.up (H := ?g) ?a ?b; (case a => assumption); (case b => walk_at "ex")))
local macro_rules | `(tactic| walk_at "ev") => `(tactic| first
  | exact ec_i | exact ec_b | exact ec_s | exact ec_n
  | (refine ei_var rfl ?_; walk_at "im")
  | (refine eo ?_ ?_ <;> walk_at "ev")
  | (refine eoB ?_ ?_ <;> walk_at "ev")
  | (refine e_eqI ?_ ?_ <;> walk_at "ev")
  | (refine e_neI ?_ ?_ <;> walk_at "ev")
  | (refine eu ?_ <;> walk_at "ev")
  | (refine e_not ?_ <;> walk_at "ev"))

section
variable {P : Program} {w : World} {K : PySem.W.Frag} {mg : Str → Option Value} {base : Heap} {c : Cs}
section
variable {K : PySem.W.Frag} {σ : L2.St} {H : Hp} {ta tb : TE} {p q : Nat × Nat} {ps : List (Nat × Nat)}
theorem e_neP (ha : EvP ta σ H (vI (pD p))) (hb : EvP tb σ H (vI (pD q))) : EvP (tOp (rNeD K) ta tb) σ H (vI (.bool (!decide (p = q)))) := e_neT (x := p) (y := q) (n := 1) ha (mI _) hb (fun _ _ => dpI) (fun _ _ => dpI) (flt_p p) (flt_p q)
theorem eqv_pD (a b : Nat × Nat) : PyData.eqv (pD a) (pD b) = decide (a = b) := Datum.eqv a b
theorem e_ninP (ha : EvP ta σ H (vI (pD p))) (hb : EvP tb σ H (vL (ps.map pD))) : EvP (tOp (rNotInD K) ta tb) σ H (vI (.bool (!decide (p ∈ ps)))) := ep_op ha (mI _) hb fun x y H1 _ p1 p2 Q r => by
  refine ⟨pD p, ps.map pD, dpI p1, dpL p2, (flt_p p).sh, (flt_l fun x _ => flt_p x).sh, ?_⟩
  have e : ((ps.map pD).any fun z => PyData.eqv z (pD p)) = decide (p ∈ ps) := by
    rw [List.any_map, Bool.eq_iff_iff, List.any_eq_true, decide_eq_true_eq]
    constructor
    · rintro ⟨z, m, hz⟩
      have hz : PyData.eqv (pD z) (pD p) = true := hz
      rw [eqv_pD] at hz
      exact of_decide_eq_true hz ▸ m
    · intro m
      exact ⟨p, m, by show PyData.eqv (pD p) (pD p) = true; rw [eqv_pD]; exact decide_eq_true rfl⟩
  rw [e]
  exact r _ _ (Ex.refl _) (.bl _)
end
/-- what the law's own asked net has come to -/
structure AskS where
  now : List Nat
  gath : List Nat
  things : Nat
  strings : List (Nat × Nat)
  turns : List (Nat × Nat)
  lots : List (Nat × Nat)
def ordP (a b : Nat) : Nat × Nat := if a ≤ b then (a, b) else (b, a)
def askStep (s : AskS) : Deed → AskS
  | .turn w t => { s with gath := s.gath.set w ((s.gath.getD w 0 + t) % 8) }
  | .sign w o => { s with strings := (s.strings.filter fun q => !decide (q = ordP (s.now.getD w 0) (s.now.getD o 0))) ++ (if ordP (s.now.getD w 0) (s.now.getD o 0) ∈ s.strings then [] else [ordP (s.now.getD w 0) (s.now.getD o 0)]) }
  | .mix w => ⟨s.now.set w s.things, s.gath.set w 0, s.things + 1, s.strings ++ [(s.now.getD w 0, s.things)], s.turns ++ [(s.now.getD w 0, s.gath.getD w 0)], s.lots ++ [(s.now.getD w 0, s.things)]⟩
def askN (wires : Nat) (dd : List Deed) : AskS := (dd ++ (List.range wires).map Deed.mix).foldl askStep ⟨List.range wires, List.replicate wires 0, wires, [], [], []⟩
def lotR (p : Nat × Nat) : Nat × List Nat := (p.1, [p.2])
theorem sort2 (a b : Nat) : isort [a, b] = [(ordP a b).1, (ordP a b).2] := by
  unfold ordP
  by_cases h : a ≤ b
  · rw [if_pos h]
    exact (isort_uniq (.refl _) (by simpa using h)).symm
  · rw [if_neg h]
    exact (isort_uniq (List.Perm.swap _ _ _) (by simp; omega)).symm
section
variable {K : PySem.W.Frag} {σ : L2.St} {H : Hp} {te ta tb t1 t2 t3 t4 t5 t6 : TE} {α : Type} {enc : α → PyData} {xs : List α} {g : TG} {tu tz : TS} {D : Ends} {ds es A B E F : List PyData} {C : PyData} {i1 i2 i3 i4 i5 i6 : Nat} {S : List PyData}
theorem e_catF (ha : EvP ta σ H (vL ds)) (hb : EvP tb σ H (vL es)) (hz : ds.length + es.length ≤ 100000) : EvP (tOp rCat ta tb) σ H (vF H (ds ++ es)) := fun H0 e0 Q0 q0 => by
  refine ep_op (S := vF H (ds ++ es)) ha (mL _) hb (fun x y H1 eH p1 p2 Q q => ?_) H0 e0 Q0 q0
  obtain ⟨a, xs, rfl, hl, im⟩ := p1
  obtain ⟨b, ys, rfl, hl2, im2⟩ := p2
  refine ⟨a, b, xs, ys, rfl, rfl, hl, hl2, ?_, fun d hd => q _ _ (Ex.new hd) ⟨d, _, rfl, fresh_back eH hd, upd_same, ?_⟩⟩
  · rw [im.len, im2.len]; exact sz_of hz
  · exact (im.mv (Tx.new hd)).app (im2.mv (Tx.new hd))
theorem s_forF (h : EvP te σ H (vF H (xs.map enc)))
    (k : ∀ H1 p ws, Ex H H1 → H p = none → H1 p = some (.lst ws) → ImAll H1 ws (xs.map enc) → ∃ Pv : List α → L2.St → Hp → Prop, Pv [] σ H1 ∧ (∀ l σ' H', Pv l σ' H' → H' p = some (.lst ws)) ∧
      (∀ l a r x σ' H', xs = l ++ a :: r → Tx H1 H' → Pv l σ' H' → Im H' x (enc a) → g x σ' H' fun σ2 H2 => tu { D with nx := fun σ H => Tx H1 H ∧ Pv (l ++ [a]) σ H, ct := fun σ H => Tx H1 H ∧ Pv (l ++ [a]) σ H, bk := D.nx } σ2 H2) ∧
      (∀ σ' H', Tx H1 H' → Pv xs σ' H' → D.nx σ' H')) : tFor (iSeq K te) g tu D σ H := h H (Ex.refl H) _ fun v H2 e2 p => by
  obtain ⟨p, ws, rfl, np, hp, im⟩ := p
  obtain ⟨Pv, p0, st, step, fin⟩ := k H2 p ws e2 np hp im
  have len : ws.length = xs.length := by rw [im.len, List.length_map]
  refine ⟨p, rfl, .inl ⟨⟨ws, sqL_inj hp⟩, fun i m σ' H' => m = xs.length - i ∧ i ≤ xs.length ∧ Tx H2 H' ∧ Pv (xs.take i) σ' H', ⟨_, rfl, Nat.zero_le _, Tx.refl _, p0⟩, ?_⟩⟩
  rintro i m σ' H' ⟨rfl, hi, tx, q⟩
  have hp' := st _ _ _ q
  by_cases lt : i < xs.length
  · have lt' : i < ws.length := by omega
    have tk : xs.take (i + 1) = xs.take i ++ [xs[i]] := by rw [List.take_add_one, List.getElem?_eq_getElem lt]; rfl
    refine .inr ⟨⟨ws, ws[i], sqL_inj hp', List.getElem?_eq_getElem lt'⟩, fun σ H => Tx H2 H ∧ Pv (xs.take i ++ [xs[i]]) σ H, fun σ2 H3 n => ⟨_, Nat.lt_of_lt_of_le (Nat.sub_lt_sub_left lt (Nat.lt_succ_self i)) (Nat.le_refl _), rfl, lt, n.1, by rw [tk]; exact n.2⟩, fun x G hy => ?_⟩
    obtain ⟨rfl, fx⟩ := hy
    obtain ⟨d, hd, i1⟩ := im.get (fx ws (sqL_inj hp'))
    rw [List.getElem?_map, List.getElem?_eq_getElem lt] at hd
    cases hd
    exact step (xs.take i) xs[i] (xs.drop (i + 1)) x σ' _ (by rw [← List.drop_eq_getElem_cons lt, List.take_append_drop]) tx q (i1.mv tx)
  · have e : i = xs.length := by omega
    subst e
    rw [List.take_length] at q
    exact .inl ⟨⟨ws, sqL_inj hp', by omega⟩, fin σ' H' tx q⟩
theorem q_forF (h : EvP te σ H (vF H (xs.map enc)))
    (k : ∀ H1 p ws, Ex H H1 → H p = none → H1 p = some (.lst ws) → ImAll H1 ws (xs.map enc) → ∃ Pv : List α → L2.St → Hp → Prop, Pv [] σ H1 ∧ (∀ l σ' H', Pv l σ' H' → H' p = some (.lst ws)) ∧
      (∀ l a r x σ' H', xs = l ++ a :: r → Tx H1 H' → Pv l σ' H' → Im H' x (enc a) → g x σ' H' fun σ2 H2 => tu { D with nx := fun σ H => Tx H1 H ∧ Pv (l ++ [a]) σ H, ct := fun σ H => Tx H1 H ∧ Pv (l ++ [a]) σ H, bk := tz D } σ2 H2) ∧
      (∀ σ' H', Tx H1 H' → Pv xs σ' H' → tz D σ' H')) : tSeq (tFor (iSeq K te) g tu) tz D σ H := s_forF (D := { D with nx := tz D }) h k
theorem q_six (h1 : EvP t1 σ H (vF H A)) (h2 : ∀ H1, Ex H H1 → EvP t2 σ H1 (vF H1 B)) (h3 : ∀ H1, Ex H H1 → EvP t3 σ H1 (vI C)) (h4 : ∀ H1, Ex H H1 → EvP t4 σ H1 (vF H1 S)) (h5 : ∀ H1, Ex H H1 → EvP t5 σ H1 (vF H1 E)) (h6 : ∀ H1, Ex H H1 → EvP t6 σ H1 (vF H1 F))
    (k : ∀ a b v s e f H6, Ex H H6 → H a = none → H b = none → H s = none → H e = none → H f = none → [a, b, s, e, f].Nodup → (∃ us, H6 a = some (.lst us) ∧ ImAll H6 us A) → (∃ us, H6 b = some (.lst us) ∧ ImAll H6 us B) → Im H6 v C → (∃ us, H6 s = some (.lst us) ∧ ImAll H6 us S) → (∃ us, H6 e = some (.lst us) ∧ ImAll H6 us E) → (∃ us, H6 f = some (.lst us) ∧ ImAll H6 us F) →
      tz D ((((((σ.set i1 (some (.ref a))).set i2 (some (.ref b))).set i3 (some v)).set i4 (some (.ref s))).set i5 (some (.ref e))).set i6 (some (.ref f))) H6) :
    tSeq (tAsg (tTupZ (tCons t1 (tCons t2 (tCons t3 (tCons t4 (tCons t5 (tCons t6 tNil))))))) (gTup K 6 (gCons (gName i1) (gCons (gName i2) (gCons (gName i3) (gCons (gName i4) (gCons (gName i5) (gCons (gName i6) gNil)))))))) tz D σ H :=
  h1 H (Ex.refl H) _ fun va H1 e1 pa => h2 H1 e1 H1 (Ex.refl _) _ fun vb H2 e2 pb => h3 H2 (e1.trans e2) H2 (Ex.refl _) _ fun vc H3 e3 pc => h4 H3 ((e1.trans e2).trans e3) H3 (Ex.refl _) _ fun vs H4 e4 ps => h5 H4 (((e1.trans e2).trans e3).trans e4) H4 (Ex.refl _) _ fun ve H5 e5 pe => h6 H5 ((((e1.trans e2).trans e3).trans e4).trans e5) H5 (Ex.refl _) _ fun vf H6 e6 pf => by
    refine ⟨by show 6 ≤ sizeLine; decide, fun p o dz hp => ?_⟩
    obtain ⟨a, ua, rfl, na, ha, ia⟩ := pa
    obtain ⟨b, ub, rfl, nb, hb, ib⟩ := pb
    obtain ⟨s, us, rfl, ns, hs, is⟩ := ps
    obtain ⟨e, ue, rfl, ne, he, ie⟩ := pe
    obtain ⟨f, uf, rfl, nf, hf, if'⟩ := pf
    have e7 : Ex H6 (upd H6 p (.frz o (.tup [.ref a, .ref b, vc, .ref s, .ref e, .ref f]))) := Ex.new hp
    have x27 := (((e3.trans e4).trans e5).trans e6).trans e7
    have x47 := (e5.trans e6).trans e7
    have dif : ∀ {G : Hp} {x y : Addr} {u : HO}, G x = some u → G y = none → x ≠ y := fun h1 h2 z => by rw [z, h2] at h1; cases h1
    refine ⟨p, _, rfl, (Tz.new dz).sq, rfl, _, _, rfl, _, _, rfl, _, _, rfl, _, _, rfl, _, _, rfl, _, _, rfl, rfl, ?_⟩
    refine k a b vc s e f _ ((((((e1.trans e2).trans e3).trans e4).trans e5).trans e6).trans e7) na (fresh_back e1 nb) (fresh_back ((e1.trans e2).trans e3) ns) (fresh_back (((e1.trans e2).trans e3).trans e4) ne) (fresh_back ((((e1.trans e2).trans e3).trans e4).trans e5) nf) ?_ ⟨ua, (e2.trans x27) _ _ ha, ia.up (e2.trans x27)⟩ ⟨ub, x27 _ _ hb, ib.up x27⟩ (pc.up (((e4.trans e5).trans e6).trans e7)) ⟨us, x47 _ _ hs, is.up x47⟩ ⟨ue, (e6.trans e7) _ _ he, ie.up (e6.trans e7)⟩ ⟨uf, e7 _ _ hf, if'.up e7⟩
    have ab := dif ha nb
    have as := dif ((e2.trans e3) _ _ ha) ns
    have ae := dif (((e2.trans e3).trans e4) _ _ ha) ne
    have af := dif ((((e2.trans e3).trans e4).trans e5) _ _ ha) nf
    have bs := dif (e3 _ _ hb) ns
    have be := dif ((e3.trans e4) _ _ hb) ne
    have bf := dif (((e3.trans e4).trans e5) _ _ hb) nf
    have se := dif hs ne
    have sf := dif (e5 _ _ hs) nf
    have ef := dif he nf
    simp [ab, as, ae, af, bs, be, bf, se, sf, ef]
end
end
end Lk
end

section
set_option Elab.async false
set_option linter.all false
set_option maxRecDepth 100000
set_option maxHeartbeats 4000000
namespace Lk
open PySem PySem.Spec PyProof.Rows L2 Evl PySem.W C8
local macro_rules | `(tactic| walk_at "ex") => `(tactic| first | exact Ex.refl _ | assumption | (refine Ex.trans (H1 := ?g) ?a ?b; (case a => assumption); (case b => walk_at "ex")))
local macro_rules | `(tactic| walk_at "im") => `(tactic| first | assumption | exact Im.int _ | exact Im.bl _ | (refine Im.up (H := ?g) ?a ?b; (case a => assumption); (case b => walk_at "ex")))
local macro_rules | `(tactic| walk_at "ev") => `(tactic| first
  | exact ec_i | exact ec_b | exact ec_s | exact ec_n
  | (refine ei_var rfl ?_; walk_at "im")
  | (refine eo ?_ ?_ <;> walk_at "ev")
  | (refine eoB ?_ ?_ <;> walk_at "ev")
  | (refine e_eqI ?_ ?_ <;> walk_at "ev")
  | (refine e_neI ?_ ?_ <;> walk_at "ev")
  | (refine eu ?_ <;> walk_at "ev")
  | (refine e_not ?_ <;> walk_at "ev"))

section
variable {P : Program} {w : World} {K : PySem.W.Frag} {mg : Str → Option Value} {base : Heap} {c : Cs}
def leP (p q : Nat × Nat) : Bool := decide (p.1 < q.1 ∨ (p.1 = q.1 ∧ p.2 ≤ q.2))
def insP (x : Nat × Nat) : List (Nat × Nat) → List (Nat × Nat)
  | [] => [x]
  | y :: r => if leP x y then x :: y :: r else y :: insP x r
def isortP : List (Nat × Nat) → List (Nat × Nat)
  | [] => []
  | x :: r => insP x (isortP r)
theorem insP_perm (x : Nat × Nat) : ∀ l : List (Nat × Nat), (insP x l).Perm (x :: l)
  | [] => .refl _
  | y :: r => by
    unfold insP
    by_cases h : leP x y = true
    · rw [if_pos h]
    · rw [if_neg h]
      exact ((insP_perm x r).cons y).trans (.swap x y r)
theorem isortP_perm : ∀ l : List (Nat × Nat), (isortP l).Perm l
  | [] => .refl _
  | x :: r => (insP_perm x _).trans ((isortP_perm r).cons x)
theorem insP_sorted (x : Nat × Nat) : ∀ l : List (Nat × Nat), l.Pairwise (fun p q => leP p q = true) → (insP x l).Pairwise (fun p q => leP p q = true)
  | [], _ => List.pairwise_singleton _ _
  | y :: r, h => by
    unfold insP
    by_cases e : leP x y = true
    · rw [if_pos e]
      refine List.pairwise_cons.mpr ⟨fun z m => ?_, h⟩
      rcases List.mem_cons.mp m with rfl | m
      · exact e
      · have h2 := (List.pairwise_cons.mp h).1 z m
        unfold leP at e h2 ⊢
        rw [decide_eq_true_eq] at *
        omega
    · rw [if_neg e]
      refine List.pairwise_cons.mpr ⟨fun z m => ?_, insP_sorted x r (List.pairwise_cons.mp h).2⟩
      rcases List.mem_cons.mp ((insP_perm x r).mem_iff.mp m) with rfl | m
      · unfold leP at e ⊢
        rw [decide_eq_true_eq] at *
        omega
      · exact (List.pairwise_cons.mp h).1 z m
theorem isortP_sorted : ∀ l : List (Nat × Nat), (isortP l).Pairwise (fun p q => leP p q = true)
  | [] => List.Pairwise.nil
  | x :: r => insP_sorted x _ (isortP_sorted r)
theorem sortD_isortP (l : List (Nat × Nat)) : sortD (l.map pD) = (isortP l).map pD := by
  rw [sortD_map]
  congr 1
  have le_ : ∀ a b : Nat × Nat, dataLe false pD a b = leP a b := fun a b => dle_pair a b
  refine List.Perm.eq_of_pairwise (le := fun p q => leP p q = true) (fun a b _ _ h1 h2 => ?_) ?_ (isortP_sorted l) ((List.mergeSort_perm _ _).trans (isortP_perm l).symm)
  · unfold leP at h1 h2
    rw [decide_eq_true_eq] at h1 h2
    exact Prod.ext (by omega) (by omega)
  · have p1 := List.pairwise_mergeSort (le := dataLe false pD) (fun a b c h1 h2 => by
      rw [dle_pair, decide_eq_true_eq] at *
      omega) (fun a b => by
      rw [dle_pair, dle_pair, Bool.or_eq_true, decide_eq_true_eq, decide_eq_true_eq]
      omega) l
    exact p1.imp fun {a b} h => by rw [← le_]; exact h
theorem deed_0 {K : PySem.W.Frag} {σ : L2.St} {H : Hp} {ta : TE} {d : Deed} (h : EvP ta σ H (vI (deedD d))) : EvP (tOp (rIx K) ta (tC (.int 0))) σ H (vI (.str (match d with | .turn _ _ => "turn" | .mix _ => "mix" | .sign _ _ => "sign"))) := by
  cases d with
  | turn w t => exact e_ix (n := 0) (vST h) ec_i rfl
  | mix w => exact e_ix (n := 0) (vST h) ec_i rfl
  | sign w o => exact e_ix (n := 0) (vST h) ec_i rfl
def deedW : Deed → Nat
  | .turn w _ => w
  | .mix w => w
  | .sign w _ => w
theorem deed_1 {K : PySem.W.Frag} {σ : L2.St} {H : Hp} {ta : TE} {d : Deed} (h : EvP ta σ H (vI (deedD d))) : EvP (tOp (rIx K) ta (tC (.int 1))) σ H (vI (dN (deedW d))) := by
  cases d with
  | turn w t => exact e_ix (n := 1) (vST h) ec_i rfl
  | mix w => exact e_ix (n := 1) (vST h) ec_i rfl
  | sign w o => exact e_ix (n := 1) (vST h) ec_i rfl
structure AskOk (wires k : Nat) (s : AskS) : Prop where
  ln : s.now.length = wires
  lg : s.gath.length = wires
  ls : s.strings.length ≤ k
  lt : s.turns.length ≤ k
  ll : s.lots.length ≤ k
theorem askOk_step {wires k : Nat} {s : AskS} (o : AskOk wires k s) (d : Deed) : AskOk wires (k + 1) (askStep s d) := by
  obtain ⟨a, b, c, d1, e⟩ := o
  cases d with
  | turn w t => exact ⟨a, by show (s.gath.set w _).length = wires; rw [List.length_set]; exact b, by show s.strings.length ≤ k + 1; omega, by show s.turns.length ≤ k + 1; omega, by show s.lots.length ≤ k + 1; omega⟩
  | mix w => exact ⟨by show (s.now.set w _).length = wires; rw [List.length_set]; exact a, by show (s.gath.set w _).length = wires; rw [List.length_set]; exact b, by show (s.strings ++ _).length ≤ k + 1; rw [List.length_append]; exact Nat.succ_le_succ c, by show (s.turns ++ _).length ≤ k + 1; rw [List.length_append]; exact Nat.succ_le_succ d1, by show (s.lots ++ _).length ≤ k + 1; rw [List.length_append]; exact Nat.succ_le_succ e⟩
  | sign w o =>
    refine ⟨a, b, ?_, by show s.turns.length ≤ k + 1; omega, by show s.lots.length ≤ k + 1; omega⟩
    show (List.filter _ s.strings ++ if _ then _ else _).length ≤ k + 1
    have := List.length_filter_le (fun q => !decide (q = ordP (s.now.getD w 0) (s.now.getD o 0))) s.strings
    rw [List.length_append]
    split
    · rw [List.length_nil]; omega
    · rw [List.length_singleton]; omega
theorem askOk_fold {wires : Nat} : ∀ (l : List Deed) {k : Nat} {s : AskS}, AskOk wires k s → AskOk wires (k + l.length) (l.foldl askStep s)
  | [], _, _, o => o
  | d :: l, k, s, o => by
    have := askOk_fold l (askOk_step o d)
    rw [List.length_cons, show k + (l.length + 1) = k + 1 + l.length by omega]
    exact this
end
end Lk
end

section
set_option Elab.async false
set_option linter.all false
set_option maxRecDepth 100000
set_option maxHeartbeats 4000000
namespace Lk
open PySem PySem.Spec PyProof.Rows L2 Evl PySem.W C8
local macro_rules | `(tactic| walk_at "ex") => `(tactic| first | exact Ex.refl _ | assumption | (refine Ex.trans (H1 := ?g) ?a ?b; (case a => assumption); (case b => walk_at "ex")))
local macro_rules | `(tactic| walk_at "im") => `(tactic| first | assumption | exact Im.int _ | exact Im.bl _ | (refine Im.up (H := ?g) ?a ?b; (case a => assumption); (case b => walk_at "ex")))
local macro_rules | `(tactic| walk_at "ev") => `(tactic| first
  | exact ec_i | exact ec_b | exact ec_s | exact ec_n
  | (refine ei_var rfl ?_; walk_at "im")
  | (refine eo ?_ ?_ <;> walk_at "ev")
  | (refine eoB ?_ ?_ <;> walk_at "ev")
  | (refine e_eqI ?_ ?_ <;> walk_at "ev")
  | (refine e_neI ?_ ?_ <;> walk_at "ev")
  | (refine eu ?_ <;> walk_at "ev")
  | (refine e_not ?_ <;> walk_at "ev"))

section
variable {P : Program} {w : World} {K : PySem.W.Frag} {mg : Str → Option Value} {base : Heap} {c : Cs}
theorem un65 {k : Nat} {A : Around} (r : Room k A) : A.units + 65 < cLine := by have := r.un; omega
def ask0 (wires : Nat) : AskS := ⟨List.range wires, List.replicate wires 0, wires, [], [], []⟩
theorem getD_some' {l : List Nat} {i : Nat} (h : i < l.length) : (l.map dN)[i]? = some (dN (l.getD i 0)) := getD_some h
def AskIm (H0 H : Hp) (na ga ta la : Addr) (vn vs : V) (s : AskS) : Prop := ∃ sa, vs = .ref sa ∧ vn = vN s.things ∧ H0 sa = none ∧ sa ≠ na ∧ sa ≠ ga ∧ sa ≠ ta ∧ sa ≠ la ∧ H na = some (.lst (s.now.map vN)) ∧ H ga = some (.lst (s.gath.map vN)) ∧ (∃ us, H sa = some (.lst us) ∧ ImAll H us (s.strings.map pD)) ∧ (∃ us, H ta = some (.lst us) ∧ ImAll H us (s.turns.map pD)) ∧ (∃ us, H la = some (.lst us) ∧ ImAll H us ((s.lots.map lotR).map rowD))
theorem AskIm.up {H0 H H1 : Hp} {na ga ta la : Addr} {vn vs : V} {s : AskS} (h : AskIm H0 H na ga ta la vn vs s) (e : Ex H H1) : AskIm H0 H1 na ga ta la vn vs s := by
  obtain ⟨sa, h1, h2, h0, n1, n2, n3, n4, h3, h4, ⟨u1, a1, b1⟩, ⟨u2, a2, b2⟩, ⟨u3, a3, b3⟩⟩ := h
  exact ⟨sa, h1, h2, h0, n1, n2, n3, n4, e _ _ h3, e _ _ h4, ⟨u1, e _ _ a1, b1.up e⟩, ⟨u2, e _ _ a2, b2.up e⟩, ⟨u3, e _ _ a3, b3.up e⟩⟩
/-! ### _law_asked -/
abbrev sp_law_asked : Sp := spP (fun x : Nat × List Deed => 1 ≤ x.1 ∧ x.1 ≤ 2 ∧ x.2.length ≤ 4 ∧ ∀ d ∈ x.2, DeedOk x.1 d) (fun x => a2 (vI (dN x.1)) (vL (x.2.map deedD))) fun x => vT5 (vI (dN (askN x.1 x.2).things)) (vL ((isortP (askN x.1 x.2).strings).map pD)) (vL ((askN x.1 x.2).now.map dN)) (vL ((isortP (askN x.1 x.2).turns).map pD)) (vL (((askN x.1 x.2).lots.map lotR).map rowD))
theorem c_law_asked (T : Txt K mg c) : Cal P w K mg base 1 "_law_asked" (sp_law_asked) [] := by
  refine mkCal T.d_law_asked sc_law_asked (fun _ _ _ _ _ _ us hl => match us, hl with | [_, _], _ => rfl) (fun vs H Q E h => ?_) (fun f cdv A outer s H vs Q E hr h => ?_)
  · obtain ⟨x, hx, a, _⟩ := h
    obtain ⟨v0, v1, rfl, _⟩ := a2o a
    rfl
  · obtain ⟨x, hx, a, k⟩ := h
    obtain ⟨v0, v1, rfl, p0, p1⟩ := a2o a
    have hu := hu_of hr
    refine ⟨_, pss_cons (ps_asg (pe_tupZ (pa_cons (pe_listRg rfl (by rfl) T.b_list (prg_1 (by rfl) T.b_range (pv 0))) (pa_cons (pe_op op_rep (pe_lst (pa_cons (pe_int) (pa_nil))) (pv 0)) (pa_cons (pv 0) (pa_cons (pe_lst (pa_nil)) (pa_cons (pe_lst (pa_nil)) (pa_cons (pe_lst (pa_nil)) (pa_nil)))))))) (pg_tupK K (n := 6) rfl (pgs_cons (pg_name (i := 2) sc_law_asked.nd rfl (Or.inl rfl)) (pgs_cons (pg_name (i := 3) sc_law_asked.nd rfl (Or.inl rfl)) (pgs_cons (pg_name (i := 4) sc_law_asked.nd rfl (Or.inl rfl)) (pgs_cons (pg_name (i := 5) sc_law_asked.nd rfl (Or.inl rfl)) (pgs_cons (pg_name (i := 6) sc_law_asked.nd rfl (Or.inl rfl)) (pgs_cons (pg_name (i := 7) sc_law_asked.nd rfl (Or.inl rfl)) (pgs_nil)))))))))
      (pss_cons (ps_for PassesOwn.never rfl (pi_seqK K (pe_op op_cat (pv 1) (pe_lc (own := [("_law_wire", 8)]) rfl sc_law_asked.nd (pi_range1 (by rfl) T.b_range (pa_cons (pv 0) (pa_nil))) (blkOk_by (N := N_law_asked) (sc := defScope s_law_asked) (own := [("_law_wire", 8)]) (by decide +kernel)) (fun _ _ _ _ _ => pg_name (i := 8) sc_law_asked.nd rfl (Or.inl rfl)) (fun _ _ _ _ _ => pts_nil) (fun _ _ _ _ _ => pe_tupZ (pa_cons (pe_str) (pa_cons (pv 8) (pa_nil))))))) (pg_name (i := 9) sc_law_asked.nd rfl (Or.inl rfl))
      (pss_cons (ps_set (i := 8) sc_law_asked.nd rfl (Or.inl rfl) (pe_ix (ix_seqK K) (pv 9) (pe_int) (fun _ _ => rfl)))
      (pss_one (ps_if (pt_cmpR op_eq (pe_ix (ix_seqK K) (pv 9) (pe_int) (fun _ _ => rfl)) (pe_str) (nomark _)) (pss_one (ps_asg (pe_op op_mod (pe_callTy (T := "int") call_int1 (by rfl) T.b_int (by decide +kernel) (pa_cons (pe_op op_add (pe_ix (ix_seqK K) (pv 3) (pv 8) (fun _ _ => rfl)) (pe_ix (ix_seqK K) (pv 9) (pe_int) (fun _ _ => rfl))) (pa_nil))) (pe_int)) (pg_sub (pv 3) (pv 8) set_list))) (pss_one (ps_if (pt_cmpR op_eq (pe_ix (ix_seqK K) (pv 9) (pe_int) (fun _ _ => rfl)) (pe_str) (nomark _)) (pss_cons (ps_set (i := 10) sc_law_asked.nd rfl (Or.inr rfl) (pe_callTy (T := "tuple") (cr_tupleK K) (by rfl) T.b_tuple (by decide +kernel) (pa_cons (pe_callB (id := "sorted") (cr_sortD hr) (by rfl) T.b_sorted (by decide +kernel) (pa_cons (pe_lst (pa_cons (pe_ix (ix_seqK K) (pv 2) (pv 8) (fun _ _ => rfl)) (pa_cons (pe_ix (ix_seqK K) (pv 2) (pe_ix (ix_seqK K) (pv 9) (pe_int) (fun _ _ => rfl)) (fun _ _ => rfl)) (pa_nil)))) (pa_nil))) (pa_nil))))
      (pss_one (ps_set (i := 5) sc_law_asked.nd rfl (Or.inl rfl) (pe_op op_cat (pe_lc (own := [("_law_other", 11)]) rfl sc_law_asked.nd (pi_seqK K (pv 5)) (blkOk_by (N := N_law_asked) (sc := defScope s_law_asked) (own := [("_law_other", 11)]) (by decide +kernel)) (fun _ _ _ _ _ => pg_name (i := 11) sc_law_asked.nd rfl (Or.inl rfl)) (fun _ _ _ _ _ => pts_one (pt_cmpR (op_neDK K hr.units) (pv 11) (pv 10) (nomark _))) (fun _ _ _ _ _ => pv 11)) (pe_ifExp (pt_cmpR (op_notInD (un65 hr)) (pv 10) (pv 5) (by rfl)) (pe_lst (pa_cons (pv 10) (pa_nil))) (pe_lst (pa_nil))))))) (pss_cons (ps_set (i := 5) sc_law_asked.nd rfl (Or.inl rfl) (pe_op op_cat (pv 5) (pe_lst (pa_cons (pe_tupZ (pa_cons (pe_ix (ix_seqK K) (pv 2) (pv 8) (fun _ _ => rfl)) (pa_cons (pv 4) (pa_nil)))) (pa_nil)))))
      (pss_cons (ps_expr (pe_bm PySem.F.plainAttrs_list PySem.F.slot_list_append PySem.F.type_list_append mt_append (pv 6) (pa_cons (pe_tupZ (pa_cons (pe_ix (ix_seqK K) (pv 2) (pv 8) (fun _ _ => rfl)) (pa_cons (pe_ix (ix_seqK K) (pv 3) (pv 8) (fun _ _ => rfl)) (pa_nil)))) (pa_nil))))
      (pss_cons (ps_expr (pe_bm PySem.F.plainAttrs_list PySem.F.slot_list_append PySem.F.type_list_append mt_append (pv 7) (pa_cons (pe_tupZ (pa_cons (pe_ix (ix_seqK K) (pv 2) (pv 8) (fun _ _ => rfl)) (pa_cons (pe_tupZ (pa_cons (pv 4) (pa_nil))) (pa_nil)))) (pa_nil))))
      (pss_one (ps_asg (pe_tupZ (pa_cons (pv 4) (pa_cons (pe_int) (pa_cons (pe_op op_add (pv 4) (pe_int)) (pa_nil))))) (pg_tupK K (n := 3) rfl (pgs_cons (pg_sub (pv 2) (pv 8) set_list) (pgs_cons (pg_sub (pv 3) (pv 8) set_list) (pgs_cons (pg_name (i := 4) sc_law_asked.nd rfl (Or.inl rfl)) (pgs_nil))))))))))))))))
      (pss_one (ps_ret (pe_tupZ (pa_cons (pv 4) (pa_cons (pe_callB (id := "sorted") (cr_sortD hr) (by rfl) T.b_sorted (by decide +kernel) (pa_cons (pv 5) (pa_nil))) (pa_cons (pv 2) (pa_cons (pe_callB (id := "sorted") (cr_sortD hr) (by rfl) T.b_sorted (by decide +kernel) (pa_cons (pv 6) (pa_nil))) (pa_cons (pv 7) (pa_nil)))))))))), ?_⟩
    obtain ⟨wires, dd⟩ := x
    obtain ⟨w1, w2, dl, dok⟩ := hx
    dsimp only at w1 w2 dl dok p0 p1
    refine q_six (A := (List.range wires).map dN) (B := List.replicate wires (dN 0)) (C := dN wires) (S := []) (E := []) (F := []) (e_listRgF (ei_var rfl p0) (by omega)) (fun H1 e1 => ep_repF ec_i (ei_var rfl (p0.up e1)) (by omega)) (fun H1 e1 => ei_var rfl (p0.up e1)) (fun H1 e1 => ep_nilF) (fun H1 e1 => ep_nilF) (fun H1 e1 => ep_nilF) fun na ga vn sa ta la H1 e1 fn fg fs ft fl nd cn cg cv cs ct cl => ?_
    simp only [List.nodup_cons, List.mem_cons, List.not_mem_nil, or_false, not_or, List.nodup_nil, and_true, not_false_eq_true] at nd
    obtain ⟨⟨ng, nsa, nt, nl⟩, ⟨gs, gt, gl⟩, ⟨st, sl⟩, tl⟩ := nd
    have c0 : AskIm H H1 na ga ta la vn (.ref sa) (ask0 wires) := by
      obtain ⟨u1, a1, b1⟩ := cn
      obtain ⟨u2, a2, b2⟩ := cg
      cases Im.isInt cv
      rw [imN_of b1] at a1
      have b2' : ImAll H1 u2 ((List.replicate wires 0).map dN) := by rw [List.map_replicate]; exact b2
      rw [imN_of b2'] at a2
      exact ⟨sa, rfl, rfl, fs, Ne.symm nsa, Ne.symm gs, st, sl, a1, a2, cs, ct, cl⟩
    refine q_forF (xs := dd ++ (List.range wires).map Deed.mix) (enc := deedD) (EvP.imp (e_catF (ds := dd.map deedD) (es := ((List.range wires).map Deed.mix).map deedD) (ep_var rfl (mL _) (mL _ _ _ _ e1 p1)) (EvP.isL (lc_N1 (enc := dN) (fun w => deedD (.mix w)) (src_rng (src_R1 (ea_1 (mI _) (ei_var rfl (p0.up e1))) (by omega))) (by rw [List.length_range]; omega) (fun _ => rfl) fun t y H2 m e i => ep_tup (ea_cons ec_s (ea_cons (ei_var rfl i) ea_nil)) (by show 2 ≤ 100000; omega)) (by rw [List.map_map]; rfl)) (by rw [List.length_map, List.length_map, List.length_map, List.length_range]; omega)) fun v H2 _ p => by rw [List.map_append]; exact p) fun H2 pp ws e2 npp hpp impp => ?_
    have dif : ∀ {x : Addr} {u : HO}, H1 x = some u → pp ≠ x := fun h z => by rw [← z, npp] at h; cases h
    obtain ⟨sa0, r0, _, _, _, _, _, _, hna, hga, ⟨u1, hsa, _⟩, ⟨u2, hta, _⟩, ⟨u3, hla, _⟩⟩ := id c0
    cases r0
    have pna := dif hna
    have pga := dif hga
    have pta := dif hta
    have pla := dif hla
    refine ⟨fun l σ' H' => ∃ vn vs o8 o9 o10 o11, σ' = [some v0, some v1, some (.ref na), some (.ref ga), some vn, some vs, some (.ref ta), some (.ref la), o8, o9, o10, o11] ∧ Ex H H' ∧ H' pp = some (.lst ws) ∧ AskIm H H' na ga ta la vn vs (l.foldl askStep (ask0 wires)), ⟨_, _, _, _, _, _, rfl, e1.trans e2, hpp, c0.up e2⟩, (fun l σ' H' p => by obtain ⟨_, _, _, _, _, _, _, _, h, _⟩ := p; exact h), ?_, ?_⟩
    · rintro l d r y σ' H' hlt tx ⟨vn, vs, o8, o9, o10, o11, rfl, eH, hp', im⟩ iy
      have okd : DeedOk wires d := by
        have m : d ∈ dd ++ (List.range wires).map Deed.mix := by rw [hlt]; exact List.mem_append_right _ List.mem_cons_self
        rcases List.mem_append.mp m with m | m
        · exact dok d m
        · obtain ⟨w, hw, rfl⟩ := List.mem_map.mp m
          exact List.mem_range.mp hw
      have ll : l.length ≤ 6 := by
        have := congrArg List.length hlt
        rw [List.length_append, List.length_map, List.length_range, List.length_append, List.length_cons] at this
        omega
      have ao : AskOk wires l.length (l.foldl askStep (ask0 wires)) := by
        have z : AskOk wires 0 (ask0 wires) := ⟨List.length_range, List.length_replicate, Nat.le_refl _, Nat.le_refl _, Nat.le_refl _⟩
        have := askOk_fold l z
        rw [Nat.zero_add] at this
        exact this
      have step : (l ++ [d]).foldl askStep (ask0 wires) = askStep (l.foldl askStep (ask0 wires)) d := by rw [List.foldl_append]; rfl
      generalize l.foldl askStep (ask0 wires) = s at *
      obtain ⟨aln, alg, als, alt, all⟩ := ao
      obtain ⟨sa, rfl, rfl, fsa, n1, n2, n3, n4, h1, h2, ⟨us, hs, is⟩, ⟨ut, ht, it⟩, ⟨ul, hl, il⟩⟩ := im
      refine q_set (P := vI (dN (deedW d))) (deed_1 (ei_var rfl iy)) fun vw H3 e3 pw => ?_
      cases Im.isInt pw
      have txx := tx.trans (Tx.of e3)
      cases d with
      | turn w t =>
        have ga3 := e3 _ _ h2
        have wl : w < s.gath.length := by rw [alg]; exact okd.1
        refine s_ifY (et_isb (et_t (e_eqS (deed_0 (d := .turn w t) (ei_var rfl (iy.up e3))) ec_s)) (decide_eq_true rfl)) fun H4 e4 => ?_
        refine s_setP (P := vI (dN ((s.gath.getD w 0 + t) % 8))) (l := ga) (j := w) (e4 _ _ ga3) (EvP.isI (eoC (g := fun i j => i % j) (e_int (eo (g := fun i j => i + j) (e_ix (ep_var rfl (mS _) (vS_L ⟨ga, _, rfl, e4 _ _ ga3, imN _⟩)) (ei_var rfl (.int (w : Nat))) (getD_some wl)) (e_ix (n := 2) (ds := [.str "turn", dN w, dN t]) (vST (ei_var rfl ((iy.up e3).up e4))) ec_i rfl))) ec_i (by show (0 : Int) < 8; omega)) (by omega)) (mI _) (ev_var rfl) (ei_var rfl (.int (w : Nat))) (by rw [List.length_map]; exact wl) fun v H5 e5 pv => ?_
        cases Im.isInt pv
        have e345 := (e3.trans e4).trans e5
        have t6 : Tx H5 (upd H5 ga (.lst ((s.gath.map vN).set w (vN ((s.gath.getD w 0 + t) % 8))))) := Tx.lst (e5 _ _ (e4 _ _ ga3))
        refine ⟨(tx.trans (Tx.of e345)).trans t6, _, _, _, _, _, _, rfl, (eH.trans e345).mut fg, by rw [upd_ne pga]; exact e345 _ _ hp', ?_⟩
        rw [step]
        exact ⟨sa, rfl, rfl, fsa, n1, n2, n3, n4, by rw [upd_ne ng]; exact e345 _ _ h1, by rw [upd_same]; show _ = some (HO.lst ((s.gath.set w _).map vN)); rw [List.map_set], ⟨us, by rw [upd_ne n2]; exact e345 _ _ hs, (is.up e345).mv t6⟩, ⟨ut, by rw [upd_ne (Ne.symm gt)]; exact e345 _ _ ht, (it.up e345).mv t6⟩, ⟨ul, by rw [upd_ne (Ne.symm gl)]; exact e345 _ _ hl, (il.up e345).mv t6⟩⟩
      | mix w =>
        have wl : w < s.now.length := by rw [aln]; exact okd
        have wg : w < s.gath.length := by rw [alg]; exact okd
        refine s_ifF (et_isb (et_t (e_eqS (deed_0 (d := .mix w) (ei_var rfl (iy.up e3))) ec_s)) (show decide (("mix" : Str) = "turn") = false by decide)) fun H4 e4 => ?_
        refine s_ifF (et_isb (et_t (e_eqS (deed_0 (d := .mix w) (ei_var rfl ((iy.up e3).up e4))) ec_s)) (show decide (("mix" : Str) = "sign") = false by decide)) fun H5 e5 => ?_
        have e35 := (e3.trans e4).trans e5
        have nowE : ∀ {G : Hp} {o4 o5 o6 o7 o9 o10 o11 : Option V}, G na = some (.lst (s.now.map vN)) → EvP (tOp (rIx K) (tVar 2) (tVar 8)) [some v0, some v1, some (.ref na), some (.ref ga), o4, o5, o6, o7, some (vN w), o9, o10, o11] G (vI (dN (s.now.getD w 0))) := fun h => e_ix (ep_var rfl (mS _) (vS_L ⟨na, _, rfl, h, imN _⟩)) (ei_var rfl (.int (w : Nat))) (getD_some wl)
        have gathE : ∀ {G : Hp} {o4 o5 o6 o7 o9 o10 o11 : Option V}, G ga = some (.lst (s.gath.map vN)) → EvP (tOp (rIx K) (tVar 3) (tVar 8)) [some v0, some v1, some (.ref na), some (.ref ga), o4, o5, o6, o7, some (vN w), o9, o10, o11] G (vI (dN (s.gath.getD w 0))) := fun h => e_ix (ep_var rfl (mS _) (vS_L ⟨ga, _, rfl, h, imN _⟩)) (ei_var rfl (.int (w : Nat))) (getD_some wg)
        refine q_set (P := vF H5 ((s.strings ++ [(s.now.getD w 0, s.things)]).map pD)) (EvP.imp (e_catF (ds := s.strings.map pD) (es := [pD (s.now.getD w 0, s.things)]) (ep_var rfl (mL _) ⟨sa, us, rfl, e35 _ _ hs, is.up e35⟩) (ep_lst (ds := [pD (s.now.getD w 0, s.things)]) (ea_cons (ep_tup (ea_cons (nowE (e35 _ _ h1)) (ea_cons (ei_var rfl (.int (s.things : Nat))) ea_nil)) (by show 2 ≤ 100000; omega)) ea_nil) (by show 1 ≤ 100000; omega)) (by rw [List.length_map]; show s.strings.length + 1 ≤ 100000; omega)) fun v G _ p => by rw [List.map_append]; exact p) fun v5 H6 e6 pv => ?_
        obtain ⟨sb, ws2, rfl, nb, hb, ib⟩ := pv
        have e36 := e35.trans e6
        have difb : ∀ {x : Addr} {u : HO}, H' x = some u → sb ≠ x := fun h z => by
          have := e35 _ _ h
          rw [← z, nb] at this
          cases this
        have fsb : H sb = none := fresh_back (eH.trans e35) nb
        refine q_appP (l := ta) (P := vI (pD (s.now.getD w 0, s.gath.getD w 0))) (ev_var rfl) (e36 _ _ ht) (ep_tup (ea_cons (nowE (e36 _ _ h1)) (ea_cons (gathE (e36 _ _ h2)) ea_nil)) (by show 2 ≤ 100000; omega)) (by rw [it.len, List.length_map]; omega) fun v6 H7 e7 pt => ?_
        have e37 := e36.trans e7
        have t7 : Tx H7 (upd H7 ta (.lst (ut ++ [v6]))) := Tx.lst (e37 _ _ ht)
        have ht8 : (upd H7 ta (.lst (ut ++ [v6]))) ta = some (.lst (ut ++ [v6])) := upd_same
        have it8 : ImAll (upd H7 ta (.lst (ut ++ [v6]))) (ut ++ [v6]) ((s.turns ++ [(s.now.getD w 0, s.gath.getD w 0)]).map pD) := by
          rw [List.map_append]
          exact ((it.up e37).mv t7).app (.cons (Im.mv t7 pt) .nil)
        have k8 : ∀ {b : Addr} {u : HO}, b ≠ ta → H7 b = some u → (upd H7 ta (.lst (ut ++ [v6]))) b = some u := fun n h => by rw [upd_ne n]; exact h
        have eH8 : Ex H (upd H7 ta (.lst (ut ++ [v6]))) := (eH.trans e37).mut ft
        generalize upd H7 ta (.lst (ut ++ [v6])) = H8 at t7 ht8 it8 k8 eH8
        have h18 := k8 nt (e37 _ _ h1)
        have h28 := k8 gt (e37 _ _ h2)
        have hl8 := k8 (Ne.symm tl) (e37 _ _ hl)
        have hb8 := k8 (difb ht) (e7 _ _ hb)
        have hp8 := k8 pta (e37 _ _ hp')
        have ib8 := (ib.up e7).mv t7
        have il8 := (il.up e37).mv t7
        refine q_appP (l := la) (P := vI (rowD (lotR (s.now.getD w 0, s.things)))) (ev_var rfl) hl8 (ep_tup (ds := [dN (s.now.getD w 0), tupN [s.things]]) (ea_cons (nowE h18) (ea_cons (ep_tup (ds := [dN s.things]) (ea_cons (ei_var rfl (.int (s.things : Nat))) ea_nil) (by show 1 ≤ 100000; omega)) ea_nil)) (by show 2 ≤ 100000; omega)) (by rw [il.len, List.length_map, List.length_map]; omega) fun v7 H9 e9 pl => ?_
        have t9 : Tx H9 (upd H9 la (.lst (ul ++ [v7]))) := Tx.lst (e9 _ _ hl8)
        have hl10 : (upd H9 la (.lst (ul ++ [v7]))) la = some (.lst (ul ++ [v7])) := upd_same
        have il10 : ImAll (upd H9 la (.lst (ul ++ [v7]))) (ul ++ [v7]) (((s.lots ++ [(s.now.getD w 0, s.things)]).map lotR).map rowD) := by
          rw [List.map_append, List.map_append]
          exact ((il8.up e9).mv t9).app (.cons (Im.mv t9 pl) .nil)
        have k10 : ∀ {b : Addr} {u : HO}, b ≠ la → H9 b = some u → (upd H9 la (.lst (ul ++ [v7]))) b = some u := fun n h => by rw [upd_ne n]; exact h
        have eH10 : Ex H (upd H9 la (.lst (ul ++ [v7]))) := (eH8.trans e9).mut fl
        generalize upd H9 la (.lst (ul ++ [v7])) = H10 at t9 hl10 il10 k10 eH10
        have h110 := k10 nl (e9 _ _ h18)
        have h210 := k10 gl (e9 _ _ h28)
        have ht10 := k10 tl (e9 _ _ ht8)
        have hb10 := k10 (difb hl) (e9 _ _ hb8)
        have hp10 := k10 pla (e9 _ _ hp8)
        have ib10 := (ib8.up e9).mv t9
        have it10 := (it8.up e9).mv t9
        refine (ep_tup (ds := [dN s.things, dN 0, dN (s.things + 1)]) (ea_cons (ei_var rfl (.int (s.things : Nat))) (ea_cons ec_i (ea_cons (EvP.isI (eo (g := fun i j => i + j) (ei_var rfl (.int (s.things : Nat))) ec_i) (by rw [Int.natCast_add]; rfl)) ea_nil))) (by show 3 ≤ 100000; omega)) H10 (Ex.refl _) _ fun vt G eG pt3 => ?_
        obtain ⟨q, xs, rfl, tq, i3⟩ := pt3.isTup
        have z3 := imN_of (ts := [s.things, 0, s.things + 1]) i3
        subst z3
        have h1G := eG _ _ h110
        have h2G := eG _ _ h210
        refine ⟨q, _, rfl, tq.sq, rfl, _, _, rfl, ⟨.ref na, rfl, vN w, rfl, na, s.now.map vN, (w : Int), w, rfl, rfl, h1G, ixN_nat (by rw [List.length_map]; exact wl), ?_⟩⟩
        have t11 : Tx G (upd G na (.lst ((s.now.map vN).set w (vN s.things)))) := Tx.lst h1G
        have h2' : (upd G na (.lst ((s.now.map vN).set w (vN s.things)))) ga = some (.lst (s.gath.map vN)) := by rw [upd_ne (Ne.symm ng)]; exact h2G
        have k12 : ∀ {b : Addr} {u : HO}, b ≠ na → b ≠ ga → G b = some u → (upd (upd G na (.lst ((s.now.map vN).set w (vN s.things)))) ga (.lst ((s.gath.map vN).set w (vN 0)))) b = some u := fun m1 m2 h => by rw [upd_ne m2, upd_ne m1]; exact h
        have t12 : Tx G (upd (upd G na (.lst ((s.now.map vN).set w (vN s.things)))) ga (.lst ((s.gath.map vN).set w (vN 0)))) := t11.trans (Tx.lst h2')
        refine ⟨_, _, rfl, ⟨.ref ga, rfl, vN w, rfl, ga, s.gath.map vN, (w : Int), w, rfl, rfl, h2', ixN_nat (by rw [List.length_map]; exact wg), ?_⟩⟩
        refine ⟨_, _, rfl, rfl, ?_⟩
        have txall : Tx H' (upd (upd G na (.lst ((s.now.map vN).set w (vN s.things)))) ga (.lst ((s.gath.map vN).set w (vN 0)))) := (((((Tx.of e37).trans t7).trans (Tx.of e9)).trans t9).trans (Tx.of eG)).trans t12
        refine ⟨tx.trans txall, _, _, _, _, _, _, rfl, ((eH10.trans eG).mut fn).mut fg, k12 pna pga (eG _ _ hp10), ?_⟩
        rw [step]
        refine ⟨sb, rfl, rfl, fsb, difb h1, difb h2, difb ht, difb hl, ?_, ?_, ⟨ws2, k12 (difb h1) (difb h2) (eG _ _ hb10), (ib10.up eG).mv t12⟩, ⟨_, k12 (Ne.symm nt) (Ne.symm gt) (eG _ _ ht10), (it10.up eG).mv t12⟩, ⟨_, k12 (Ne.symm nl) (Ne.symm gl) (eG _ _ hl10), (il10.up eG).mv t12⟩⟩
        · rw [upd_ne ng, upd_same]
          show _ = some (HO.lst ((s.now.set w s.things).map vN))
          rw [List.map_set]
        · rw [upd_same]
          show _ = some (HO.lst ((s.gath.set w 0).map vN))
          rw [List.map_set]
      | sign w o =>
        have wl : w < s.now.length := by rw [aln]; exact okd.1
        have ol : o < s.now.length := by rw [aln]; exact okd.2.1
        refine s_ifF (et_isb (et_t (e_eqS (deed_0 (d := .sign w o) (ei_var rfl (iy.up e3))) ec_s)) (show decide (("sign" : Str) = "turn") = false by decide)) fun H4 e4 => ?_
        refine s_ifY (et_isb (et_t (e_eqS (deed_0 (d := .sign w o) (ei_var rfl ((iy.up e3).up e4))) ec_s)) (decide_eq_true rfl)) fun H5 e5 => ?_
        have e35 := (e3.trans e4).trans e5
        have h15 := e35 _ _ h1
        generalize hpq : ordP (s.now.getD w 0) (s.now.getD o 0) = pq at *
        have srt : isort [s.now.getD w 0, s.now.getD o 0] = [pq.1, pq.2] := by rw [sort2, hpq]
        refine q_set (P := vI (pD pq)) (EvP.is (e_tuple (vSL (e_sortN (ns := [s.now.getD w 0, s.now.getD o 0]) (vSL (ep_lst (ds := [dN (s.now.getD w 0), dN (s.now.getD o 0)]) (ea_cons (e_ix (ep_var rfl (mS _) (vS_L ⟨na, _, rfl, h15, imN _⟩)) (ei_var rfl (.int (w : Nat))) (getD_some wl)) (ea_cons (e_ix (ep_var rfl (mS _) (vS_L ⟨na, _, rfl, h15, imN _⟩)) (e_ix (n := 2) (ds := [.str "sign", dN w, dN o]) (vST (ei_var rfl (iy.up e35))) ec_i rfl) (getD_some ol)) ea_nil)) (by show 2 ≤ 100000; omega))) (by show 2 ≤ 1000; omega)))) (by rw [sortD_isort, srt]; rfl)) fun vp H6 e6 pp6 => ?_
        have e36 := e35.trans e6
        have vss : ∀ {G : Hp}, Ex H6 G → vL (s.strings.map pD) (.ref sa) G := fun e => ⟨sa, us, rfl, (e36.trans e) _ _ hs, is.up (e36.trans e)⟩
        refine s_set (P := vF H6 (((s.strings.filter fun q => !decide (q = pq)) ++ (if pq ∈ s.strings then [] else [pq])).map pD)) (EvP.imp (e_catF (ds := (s.strings.filter fun q => !decide (q = pq)).map pD) (es := (if pq ∈ s.strings then [] else [pq]).map pD) (lc_N (xs := s.strings) (enc := pD) (fun q => !decide (q = pq)) pD (src_S (vSL (ep_var rfl (mL _) (vss (Ex.refl _))))) (by omega) (fun _ => rfl) (fun q z H7 m e i => et_t (e_neP (ei_var rfl i) (ei_var rfl (Im.up pp6 e)))) fun q z H7 m ht e i => ei_var rfl i) (ep_if (b := !decide (pq ∈ s.strings)) (et_t (e_ninP (ei_var rfl pp6) (ep_var rfl (mL _) (vss (Ex.refl _))))) (fun hb => ?_) fun hb => ?_) ?_) fun v G _ p => by rw [List.map_append]; exact p) fun v5 H7 e7 pv => ?_
        · have hb : pq ∉ s.strings := by simpa using hb
          rw [if_neg hb]
          exact ep_lst (ds := [pD pq]) (ea_cons (ei_var rfl pp6) ea_nil) (by show 1 ≤ 100000; omega)
        · have hb : pq ∈ s.strings := by simpa using hb
          rw [if_pos hb]
          exact EvP.imp ep_nilF fun v H1 _ p => vF_L p
        · have z := List.length_filter_le (fun q => !decide (q = pq)) s.strings
          rw [List.length_map, List.length_map]
          split
          · rw [List.length_nil]; omega
          · rw [List.length_singleton]; omega
        · obtain ⟨sb, ws2, rfl, nb, hb, ib⟩ := pv
          have e37 := e36.trans e7
          have difb : ∀ {x : Addr} {u : HO}, H' x = some u → sb ≠ x := fun h z => by
            have := e36 _ _ h
            rw [← z, nb] at this
            cases this
          refine ⟨tx.trans (Tx.of e37), _, _, _, _, _, _, rfl, eH.trans e37, e37 _ _ hp', ?_⟩
          rw [step]
          refine ⟨sb, rfl, rfl, fresh_back (eH.trans e36) nb, difb h1, difb h2, difb ht, difb hl, e37 _ _ h1, e37 _ _ h2, ⟨ws2, hb, ?_⟩, ⟨ut, e37 _ _ ht, it.up e37⟩, ⟨ul, e37 _ _ hl, il.up e37⟩⟩
          show ImAll H7 ws2 (((s.strings.filter fun q => !decide (q = ordP (s.now.getD w 0) (s.now.getD o 0))) ++ (if ordP (s.now.getD w 0) (s.now.getD o 0) ∈ s.strings then [] else [ordP (s.now.getD w 0) (s.now.getD o 0)])).map pD)
          rw [hpq]
          exact ib
    · rintro σ' H' tx ⟨vn, vs, o8, o9, o10, o11, rfl, eH, hp', im⟩
      have ao : AskOk wires (dd ++ (List.range wires).map Deed.mix).length (askN wires dd) := by
        have z : AskOk wires 0 (ask0 wires) := ⟨List.length_range, List.length_replicate, Nat.le_refl _, Nat.le_refl _, Nat.le_refl _⟩
        have := askOk_fold (dd ++ (List.range wires).map Deed.mix) z
        rw [Nat.zero_add] at this
        exact this
      rw [List.length_append, List.length_map, List.length_range] at ao
      have im : AskIm H H' na ga ta la vn vs (askN wires dd) := im
      dsimp only at k
      generalize askN wires dd = s at *
      obtain ⟨aln, alg, als, alt, all⟩ := ao
      obtain ⟨sa, rfl, rfl, fsa, n1, n2, n3, n4, h1, h2, ⟨us, hs, is⟩, ⟨ut, ht, it⟩, ⟨ul, hl, il⟩⟩ := im
      exact s_retP (P := vT5 (vI (dN s.things)) (vL ((isortP s.strings).map pD)) (vL (s.now.map dN)) (vL ((isortP s.turns).map pD)) (vL ((s.lots.map lotR).map rowD))) (ep_t5 (ei_var rfl (.int (s.things : Nat))) (EvP.isL (e_sortP (ps := s.strings) (ep_var rfl (mS _) (vS_L ⟨sa, us, rfl, hs, is⟩)) (by omega)) (sortD_isortP _)) (ep_var rfl (mL _) ⟨na, _, rfl, h1, imN _⟩) (EvP.isL (e_sortP (ps := s.turns) (ep_var rfl (mS _) (vS_L ⟨ta, ut, rfl, ht, it⟩)) (by omega)) (sortD_isortP _)) (ep_var rfl (mL _) ⟨la, ul, rfl, hl, il⟩) (mI _) (mL _) (mL _) (mL _) (mL _)) fun v H3 e p => k v H3 (eH.trans e) p
end
end Lk
end

section
set_option Elab.async false
set_option linter.all false
set_option maxRecDepth 100000
set_option maxHeartbeats 4000000
namespace Lk
open PySem PySem.Spec PyProof.Rows L2 Evl PySem.W C8
local macro_rules | `(tactic| walk_at "ex") => `(tactic| first | exact Ex.refl _ | assumption | (refine Ex.trans (H1 := ?g) ?a ?b; (case a => assumption); (case b => walk_at "ex")))
local macro_rules | `(tactic| walk_at "im") => `(tactic| first | assumption | exact Im.int _ | exact Im.bl _ | (refine Im.up (H := ?g) ?a ?b; (case a => assumption); (case b => walk_at "ex")))
local macro_rules | `(tactic| walk_at "ev") => `(tactic| first
  | exact ec_i | exact ec_b | exact ec_s | exact ec_n
  | (refine ei_var rfl ?_; walk_at "im")
  | (refine eo ?_ ?_ <;> walk_at "ev")
  | (refine eoB ?_ ?_ <;> walk_at "ev")
  | (refine e_eqI ?_ ?_ <;> walk_at "ev")
  | (refine e_neI ?_ ?_ <;> walk_at "ev")
  | (refine eu ?_ <;> walk_at "ev")
  | (refine e_not ?_ <;> walk_at "ev"))
/-! The counting: every net of at most four things that may be drawn. -/
def rowOkB (n : Nat) (ts : List Nat) : Bool := decide (ts.Pairwise (· < ·)) && ts.all (fun t => decide (t < n)) && decide (ts.length ≤ 100)
def lokB (x : NetD) : Bool :=
  decide ((laysN x).1.length ≤ 100) && (laysN x).1.all (fun l => decide (l.length ≤ 100)) && decide ((laysN x).2.1.length < 64) && (laysN x).2.1.all (fun p => decide (p.2 < 2 ^ 40)) && (lotsL x).all (fun r => decide (r.2.length ≤ 100)) &&
  (leftL x).all (fun t => decide (t < x.n)) && decide ((leftL x).length ≤ 100) &&
  ((leftL x).isEmpty || ((leftL x).all (fun t => !((nothN (masksN x.n x.ss) (leftL x) (doneL x)).filter (bitAt t)).isEmpty) && (nothN (masksN x.n x.ss) (leftL x) (doneL x)).all fun m => decide (m < 2 ^ 40))) && (showsL x).all (fun r => decide (r.2.length ≤ 100))
def papB (x : NetD) (p : PapD) : Bool :=
  p.layers.all (fun l => rowOkB x.n l && !l.isEmpty) && decide (isort (flatN p.layers) = isort x.looked) && decide (p.layers.length ≤ 100) && decide (p.lots.map (·.1) = isort x.looked) && p.lots.all (fun r => decide (r.1 < x.n) && rowOkB x.n r.2) &&
  rightB (masksN x.n x.ss) p.lots (maskN (List.range x.n)) (maskN x.kept) p.layers.reverse
def wokB (x : NetD) (p : PapD) : Bool :=
  (nearN x.n x.ss).all (fun r => decide (r.length ≤ 200)) && p.lots.all (fun r => decide ((foundN (nearN x.n x.ss) r.2).length < 64) && (metByN (nearN x.n x.ss) r.2).all fun o => decide (o < x.n)) &&
  (List.range x.n).all (fun t => decide ((waitN x p.lots).1.getD t [] = if t ∈ x.kept then [] else exL p.lots t) && decide ((waitN x p.lots).2.getD t [] = sgL x.ss p.lots t)) &&
  decide ((waitN x p.lots).1.length = x.n) && decide ((waitN x p.lots).2.length = x.n)
/-- in any lot of things there is one that none of them waits for -/
def lastB (x : NetD) (p : PapD) : Bool := (List.range (2 ^ x.n)).all fun D => D == 0 || (List.range x.n).any fun s => bitAt s D && (List.range x.n).all fun t => !bitAt t D || (!decide (s ∈ (waitN x p.lots).1.getD t []) && !decide (s ∈ (waitN x p.lots).2.getD t []))
def goodB (x : NetD) (p : PapD) : Bool := papB x p && wokB x p && lastB x p
def netB (x : NetD) : Bool := lokB x && (!(leftL x).isEmpty || goodB x (papL x))
def subs {α : Type} : List α → List (List α)
  | [] => [[]]
  | a :: r => (subs r).flatMap fun l => [l, a :: l]
def pairsN (n : Nat) : List (Nat × Nat) := (List.range n).flatMap fun i => (List.range n).filterMap fun j => if i < j then some (i, j) else none
def picks : Nat → List Nat → List (List Nat)
  | 0, _ => [[]]
  | k + 1, l => [] :: l.flatMap fun a => (picks k (l.filter fun b => !decide (b = a))).map (a :: ·)
def allB (n : Nat) : Bool := (subs (pairsN n)).all fun ss => (picks n (List.range n)).all fun kept => kept.isEmpty || netB ⟨n, ss, kept, []⟩
theorem all2 : allB 2 = true := by decide +kernel
theorem all3 : allB 3 = true := by decide +kernel
end Lk
end

section
set_option Elab.async false
set_option linter.all false
set_option maxRecDepth 100000
set_option maxHeartbeats 4000000
namespace Lk
open PySem PySem.Spec PyProof.Rows L2 Evl PySem.W C8
local macro_rules | `(tactic| walk_at "ex") => `(tactic| first | exact Ex.refl _ | assumption | (refine Ex.trans (H1 := ?g) ?a ?b; (case a => assumption); (case b => walk_at "ex")))
local macro_rules | `(tactic| walk_at "im") => `(tactic| first | assumption | exact Im.int _ | exact Im.bl _ | (refine Im.up (H := ?g) ?a ?b; (case a => assumption); (case b => walk_at "ex")))
local macro_rules | `(tactic| walk_at "ev") => `(tactic| first
  | exact ec_i | exact ec_b | exact ec_s | exact ec_n
  | (refine ei_var rfl ?_; walk_at "im")
  | (refine eo ?_ ?_ <;> walk_at "ev")
  | (refine eoB ?_ ?_ <;> walk_at "ev")
  | (refine e_eqI ?_ ?_ <;> walk_at "ev")
  | (refine e_neI ?_ ?_ <;> walk_at "ev")
  | (refine eu ?_ <;> walk_at "ev")
  | (refine e_not ?_ <;> walk_at "ev"))
/-! Nets of four things, lot by lot. -/
def chunk (i : Nat) : Bool := match (subs (pairsN 4))[i]? with
  | some ss => (picks 4 (List.range 4)).all fun kept => kept.isEmpty || netB ⟨4, ss, kept, []⟩
  | none => true
theorem ch0 : chunk 0 = true := by decide +kernel
theorem ch1 : chunk 1 = true := by decide +kernel
theorem ch2 : chunk 2 = true := by decide +kernel
theorem ch3 : chunk 3 = true := by decide +kernel
theorem ch4 : chunk 4 = true := by decide +kernel
theorem ch5 : chunk 5 = true := by decide +kernel
theorem ch6 : chunk 6 = true := by decide +kernel
theorem ch7 : chunk 7 = true := by decide +kernel
theorem ch8 : chunk 8 = true := by decide +kernel
theorem ch9 : chunk 9 = true := by decide +kernel
theorem ch10 : chunk 10 = true := by decide +kernel
theorem ch11 : chunk 11 = true := by decide +kernel
theorem ch12 : chunk 12 = true := by decide +kernel
theorem ch13 : chunk 13 = true := by decide +kernel
theorem ch14 : chunk 14 = true := by decide +kernel
theorem ch15 : chunk 15 = true := by decide +kernel
theorem ch16 : chunk 16 = true := by decide +kernel
theorem ch17 : chunk 17 = true := by decide +kernel
theorem ch18 : chunk 18 = true := by decide +kernel
theorem ch19 : chunk 19 = true := by decide +kernel
theorem ch20 : chunk 20 = true := by decide +kernel
theorem ch21 : chunk 21 = true := by decide +kernel
theorem ch22 : chunk 22 = true := by decide +kernel
theorem ch23 : chunk 23 = true := by decide +kernel
theorem ch24 : chunk 24 = true := by decide +kernel
theorem ch25 : chunk 25 = true := by decide +kernel
theorem ch26 : chunk 26 = true := by decide +kernel
theorem ch27 : chunk 27 = true := by decide +kernel
theorem ch28 : chunk 28 = true := by decide +kernel
theorem ch29 : chunk 29 = true := by decide +kernel
theorem ch30 : chunk 30 = true := by decide +kernel
theorem ch31 : chunk 31 = true := by decide +kernel
theorem ch32 : chunk 32 = true := by decide +kernel
theorem ch33 : chunk 33 = true := by decide +kernel
theorem ch34 : chunk 34 = true := by decide +kernel
theorem ch35 : chunk 35 = true := by decide +kernel
theorem ch36 : chunk 36 = true := by decide +kernel
theorem ch37 : chunk 37 = true := by decide +kernel
theorem ch38 : chunk 38 = true := by decide +kernel
theorem ch39 : chunk 39 = true := by decide +kernel
theorem ch40 : chunk 40 = true := by decide +kernel
theorem ch41 : chunk 41 = true := by decide +kernel
theorem ch42 : chunk 42 = true := by decide +kernel
theorem ch43 : chunk 43 = true := by decide +kernel
theorem ch44 : chunk 44 = true := by decide +kernel
theorem ch45 : chunk 45 = true := by decide +kernel
theorem ch46 : chunk 46 = true := by decide +kernel
theorem ch47 : chunk 47 = true := by decide +kernel
theorem ch48 : chunk 48 = true := by decide +kernel
theorem ch49 : chunk 49 = true := by decide +kernel
theorem ch50 : chunk 50 = true := by decide +kernel
theorem ch51 : chunk 51 = true := by decide +kernel
theorem ch52 : chunk 52 = true := by decide +kernel
theorem ch53 : chunk 53 = true := by decide +kernel
theorem ch54 : chunk 54 = true := by decide +kernel
theorem ch55 : chunk 55 = true := by decide +kernel
theorem ch56 : chunk 56 = true := by decide +kernel
theorem ch57 : chunk 57 = true := by decide +kernel
theorem ch58 : chunk 58 = true := by decide +kernel
theorem ch59 : chunk 59 = true := by decide +kernel
theorem ch60 : chunk 60 = true := by decide +kernel
theorem ch61 : chunk 61 = true := by decide +kernel
theorem ch62 : chunk 62 = true := by decide +kernel
theorem ch63 : chunk 63 = true := by decide +kernel
theorem all4 : ∀ i : Nat, i < 64 → chunk i = true
  | 0, _ => ch0
  | 1, _ => ch1
  | 2, _ => ch2
  | 3, _ => ch3
  | 4, _ => ch4
  | 5, _ => ch5
  | 6, _ => ch6
  | 7, _ => ch7
  | 8, _ => ch8
  | 9, _ => ch9
  | 10, _ => ch10
  | 11, _ => ch11
  | 12, _ => ch12
  | 13, _ => ch13
  | 14, _ => ch14
  | 15, _ => ch15
  | 16, _ => ch16
  | 17, _ => ch17
  | 18, _ => ch18
  | 19, _ => ch19
  | 20, _ => ch20
  | 21, _ => ch21
  | 22, _ => ch22
  | 23, _ => ch23
  | 24, _ => ch24
  | 25, _ => ch25
  | 26, _ => ch26
  | 27, _ => ch27
  | 28, _ => ch28
  | 29, _ => ch29
  | 30, _ => ch30
  | 31, _ => ch31
  | 32, _ => ch32
  | 33, _ => ch33
  | 34, _ => ch34
  | 35, _ => ch35
  | 36, _ => ch36
  | 37, _ => ch37
  | 38, _ => ch38
  | 39, _ => ch39
  | 40, _ => ch40
  | 41, _ => ch41
  | 42, _ => ch42
  | 43, _ => ch43
  | 44, _ => ch44
  | 45, _ => ch45
  | 46, _ => ch46
  | 47, _ => ch47
  | 48, _ => ch48
  | 49, _ => ch49
  | 50, _ => ch50
  | 51, _ => ch51
  | 52, _ => ch52
  | 53, _ => ch53
  | 54, _ => ch54
  | 55, _ => ch55
  | 56, _ => ch56
  | 57, _ => ch57
  | 58, _ => ch58
  | 59, _ => ch59
  | 60, _ => ch60
  | 61, _ => ch61
  | 62, _ => ch62
  | 63, _ => ch63
  | n + 64, h => absurd h (by omega)
end Lk
end

section
set_option Elab.async false
set_option linter.all false
set_option maxRecDepth 100000
set_option maxHeartbeats 4000000
namespace Lk
open PySem PySem.Spec PyProof.Rows L2 Evl PySem.W C8
local macro_rules | `(tactic| walk_at "ex") => `(tactic| first | exact Ex.refl _ | assumption | (refine Ex.trans (H1 := ?g) ?a ?b; (case a => assumption); (case b => walk_at "ex")))
local macro_rules | `(tactic| walk_at "im") => `(tactic| first | assumption | exact Im.int _ | exact Im.bl _ | (refine Im.up (H := ?g) ?a ?b; (case a => assumption); (case b => walk_at "ex")))
local macro_rules | `(tactic| walk_at "ev") => `(tactic| first
  | exact ec_i | exact ec_b | exact ec_s | exact ec_n
  | (refine ei_var rfl ?_; walk_at "im")
  | (refine eo ?_ ?_ <;> walk_at "ev")
  | (refine eoB ?_ ?_ <;> walk_at "ev")
  | (refine e_eqI ?_ ?_ <;> walk_at "ev")
  | (refine e_neI ?_ ?_ <;> walk_at "ev")
  | (refine eu ?_ <;> walk_at "ev")
  | (refine e_not ?_ <;> walk_at "ev"))
/-! Asked nets: counted over mixes and signs. -/
def kinds : Nat → List Deed
  | 1 => [.mix 0]
  | _ => [.mix 0, .mix 1, .sign 0 1, .sign 1 0]
def deedsUpTo (w : Nat) : Nat → List (List Deed)
  | 0 => [[]]
  | k + 1 => [] :: (kinds w).flatMap fun d => (deedsUpTo w k).map (d :: ·)
def netA (s : AskS) : NetD := ⟨s.things, isortP s.strings, s.now, isortP s.turns⟩
def papA (s : AskS) : PapD := ⟨s.lots.map fun p => [p.1], (isortP s.lots).map lotR⟩
def askB (s : AskS) : Bool := decide (4 < s.things) || (goodB (netA s) (papA s) && decide ((isortP s.turns).map (·.1) = (netA s).looked) && decide (s.now.Nodup) && decide (∀ t ∈ s.now, t < s.things) && decide ((isortP s.strings).Pairwise fun p q => p.1 < q.1 ∨ (p.1 = q.1 ∧ p.2 < q.2)) && decide (∀ p ∈ isortP s.strings, p.1 < p.2 ∧ p.2 < s.things) && decide (s.lots.map (·.1)).Nodup)
def askAll (w : Nat) : Bool := (deedsUpTo w 4).all fun dd => askB (askN w dd)
theorem ask1 : askAll 1 = true := by decide +kernel
theorem ask2 : askAll 2 = true := by decide +kernel
end Lk
end

section
set_option Elab.async false
set_option linter.all false
set_option maxRecDepth 100000
set_option maxHeartbeats 4000000
namespace Lk
open PySem PySem.Spec PyProof.Rows L2 Evl PySem.W C8
local macro_rules | `(tactic| walk_at "ex") => `(tactic| first | exact Ex.refl _ | assumption | (refine Ex.trans (H1 := ?g) ?a ?b; (case a => assumption); (case b => walk_at "ex")))
local macro_rules | `(tactic| walk_at "im") => `(tactic| first | assumption | exact Im.int _ | exact Im.bl _ | (refine Im.up (H := ?g) ?a ?b; (case a => assumption); (case b => walk_at "ex")))
local macro_rules | `(tactic| walk_at "ev") => `(tactic| first
  | exact ec_i | exact ec_b | exact ec_s | exact ec_n
  | (refine ei_var rfl ?_; walk_at "im")
  | (refine eo ?_ ?_ <;> walk_at "ev")
  | (refine eoB ?_ ?_ <;> walk_at "ev")
  | (refine e_eqI ?_ ?_ <;> walk_at "ev")
  | (refine e_neI ?_ ?_ <;> walk_at "ev")
  | (refine eu ?_ <;> walk_at "ev")
  | (refine e_not ?_ <;> walk_at "ev"))
/-! The plain law of the products. -/
theorem prod_rot : ∀ a b : Fin 8, timesA (rotN a.val oneA) (mirrorA (rotN b.val oneA)) = rotN ((a.val + (8 - b.val)) % 8) oneA := by decide
def negA (x : Am) : Am := (-x.1, -x.2.1, -x.2.2.1, -x.2.2.2)
theorem rot4 : ∀ a : Fin 8, rotN ((a.val + 4) % 8) oneA = negA (rotN a.val oneA) := by decide
theorem sumA_comm (x y : Am) : sumA x y = sumA y x := by
  unfold sumA
  rw [Int.add_comm x.1, Int.add_comm x.2.1, Int.add_comm x.2.2.1, Int.add_comm x.2.2.2]
theorem sumA_assoc (x y z : Am) : sumA (sumA x y) z = sumA x (sumA y z) := by
  unfold sumA
  dsimp only
  rw [Int.add_assoc, Int.add_assoc, Int.add_assoc, Int.add_assoc]
def zeroA : Am := (0, 0, 0, 0)
def totA (l : List Am) : Am := l.foldr sumA zeroA
theorem totA_perm {l m : List Am} (p : l.Perm m) : totA l = totA m := by
  induction p with
  | nil => rfl
  | cons x _ ih => exact congrArg (sumA x) ih
  | swap x y l =>
    show sumA y (sumA x _) = sumA x (sumA y _)
    rw [← sumA_assoc, sumA_comm y x, sumA_assoc]
  | trans _ _ h1 h2 => exact h1.trans h2
theorem zero_sum (x : Am) : sumA zeroA x = x := by
  obtain ⟨a, b, c, d⟩ := x
  unfold sumA zeroA
  simp
theorem fold_tot (f : List (Nat × Nat) → Am) : ∀ (ws : List (List (Nat × Nat))) (a : Am), ws.foldl (fun a w => sumA a (f w)) a = sumA a (totA (ws.map f))
  | [], a => by show a = sumA a zeroA; rw [sumA_comm, zero_sum]
  | w :: r, a => by
    rw [List.foldl_cons, fold_tot f r]
    show _ = sumA a (sumA (f w) (totA (r.map f)))
    rw [sumA_assoc]
theorem prods_tot (ws : List (List (Nat × Nat))) (n k l : Nat) : prodsA ws n k l = totA (ws.map fun w => prodA w n k l) := by
  unfold prodsA
  rw [fold_tot (fun w => prodA w n k l)]
  exact zero_sum _
theorem totA_neg : ∀ l : List Am, totA (l.map negA) = negA (totA l)
  | [] => rfl
  | x :: r => by
    show sumA (negA x) (totA (r.map negA)) = negA (sumA x (totA r))
    rw [totA_neg r]
    unfold sumA negA
    simp [Int.neg_add]
theorem neg_zero {x : Am} (h : x = negA x) : x = zeroA := by
  obtain ⟨a, b, c, d⟩ := x
  unfold negA at h
  simp only [Prod.mk.injEq] at h
  obtain ⟨h1, h2, h3, h4⟩ := h
  unfold zeroA
  simp only [Prod.mk.injEq]
  omega
/-- a sum whose terms pair off -/
theorem pair_off {n s : Nat} (hs : s < n) (g : Nat → Am) (h : ∀ k, k < 2 ^ n → g (k ^^^ 2 ^ s) = negA (g k)) : totA ((List.range (2 ^ n)).map g) = zeroA := by
  refine neg_zero ?_
  rw [← totA_neg, List.map_map]
  have lt : ∀ k, k < 2 ^ n → k ^^^ 2 ^ s < 2 ^ n := fun k hk => Nat.xor_lt_two_pow hk (Nat.pow_lt_pow_right (by omega) hs)
  have inv : ∀ k, (k ^^^ 2 ^ s) ^^^ 2 ^ s = k := fun k => by rw [Nat.xor_assoc, Nat.xor_self, Nat.xor_zero]
  have pm : ((List.range (2 ^ n)).map fun k => k ^^^ 2 ^ s).Perm (List.range (2 ^ n)) := by
    refine (List.perm_ext_iff_of_nodup ?_ List.nodup_range).mpr fun k => ?_
    · rw [List.nodup_iff_pairwise_ne, List.pairwise_map]
      exact (List.nodup_iff_pairwise_ne.mp List.nodup_range).imp fun {a b} ne e => ne (by rw [← inv a, e, inv])
    · rw [List.mem_range, List.mem_map]
      constructor
      · rintro ⟨j, hj, rfl⟩
        exact lt j (List.mem_range.mp hj)
      · intro hk
        exact ⟨k ^^^ 2 ^ s, List.mem_range.mpr (lt k hk), inv k⟩
  have e : ((List.range (2 ^ n)).map (negA ∘ g)) = ((List.range (2 ^ n)).map fun k => k ^^^ 2 ^ s).map g := by
    rw [List.map_map]
    exact List.map_congr_left fun k m => (h k (List.mem_range.mp m)).symm
  rw [e]
  exact totA_perm (pm.symm.map g)
end Lk
end

section
set_option Elab.async false
set_option linter.all false
set_option maxRecDepth 100000
set_option maxHeartbeats 4000000
namespace Lk
open PySem PySem.Spec PyProof.Rows L2 Evl PySem.W C8
local macro_rules | `(tactic| walk_at "ex") => `(tactic| first | exact Ex.refl _ | assumption | (refine Ex.trans (H1 := ?g) ?a ?b; (case a => assumption); (case b => walk_at "ex")))
local macro_rules | `(tactic| walk_at "im") => `(tactic| first | assumption | exact Im.int _ | exact Im.bl _ | (refine Im.up (H := ?g) ?a ?b; (case a => assumption); (case b => walk_at "ex")))
local macro_rules | `(tactic| walk_at "ev") => `(tactic| first
  | exact ec_i | exact ec_b | exact ec_s | exact ec_n
  | (refine ei_var rfl ?_; walk_at "im")
  | (refine eo ?_ ?_ <;> walk_at "ev")
  | (refine eoB ?_ ?_ <;> walk_at "ev")
  | (refine e_eqI ?_ ?_ <;> walk_at "ev")
  | (refine e_neI ?_ ?_ <;> walk_at "ev")
  | (refine eu ?_ <;> walk_at "ev")
  | (refine e_not ?_ <;> walk_at "ev"))
/-! A bit turned. -/
theorem bit_test (k t : Nat) : k / 2 ^ t &&& 1 = (k.testBit t).toNat := by
  unfold Nat.testBit
  rw [Nat.shiftRight_eq_div_pow, Nat.and_comm, Nat.one_and_eq_mod_two]
  rcases Nat.mod_two_eq_zero_or_one (k / 2 ^ t) with h | h
  · simp [h]
  · simp [h]
theorem bit_flip (k s t : Nat) : (k ^^^ 2 ^ s) / 2 ^ t &&& 1 = if t = s then 1 - (k / 2 ^ t &&& 1) else k / 2 ^ t &&& 1 := by
  rw [bit_test, bit_test, Nat.testBit_xor, Nat.testBit_two_pow]
  by_cases e : t = s
  · subst e
    simp
    cases k.testBit t <;> rfl
  · rw [if_neg e, decide_eq_false (fun z => e z.symm), Bool.xor_false]
theorem sumF_congr {f g : List Nat} : ∀ {row : List Nat}, (∀ o ∈ row, f.getD o 0 = g.getD o 0) → sumF f row = sumF g row
  | [], _ => rfl
  | o :: r, h => by
    have e : ∀ f : List Nat, sumF f (o :: r) = ((f.getD o 0 : Nat) : Int) + sumF f r := fun f => List.sum_cons
    rw [e, e, h o List.mem_cons_self, sumF_congr fun o m => h o (List.mem_cons_of_mem _ m)]
theorem nowN_congr {x : WtD} {t : Nat} {f g : List Nat} (h1 : ∀ o ∈ x.ex.getD t [], f.getD o 0 = g.getD o 0) (h2 : ∀ o ∈ x.sg.getD t [], f.getD o 0 = g.getD o 0) : nowN x t f = nowN x t g := by
  unfold nowN
  rw [sumF_congr h1, sumF_congr h2]
theorem bitsOf_at {n k t : Nat} (h : t < n) : (bitsOf n k).getD t 0 = k / 2 ^ t &&& 1 := by
  unfold bitsOf
  rw [List.getD_eq_getElem?_getD, List.getElem?_map, List.getElem?_range h]
  rfl
theorem truths_at {falls bits : List Nat} {t : Nat} (h1 : t < falls.length) (h2 : t < bits.length) : (truthsN falls bits).getD t 0 = xorN (falls.getD t 0) (bits.getD t 0) := by
  unfold truthsN
  rw [List.getD_eq_getElem?_getD, List.getElem?_map, (List.getElem?_zip_eq_some (z := (falls[t], bits[t]))).mpr ⟨List.getElem?_eq_getElem h1, List.getElem?_eq_getElem h2⟩]
  rw [List.getD_eq_getElem?_getD, List.getD_eq_getElem?_getD, List.getElem?_eq_getElem h1, List.getElem?_eq_getElem h2]
  rfl
theorem prodA_rot (w : List (Nat × Nat)) (n ka kb : Nat) : prodA w n ka kb = rotN ((phase w n ka - phase w n kb) % 8).toNat oneA := by
  unfold prodA
  generalize phase w n ka = a
  generalize phase w n kb = b
  have h := prod_rot ⟨(a % 8).toNat, by omega⟩ ⟨(b % 8).toNat, by omega⟩
  dsimp only at h
  rw [h]
  congr 1
  omega
theorem rot_turn {a b : Int} (h : (b - a) % 8 = 4) : rotN (b % 8).toNat oneA = negA (rotN (a % 8).toNat oneA) := by
  have r := rot4 ⟨(a % 8).toNat, by omega⟩
  dsimp only at r
  rw [← r]
  congr 1
  omega
/-- two sums whose terms differ at one place alone -/
theorem sum_one {f g : Nat → Int} {s : Nat} {d : Int} : ∀ {l : List Nat}, l.Nodup → s ∈ l → (∀ t ∈ l, t ≠ s → g t = f t) → g s - f s = d → (l.map g).sum - (l.map f).sum = d
  | [], _, h, _, _ => by cases h
  | t :: r, nd, h, e, hd => by
    rw [List.map_cons, List.map_cons, List.sum_cons, List.sum_cons]
    obtain ⟨n1, n2⟩ := List.nodup_cons.mp nd
    by_cases z : t = s
    · have eq : r.map g = r.map f := List.map_congr_left fun u m => e u (List.mem_cons_of_mem _ m) fun y => n1 (z.trans y.symm ▸ m)
      rw [eq, z]
      omega
    · have m : s ∈ r := (List.mem_cons.mp h).resolve_left fun y => z y.symm
      have ih := sum_one n2 m (fun u mu => e u (List.mem_cons_of_mem _ mu)) hd
      rw [e t List.mem_cons_self z]
      omega
theorem sum_sub (f g : Nat → Int) : ∀ l : List Nat, (l.map f).sum - (l.map g).sum = (l.map fun t => f t - g t).sum
  | [] => rfl
  | t :: r => by
    have ih := sum_sub f g r
    rw [List.map_cons, List.map_cons, List.map_cons, List.sum_cons, List.sum_cons, List.sum_cons]
    omega
theorem phase_sub (w : List (Nat × Nat)) (n ka kb : Nat) : phase w n ka - phase w n kb = ((List.range n).map fun t => (((w.getD t (0, 0)).1 * (ka / 2 ^ t % 2) : Nat) : Int) - (((w.getD t (0, 0)).1 * (kb / 2 ^ t % 2) : Nat) : Int)).sum := by
  unfold phase
  exact sum_sub _ _ _
theorem secN_at {x : WtD} {told falls bits : List Nat} {t : Nat} (h : t < bits.length) : (secN x told falls bits).getD t (0, 0) = (((nowN x t (truthsN falls bits) + 4 * ((bits.getD t 0 : Nat) : Int) - ((told.getD t 0 : Nat) : Int)) % 8).toNat, bits.getD t 0) := by
  unfold secN
  rw [List.getD_eq_getElem?_getD, List.getElem?_map, List.getElem?_range h]
  rfl
theorem term_turn {x : WtD} {n s ka kb k : Nat} {told falls : List Nat} (lf : falls.length = n) (hs : s < n) (hd : ka / 2 ^ s % 2 ≠ kb / 2 ^ s % 2) (free : ∀ t, t < n → ka / 2 ^ t % 2 ≠ kb / 2 ^ t % 2 → s ∉ x.ex.getD t [] ∧ s ∉ x.sg.getD t []) (ent : ∀ t, t < n → (∀ o ∈ x.ex.getD t [], o < n) ∧ ∀ o ∈ x.sg.getD t [], o < n) :
    prodA (secN x told falls (bitsOf n (k ^^^ 2 ^ s))) n ka kb = negA (prodA (secN x told falls (bitsOf n k)) n ka kb) := by
  rw [prodA_rot, prodA_rot]
  refine rot_turn ?_
  rw [phase_sub, phase_sub]
  have tr : ∀ o, o < n → o ≠ s → (truthsN falls (bitsOf n (k ^^^ 2 ^ s))).getD o 0 = (truthsN falls (bitsOf n k)).getD o 0 := fun o ho ne => by
    rw [truths_at (by omega) (by rw [bitsOf_len]; exact ho), truths_at (by omega) (by rw [bitsOf_len]; exact ho), bitsOf_at ho, bitsOf_at ho, bit_flip, if_neg ne]
  have now_ : ∀ t, t < n → ka / 2 ^ t % 2 ≠ kb / 2 ^ t % 2 → nowN x t (truthsN falls (bitsOf n (k ^^^ 2 ^ s))) = nowN x t (truthsN falls (bitsOf n k)) := fun t ht hne => by
    obtain ⟨f1, f2⟩ := free t ht hne
    obtain ⟨g1, g2⟩ := ent t ht
    exact nowN_congr (fun o m => tr o (g1 o m) fun z => f1 (z ▸ m)) fun o m => tr o (g2 o m) fun z => f2 (z ▸ m)
  have at_ : ∀ j t, t < n → ((secN x told falls (bitsOf n j)).getD t (0, 0)).1 = ((nowN x t (truthsN falls (bitsOf n j)) + 4 * ((j / 2 ^ t &&& 1 : Nat) : Int) - ((told.getD t 0 : Nat) : Int)) % 8).toNat := fun j t ht => by
    rw [secN_at (by rw [bitsOf_len]; exact ht), bitsOf_at ht]
  rw [sum_one (s := s) (List.nodup_range (n := n)) (List.mem_range.mpr hs) (fun t m ne => ?_) rfl]
  · rw [at_ _ s hs, at_ _ s hs, now_ s hs hd, bit_flip, if_pos rfl]
    generalize nowN x s (truthsN falls (bitsOf n k)) = q
    have b2 : (k / 2 ^ s &&& 1) ≤ 1 := Nat.and_le_right
    generalize (k / 2 ^ s &&& 1) = b at *
    generalize told.getD s 0 = td
    have ha : ka / 2 ^ s % 2 < 2 := Nat.mod_lt _ (by omega)
    have hb : kb / 2 ^ s % 2 < 2 := Nat.mod_lt _ (by omega)
    generalize ka / 2 ^ s % 2 = a1 at *
    generalize kb / 2 ^ s % 2 = b1 at *
    have c1 : (a1 = 0 ∧ b1 = 1) ∨ (a1 = 1 ∧ b1 = 0) := by omega
    have c2 : b = 0 ∨ b = 1 := by omega
    rcases c1 with ⟨rfl, rfl⟩ | ⟨rfl, rfl⟩ <;> rcases c2 with rfl | rfl <;> simp <;> omega
  · have tn := List.mem_range.mp m
    by_cases e : ka / 2 ^ t % 2 = kb / 2 ^ t % 2
    · rw [e, Int.sub_self, Int.sub_self]
    · rw [at_ _ t tn, at_ _ t tn, now_ t tn e, bit_flip, if_neg ne]
theorem prods_zero {x : NetD} {p : PapD} {told falls : List Nat} {ws : List (List (Nat × Nat))} {s ka kb : Nat} (pm : ws.Perm (waysU x p told falls)) (lf : falls.length = x.n) (hs : s < x.n) (hd : ka / 2 ^ s % 2 ≠ kb / 2 ^ s % 2) (free : ∀ t, t < x.n → ka / 2 ^ t % 2 ≠ kb / 2 ^ t % 2 → s ∉ (wtN x p).ex.getD t [] ∧ s ∉ (wtN x p).sg.getD t []) (ent : ∀ t, t < x.n → (∀ o ∈ (wtN x p).ex.getD t [], o < x.n) ∧ ∀ o ∈ (wtN x p).sg.getD t [], o < x.n) : prodsA ws x.n ka kb = zeroA := by
  rw [prods_tot, totA_perm (pm.map _)]
  unfold waysU
  rw [List.map_map]
  exact pair_off hs _ fun k _ => term_turn lf hs hd free ent
theorem tot_ones : ∀ (l : List Am), (∀ a ∈ l, a = oneA) → totA l = ((l.length : Int), 0, 0, 0)
  | [], _ => rfl
  | a :: r, h => by
    show sumA a (totA r) = _
    rw [tot_ones r fun b m => h b (List.mem_cons_of_mem _ m), h a List.mem_cons_self, List.length_cons]
    unfold sumA oneA
    simp
    omega
theorem prods_like {x : NetD} {p : PapD} {told falls : List Nat} {ws : List (List (Nat × Nat))} {ka : Nat} (pm : ws.Perm (waysU x p told falls)) : prodsA ws x.n ka ka = (((2 ^ x.n : Nat) : Int), 0, 0, 0) := by
  rw [prods_tot, tot_ones _ fun a m => ?_]
  · rw [List.length_map, pm.length_eq]
    unfold waysU
    rw [List.length_map, List.length_range]
  · obtain ⟨w, _, rfl⟩ := List.mem_map.mp m
    rw [prodA_rot, Int.sub_self]
    rfl
end Lk
end

section
set_option Elab.async false
set_option linter.all false
set_option maxRecDepth 100000
set_option maxHeartbeats 4000000
namespace Lk
open PySem PySem.Spec PyProof.Rows L2 Evl PySem.W C8
local macro_rules | `(tactic| walk_at "ex") => `(tactic| first | exact Ex.refl _ | assumption | (refine Ex.trans (H1 := ?g) ?a ?b; (case a => assumption); (case b => walk_at "ex")))
local macro_rules | `(tactic| walk_at "im") => `(tactic| first | assumption | exact Im.int _ | exact Im.bl _ | (refine Im.up (H := ?g) ?a ?b; (case a => assumption); (case b => walk_at "ex")))
local macro_rules | `(tactic| walk_at "ev") => `(tactic| first
  | exact ec_i | exact ec_b | exact ec_s | exact ec_n
  | (refine ei_var rfl ?_; walk_at "im")
  | (refine eo ?_ ?_ <;> walk_at "ev")
  | (refine eoB ?_ ?_ <;> walk_at "ev")
  | (refine e_eqI ?_ ?_ <;> walk_at "ev")
  | (refine e_neI ?_ ?_ <;> walk_at "ev")
  | (refine eu ?_ <;> walk_at "ev")
  | (refine e_not ?_ <;> walk_at "ev"))
/-! The law's own turn now is the package's. -/
theorem mergeA_get {α : Type} {n : Nat} : ∀ (qs acc : List (Nat × α)), (qs.map (·.1)).Nodup → getA (mergeA acc qs) n = (getA qs n).or (getA acc n)
  | [], acc, _ => rfl
  | q :: r, acc, nd => by
    obtain ⟨n1, n2⟩ := List.nodup_cons.mp nd
    have ih := mergeA_get (n := n) r (putA acc q.1 q.2) n2
    show getA (mergeA (putA acc q.1 q.2) r) n = (if q.1 = n then some q.2 else getA r n).or (getA acc n)
    rw [ih, getA_put]
    by_cases e : q.1 = n
    · rw [if_pos e, if_pos e]
      have : getA r n = none := by
        cases h : getA r n with
        | none => rfl
        | some d => exact absurd (List.mem_map.mpr ⟨_, getA_mem h, e.symm⟩) n1
      rw [this]
      rfl
    · rw [if_neg e, if_neg e]
end Lk
end

section
set_option Elab.async false
set_option linter.all false
set_option maxRecDepth 100000
set_option maxHeartbeats 4000000
namespace Lk
open PySem PySem.Spec PyProof.Rows L2 Evl PySem.W C8
local macro_rules | `(tactic| walk_at "ex") => `(tactic| first | exact Ex.refl _ | assumption | (refine Ex.trans (H1 := ?g) ?a ?b; (case a => assumption); (case b => walk_at "ex")))
local macro_rules | `(tactic| walk_at "im") => `(tactic| first | assumption | exact Im.int _ | exact Im.bl _ | (refine Im.up (H := ?g) ?a ?b; (case a => assumption); (case b => walk_at "ex")))
local macro_rules | `(tactic| walk_at "ev") => `(tactic| first
  | exact ec_i | exact ec_b | exact ec_s | exact ec_n
  | (refine ei_var rfl ?_; walk_at "im")
  | (refine eo ?_ ?_ <;> walk_at "ev")
  | (refine eoB ?_ ?_ <;> walk_at "ev")
  | (refine e_eqI ?_ ?_ <;> walk_at "ev")
  | (refine e_neI ?_ ?_ <;> walk_at "ev")
  | (refine eu ?_ <;> walk_at "ev")
  | (refine e_not ?_ <;> walk_at "ev"))
/-! Comprehensions that draw; lists within lists; three in a tuple. -/
section
variable {h c : Addr} {ds : List Int} {n m : Nat} {H H1 : Hp} {σ : L2.St} {te ta tb tc : TE} {tas : TA} {P R S : VP} {D : Ends} {tz tu tw : TS} {tt : TT} {wi : TI} {vs : List Nat} {j : Nat} {K : PySem.W.Frag}
theorem fresh_kx {p : Addr} (l1 : LH h c ds m H1) (k : Kx h H H1) (f : H1 p = none) : H p = none := by
  cases e : H p with
  | none => rfl
  | some o =>
    by_cases z : p = h
    · obtain ⟨_, _, _, _, _, _, h2⟩ := l1
      rw [z, h2] at f; cases f
    · rw [k p o z e] at f; cases f
theorem lc_H {k q q1 lo : Nat} {Rs Ts : Nat → List PyData → Prop} (hk : k ≤ 50000) (src : ∀ C : It → Hp → Prop, (∀ H1, Ex H H1 → C (Itr (lo : Nat) k) H1) → wi σ H C) (l : LH h c ds m H) (hw : ∀ x, wipe ((wipe σ vs).set j (some x)) vs = wipe σ vs) (r0 : Rs 0 [])
    (ht : ∀ i es G, i < k → Rs i es → Kx h H G → LH h c ds (m + i * q) G → ∀ C : Bool → Hp → Prop, (∀ b G2, Kx h G G2 → LH h c ds (m + i * q + q1) G2 → (b = false → Rs (i + 1) es) → (b = true → Ts i es) → C b G2) → tt ((wipe σ vs).set j (some (vN (lo + i)))) G C) (hq : q1 ≤ q)
    (he : ∀ i es G, i < k → Ts i es → Kx h H G → LH h c ds (m + i * q + q1) G → EvH h c ds (m + (i + 1) * q) te ((wipe σ vs).set j (some (vN (lo + i)))) G (fun v G3 => ∃ d, Im G3 v d ∧ Rs (i + 1) (es ++ [d]))) :
    EvH h c ds (m + k * q) (tLc wi (gName j) tt te vs) σ H (fun v G => ∃ es, Rs k es ∧ vF H es v G) := by
  intro Q qf
  refine src _ fun H1 e1 Dl hD => ?_
  have l1 := l.up e1
  obtain ⟨Dh, Dc⟩ := l1.ne_of hD
  have nH : H Dl = none := fresh_back e1 hD
  refine ⟨fun i mm G => mm = k - i ∧ i ≤ k ∧ Kx h H G ∧ LH h c ds (m + i * q) G ∧ ∃ es xs, Rs i es ∧ G Dl = some (.lst xs) ∧ xs.length ≤ i ∧ ImAll G xs es, ⟨k, rfl, Nat.zero_le _, (Kx.of e1).mutf nH, by rw [Nat.zero_mul]; exact l1.oth Dh Dc, [], [], r0, upd_same, Nat.le_refl _, .nil⟩, ?_⟩
  rintro i mm G ⟨rfl, hi, kx, lh, es, xs, r, hx, xl, im⟩
  by_cases lt : i < k
  · refine .inr ⟨lt, fun G' => i + 1 ≤ k ∧ Kx h H G' ∧ LH h c ds (m + (i + 1) * q) G' ∧ ∃ es xs, Rs (i + 1) es ∧ G' Dl = some (.lst xs) ∧ xs.length ≤ i + 1 ∧ ImAll G' xs es, fun G' p => ⟨k - (i + 1), by omega, rfl, p.1, p.2⟩, fun x G1 hy => ?_⟩
    obtain ⟨rfl, rfl⟩ := hy
    refine ⟨hw _, ?_⟩
    have ex : V.int (((lo : Nat) : Int) + (i : Int)) = vN (lo + i) := by show V.int _ = V.int _; rw [Int.natCast_add]
    rw [ex]
    have mq : m + (i + 1) * q = m + i * q + q := by rw [Nat.succ_mul, Nat.add_assoc]
    refine ht i es G1 lt r kx lh _ fun b G2 k2 l2 hf htr => ?_
    have hx2 := k2 _ _ Dh hx
    have im2 := im.mv (lh.tx k2)
    cases b with
    | false => exact ⟨lt, kx.trans k2, l2.le (by omega), es, xs, hf rfl, hx2, by omega, im2⟩
    | true =>
      refine he i es G2 lt (htr rfl) (kx.trans k2) l2 _ fun v G3 k3 l3 p => ?_
      obtain ⟨d, iv, r3⟩ := p
      have hx3 := k3 _ _ Dh hx2
      have tx : Tx G3 (upd G3 Dl (.lst (xs ++ [v]))) := Tx.lst hx3
      exact ⟨xs, hx3, sz_lt (by omega), lt, ((kx.trans k2).trans k3).mutf nH, l3.oth Dh Dc, es ++ [d], xs ++ [v], r3, upd_same, by rw [List.length_append, List.length_singleton]; omega, ((im2.mv (l2.tx k3)).mv tx).app (.cons (iv.mv tx) .nil)⟩
  · have e : i = k := by omega
    subst e
    exact .inl ⟨Nat.le_refl _, qf _ G kx lh ⟨es, r, Dl, xs, rfl, nH, hx, im⟩⟩
theorem srcH1 {k : Nat} (e : EvP te σ H (vI (dN k))) (hk : k ≤ 50000) (C : It → Hp → Prop) (q : ∀ H1, Ex H H1 → C (Itr ((0 : Nat) : Nat) k) H1) : iRng1 (tCons te tNil) σ H C := e H (Ex.refl _) _ fun v H1 e1 p => by
  cases Im.isInt p
  refine ⟨(k : Int), rfl, by omega, by omega, ?_⟩
  rw [Int.toNat_natCast]
  exact q H1 e1
theorem srcH2 {k lo : Nat} (ea : EvP ta σ H (vI (dN lo))) (e : EvP te σ H (vI (dN k))) (hk : k ≤ 50000) (hl : lo ≤ 50000) (C : It → Hp → Prop) (q : ∀ H1, Ex H H1 → C (Itr (lo : Nat) (k - lo)) H1) : iRng2 (tCons ta (tCons te tNil)) σ H C := ea H (Ex.refl _) _ fun u H0 e0 p0 => e H0 e0 _ fun v H1 e1 p => by
  cases Im.isInt p0
  cases Im.isInt p
  refine ⟨(lo : Int), (k : Int), rfl, ⟨by omega, by omega, by omega, by omega⟩, ?_⟩
  rw [show ((k : Int) - (lo : Int)).toNat = k - lo by omega]
  exact q H1 (e0.trans e1)
theorem q_ifH (e : EvTH h c ds m tt σ H) (h1 : ∀ H1, Kx h H H1 → LH h c ds m H1 → tu { D with nx := tz D } σ H1) (h2 : ∀ H1, Kx h H H1 → LH h c ds m H1 → tw { D with nx := tz D } σ H1) : tSeq (tIfS tt tu tw) tz D σ H := s_ifH (D := { D with nx := tz D }) e h1 h2
/-- sift(..) == i, its answer open -/
theorem eth_sift {k : Nat} {i : Int} {E : XK} (l : LH h c ds n H) (hn : n < 900000) (k0 : 0 < k) (k1 : k < 1000) (a : EvAs tas σ H (fun vs _ => vs = [.ref h, .int (k : Nat)])) (hb : ∀ H1, EvP tb σ H1 (vI (.int i))) : EvTH h c ds (n + 1) (tTest (tOp rEq (tCall sp_sift0 [] E tas) tb)) σ H := eth_t (eh_op (m := n + 1) (P := vB k) (R := vI (.int i)) l (eh_sift l hn k0 k1 a) (lB k) (fun H1 k1 l1 => .of l1 (hb H1)) fun x y H1 k1 l1 px py Q q => by
  obtain ⟨r, _, rfl⟩ := px
  cases Im.isInt py
  exact ⟨rfl, q _ _ (Ex.refl _) ⟨_, rfl⟩⟩)
theorem as_h1 {i : Nat} {k : Int} (h1 : σ[i]? = some (some (.ref h))) (h2 : EvP te σ H (vI (.int k))) : EvAs (tCons (tVar i) (tCons te tNil)) σ H (fun vs _ => vs = [.ref h, .int k]) := as_h (ev_var h1) h2
theorem lT3 (p1 : Lm P) (p2 : Lm R) (p3 : Lm S) : Lm (vT3 P R S) := fun l k p => by
  obtain ⟨q, a, b, d, rfl, h1, i1, i2, i3⟩ := p
  exact ⟨q, a, b, d, rfl, l.tx k _ _ h1, p1 l k i1, p2 l k i2, p3 l k i3⟩
/-! lists within lists -/
theorem ea_nilM : EvAs tNil σ H (fun vs H => DmAll H vs []) := fun H1 _ Q q => q [] H1 (Ex.refl _) .nil
theorem ea_consM {tr : TA} {d : PyData} {es : List PyData} (a : EvP te σ H (vM d)) (hr : EvAs tr σ H (fun vs H => DmAll H vs es)) : EvAs (tCons te tr) σ H (fun vs H => DmAll H vs (d :: es)) := fun H1 e Q q =>
  a H1 e _ fun v H2 e2 p => hr H2 (e.trans e2) _ fun vs H3 e3 a => q _ H3 (e2.trans e3) (.cons (Dm.up e3 p) a)
theorem ep_lstM {es : List PyData} (a : EvAs tas σ H (fun vs H => DmAll H vs es)) (hl : es.length ≤ 100000) : EvP (tLst tas) σ H (vM (.list es)) := fun H1 e Q q =>
  a H1 e _ fun vs H2 e2 a => ⟨by rw [a.len]; exact sz_of hl, fun p hp => q _ _ (e2.trans (Ex.new hp)) (.lst upd_same (DmAll.up (Ex.new hp) a))⟩
theorem ep_tupM {es : List PyData} (a : EvAs tas σ H (fun vs H => DmAll H vs es)) (hl : es.length ≤ 100000) : EvP (tTupZ tas) σ H (vM (.tuple es)) := fun H1 e Q q =>
  a H1 e _ fun vs H2 e2 a => ⟨by rw [a.len]; exact sz_of hl, fun p o d hp => q _ _ (e2.trans (Ex.new hp)) (.tup (.inr (Tz.new d)) (DmAll.up (Ex.new hp) a))⟩
theorem ec_M {i : Int} : EvP (tC (.int i)) σ H (vM (.int i)) := ep_of ev_c (mM _) (.int i)
/-- [[a] for a, _ in pairs] -/
theorem lc_ones {j2 : Nat} {xs : List (Nat × Nat)} {tl : TE} (a : EvP tl σ H (vL ((xs.map lotR).map rowD))) (hz : xs.length ≤ 1000) (hw : ∀ x y, wipe (((wipe σ vs).set j (some x)).set j2 (some y)) vs = wipe σ vs) (hv : ∀ x y, (((wipe σ vs).set j (some x)).set j2 (some y))[j]? = some (some x)) :
    EvP (tLc (iSeq K tl) (gTup K 2 (gCons (gName j) (gCons (gName j2) gNil))) tYes (tLst (tCons (tVar j) tNil)) vs) σ H (vM (.list (xs.map fun p => .list [dN p.1]))) := by
  intro H1 e1 Q q
  have src := src_pr (K := K) (xs := xs) (e1 := fun p : Nat × Nat => dN p.1) (e2 := fun p : Nat × Nat => tupN [p.2]) (src_S (K := K) (xs := xs) (enc := fun p => rowD (lotR p)) (vSL (EvP.isL a (by rw [List.map_map]; rfl))))
  refine src H1 e1 _ fun J H2 e2 hJ hS => ?_
  intro Dl hD
  refine ⟨fun i m G => m = xs.length - i ∧ i ≤ xs.length ∧ Ex H2 G ∧ ∃ ws, G Dl = some (.lst ws) ∧ ∀ G', Kx Dl G G' → DmAll G' ws ((xs.take i).map fun p => .list [dN p.1]), ⟨_, rfl, Nat.zero_le _, Ex.new hD, [], upd_same, fun _ _ => .nil⟩, ?_⟩
  rintro i m G ⟨rfl, hi, eG, ws, hx, im⟩
  by_cases hlt : i < xs.length
  · obtain ⟨go, yl⟩ := hJ i G eG hlt
    have tk : xs.take (i + 1) = xs.take i ++ [xs[i]] := by rw [List.take_add_one, List.getElem?_eq_getElem hlt]; rfl
    refine .inr ⟨go, fun G' => i + 1 ≤ xs.length ∧ Ex H2 G' ∧ ∃ ws, G' Dl = some (.lst ws) ∧ ∀ G'', Kx Dl G' G'' → DmAll G'' ws ((xs.take (i + 1)).map fun p => .list [dN p.1]), fun G' p => ⟨xs.length - (i + 1), by omega, rfl, p⟩, fun x G1 hy => ?_⟩
    obtain ⟨eY, _, b, hb, pr⟩ := yl x G1 hy
    rw [List.getElem?_eq_getElem hlt] at hb
    cases hb
    refine g_pr pr fun u w iu iw => ⟨hw u w, ?_⟩
    dsimp only [tYes]
    rw [if_pos rfl]
    refine ⟨u, hv u w, by show 1 ≤ sizeLine; decide, fun p hp => ?_⟩
    have hx1 := eY _ _ hx
    have pD : p ≠ Dl := fun z => by rw [z, hx1] at hp; cases hp
    have l0 := (im G (Kx.refl _ _)).len
    rw [List.length_map, List.length_take] at l0
    refine ⟨ws, by rw [upd_ne (Ne.symm pD)]; exact hx1, sz_lt (by omega), hlt, Ex.mut ((eG.trans eY).trans (Ex.new hp)) hD, ws ++ [.ref p], upd_same, fun G' kG => ?_⟩
    have k0 : Kx Dl G G' := (((Kx.of eY).trans (Kx.of (Ex.new hp))).trans Kx.upd).trans kG
    have hp' : G' p = some (.lst [u]) := kG _ _ pD (by rw [upd_ne pD]; exact upd_same)
    rw [tk, List.map_append]
    have app : ∀ {as bs : List V} {ds es : List PyData}, DmAll G' as ds → DmAll G' bs es → DmAll G' (as ++ bs) (ds ++ es) := fun {as bs ds es} a b => by
      induction as generalizing ds with
      | nil => cases a; exact b
      | cons v r ih => cases a with | cons x y => exact .cons x (ih y)
    refine app (im G' k0) (.cons (.lst hp' (.cons ?_ .nil)) .nil)
    cases Im.isInt iu
    exact .int _
  · have e : i = xs.length := by omega
    subst e
    have z := im G (Kx.refl _ _)
    rw [List.take_length] at z
    exact .inl ⟨hS G eG, q _ _ (e2.trans eG) (.lst hx z)⟩
/-- sorted(lots): pairs of a thing and a lot of one thing -/
theorem dle_row (p q : Nat × Nat) : dataLe false (fun p => rowD (lotR p)) p q = leP p q := by
  show (!PySem.W.dataLt (.tuple [dN q.1, .tuple [dN q.2]]) (.tuple [dN p.1, .tuple [dN p.2]])) = _
  have one : ∀ a b : Nat, PySem.W.dataLt (.tuple [dN a]) (.tuple [dN b]) = decide (a < b) := fun a b => by
    rw [PySem.W.dataLt_tuple]
    have z := PySem.W.dataLt_ints [(a : Int)] [(b : Int)]
    refine Eq.trans z ?_
    rw [decide_eq_decide, List.cons_lt_cons_iff]
    exact ⟨fun h => h.elim (fun h => Int.ofNat_lt.mp h) fun h => absurd h.2 (List.lt_irrefl []), fun h => .inl (Int.ofNat_lt.mpr h)⟩
  rw [PySem.W.dataLt_pair (by simp [alike]) (by simp [alike, alikeAll]), PySem.W.dataLt_int, one]
  unfold leP
  have e1 : PyData.eqv (dN q.1) (dN p.1) = decide (q.1 = p.1) := Datum.eqv q.1 p.1
  have e2 : PyData.eqv (.tuple [dN q.2]) (.tuple [dN p.2]) = decide (q.2 = p.2) := by
    have z : PyData.eqv (.tuple [dN q.2]) (.tuple [dN p.2]) = decide (Tup.mk [q.2] = Tup.mk [p.2]) := Datum.eqv (Tup.mk [q.2]) (Tup.mk [p.2])
    rw [z, decide_eq_decide]
    exact ⟨fun e => by have := Tup.mk.inj e; simpa using this, fun e => by rw [e]⟩
  rw [e1, e2]
  by_cases h1 : q.1 = p.1
  · rw [decide_eq_true h1, if_pos rfl]
    by_cases h2 : q.2 = p.2
    · rw [decide_eq_true h2, if_pos rfl]
      exact (decide_eq_true (by omega)).symm
    · rw [decide_eq_false h2, if_neg Bool.false_ne_true, ← decide_not, decide_eq_decide]
      omega
  · rw [decide_eq_false h1, if_neg Bool.false_ne_true, ← decide_not, decide_eq_decide]
    omega
theorem sortD_rows (l : List (Nat × Nat)) : sortD ((l.map lotR).map rowD) = ((isortP l).map lotR).map rowD := by
  rw [List.map_map, List.map_map, show l.map (rowD ∘ lotR) = l.map (fun p => rowD (lotR p)) from rfl, sortD_map]
  refine congrArg (List.map fun p => rowD (lotR p)) ?_
  have sub : ∀ a b c : Nat × Nat, leP a b = true → leP b c = true → leP a c = true := fun a b c h1 h2 => by
    unfold leP at *
    rw [decide_eq_true_eq] at *
    omega
  refine List.Perm.eq_of_pairwise (le := fun p q => leP p q = true) (fun a b _ _ h1 h2 => ?_) ?_ (isortP_sorted l) ((List.mergeSort_perm _ _).trans (isortP_perm l).symm)
  · unfold leP at h1 h2
    rw [decide_eq_true_eq] at h1 h2
    exact Prod.ext (by omega) (by omega)
  · have p1 := List.pairwise_mergeSort (le := dataLe false fun p => rowD (lotR p)) (fun a b c h1 h2 => by
      rw [dle_row] at *
      exact sub a b c h1 h2) (fun a b => by
      rw [dle_row, dle_row, Bool.or_eq_true]
      unfold leP
      rw [decide_eq_true_eq, decide_eq_true_eq]
      omega) l
    exact p1.imp fun {a b} z => by rw [← dle_row]; exact z
theorem e_sortRow {l : List (Nat × Nat)} (a : EvP te σ H (vL ((l.map lotR).map rowD))) (hl : l.length ≤ 1000) : EvP (tCB rSortD (tCons te tNil)) σ H (vL (((isortP l).map lotR).map rowD)) := by
  refine EvP.isL (e_sorted (vSL a) ?_ ?_ (by rw [List.length_map, List.length_map]; exact hl) ?_) (sortD_rows l)
  · rw [List.map_map]
    exact AllAlike.of fun a b => by simp [alike, alikeAll, rowD, lotR, tupN]
  · rw [List.map_map]
    exact Sortable.tuples fun a => ⟨_, _, rfl⟩
  · intro d hd
    rw [List.map_map] at hd
    obtain ⟨a, _, rfl⟩ := List.mem_map.mp hd
    simp [rowD, lotR, tupN, PyData.depth, PyData.depthAll]
end
end Lk
end

section
set_option Elab.async false
set_option linter.all false
set_option maxRecDepth 100000
set_option maxHeartbeats 4000000
namespace Lk
open PySem PySem.Spec PyProof.Rows L2 Evl PySem.W C8
local macro_rules | `(tactic| walk_at "ex") => `(tactic| first | exact Ex.refl _ | assumption | (refine Ex.trans (H1 := ?g) ?a ?b; (case a => assumption); (case b => walk_at "ex")))
local macro_rules | `(tactic| walk_at "im") => `(tactic| first | assumption | exact Im.int _ | exact Im.bl _ | (refine Im.up (H := ?g) ?a ?b; (case a => assumption); (case b => walk_at "ex")))
local macro_rules | `(tactic| walk_at "ev") => `(tactic| first
  | exact ec_i | exact ec_b | exact ec_s | exact ec_n
  | (refine ei_var rfl ?_; walk_at "im")
  | (refine eo ?_ ?_ <;> walk_at "ev")
  | (refine eoB ?_ ?_ <;> walk_at "ev")
  | (refine e_eqI ?_ ?_ <;> walk_at "ev")
  | (refine e_neI ?_ ?_ <;> walk_at "ev")
  | (refine eu ?_ <;> walk_at "ev")
  | (refine e_not ?_ <;> walk_at "ev"))
/-! What the counting gives of a net and its lots. -/
structure Good (x : NetD) (p : PapD) : Prop where
  ok : x.Ok
  gd : goodB x p = true
theorem b2 {a b : Bool} (h : (a && b) = true) : a = true ∧ b = true := Bool.and_eq_true_iff.mp h
theorem rowOk_of {n : Nat} {ts : List Nat} (h : rowOkB n ts = true) : RowOk n ts := by
  obtain ⟨h, h3⟩ := b2 h
  obtain ⟨h1, h2⟩ := b2 h
  exact ⟨of_decide_eq_true h1, fun t m => of_decide_eq_true (List.all_eq_true.mp h2 t m), of_decide_eq_true h3⟩
theorem papOk_of {x : NetD} {p : PapD} (h : papB x p = true) : PapOk x p := by
  obtain ⟨h, h6⟩ := b2 h
  obtain ⟨h, h5⟩ := b2 h
  obtain ⟨h, h4⟩ := b2 h
  obtain ⟨h, h3⟩ := b2 h
  obtain ⟨h1, h2⟩ := b2 h
  refine ⟨fun l m => ?_, of_decide_eq_true h2, of_decide_eq_true h3, of_decide_eq_true h4, fun r m => ?_, h6⟩
  · obtain ⟨a, b⟩ := b2 (List.all_eq_true.mp h1 l m)
    refine ⟨rowOk_of a, fun z => ?_⟩
    rw [z] at b
    cases b
  · obtain ⟨a, b⟩ := b2 (List.all_eq_true.mp h5 r m)
    exact ⟨of_decide_eq_true a, rowOk_of b⟩
section
variable {x : NetD} {p : PapD}
theorem Good.pap (g : Good x p) : PapOk x p := papOk_of (b2 (b2 g.gd).1).1
theorem Good.wo (g : Good x p) : wokB x p = true := (b2 (b2 g.gd).1).2
theorem Good.lots4 (g : Good x p) : p.lots.length ≤ 4 := by
  have e := congrArg List.length g.pap.lotk
  rw [List.length_map, (isort_perm _).length_eq] at e
  have := x.looked_len
  have := g.ok.n4
  omega
theorem Good.wok (g : Good x p) : WOk x p := by
  obtain ⟨h, _⟩ := b2 g.wo
  obtain ⟨h, _⟩ := b2 h
  obtain ⟨h, _⟩ := b2 h
  obtain ⟨h1, h2⟩ := b2 h
  have l4 := g.lots4
  refine ⟨fun r m => of_decide_eq_true (List.all_eq_true.mp h1 r m), fun r m => ?_, by omega⟩
  obtain ⟨a, b⟩ := b2 (List.all_eq_true.mp h2 r m)
  obtain ⟨_, q⟩ := g.pap.lotl r m
  exact ⟨q.2.1, q.2.2, of_decide_eq_true a, fun o mo => of_decide_eq_true (List.all_eq_true.mp b o mo)⟩
theorem Good.rows (g : Good x p) : (waitN x p.lots).1.length = x.n ∧ (waitN x p.lots).2.length = x.n ∧ ∀ t, t < x.n → (waitN x p.lots).1.getD t [] = (if t ∈ x.kept then [] else exL p.lots t) ∧ (waitN x p.lots).2.getD t [] = sgL x.ss p.lots t := by
  obtain ⟨h, h5⟩ := b2 g.wo
  obtain ⟨h, h4⟩ := b2 h
  obtain ⟨_, h3⟩ := b2 h
  refine ⟨of_decide_eq_true h4, of_decide_eq_true h5, fun t ht => ?_⟩
  obtain ⟨a, b⟩ := b2 (List.all_eq_true.mp h3 t (List.mem_range.mpr ht))
  exact ⟨of_decide_eq_true a, of_decide_eq_true b⟩
theorem row_at {rows : List (List Nat)} {r : List Nat} (m : r ∈ rows) : ∃ t, t < rows.length ∧ rows.getD t [] = r := by
  obtain ⟨t, ht, e⟩ := List.mem_iff_getElem.mp m
  exact ⟨t, ht, by rw [List.getD_eq_getElem?_getD, List.getElem?_eq_getElem ht, e]; rfl⟩
theorem Good.lk (g : Good x p) : ∀ r ∈ p.lots, r.1 < x.n := fun r m => (g.pap.lotl r m).1
theorem Good.ex_at (g : Good x p) {t : Nat} (ht : t < x.n) : ((waitN x p.lots).1.getD t []).length ≤ 50000 ∧ ∀ o ∈ (waitN x p.lots).1.getD t [], o < x.n := by
  have l4 := g.lots4
  rw [(g.rows.2.2 t ht).1]
  by_cases z : t ∈ x.kept
  · rw [if_pos z]
    exact ⟨Nat.zero_le _, fun o m => nomatch m⟩
  · rw [if_neg z]
    refine ⟨by have := exL_len p.lots t; omega, fun o m => ?_⟩
    obtain ⟨r, hr, rfl⟩ := exL_mem m
    exact g.lk r hr
theorem Good.sg_at (g : Good x p) {t : Nat} (ht : t < x.n) : ((waitN x p.lots).2.getD t []).length ≤ 50000 ∧ ∀ o ∈ (waitN x p.lots).2.getD t [], o < x.n := by
  have l4 := g.lots4
  rw [(g.rows.2.2 t ht).2]
  refine ⟨by have := sgL_len x.ss p.lots t; omega, fun o m => ?_⟩
  obtain ⟨r, hr, rfl⟩ := sgL_mem m
  exact g.lk r hr
end
/-! Own turns. -/
theorem mergeA_app {α : Type} : ∀ (qs acc : List (Nat × α)), ((acc ++ qs).map (·.1)).Nodup → mergeA acc qs = acc ++ qs
  | [], acc, _ => (List.append_nil acc).symm
  | q :: r, acc, nd => by
    have e : putA acc q.1 q.2 = acc ++ [q] := by
      unfold putA
      have : hasA acc q.1 = false := by
        rw [Bool.eq_false_iff]
        intro z
        obtain ⟨d, hd⟩ := hasA_getA z
        rw [List.map_append, List.nodup_append] at nd
        exact nd.2.2 q.1 (List.mem_map.mpr ⟨_, getA_mem hd, rfl⟩) q.1 (List.mem_map.mpr ⟨q, List.mem_cons_self, rfl⟩) rfl
      rw [this, if_neg Bool.false_ne_true]
    have ih := mergeA_app r (acc ++ [q]) (by rw [List.append_assoc]; exact nd)
    show mergeA (putA acc q.1 q.2) r = acc ++ q :: r
    rw [e, ih, List.append_assoc]
    rfl
section
variable {x : NetD}
theorem NetD.Ok.tn (o : x.Ok) : (x.ts.map (·.1)).Nodup := by
  rw [o.tl]
  exact x.looked_asc.imp fun h => Nat.ne_of_lt h
theorem NetD.Ok.own (o : x.Ok) : ownN x = x.ts ++ x.kept.map fun t => (t, 0) := by
  have kn : ((x.kept.map fun t => (t, 0)).map (·.1)) = x.kept := by rw [List.map_map]; exact List.map_id _
  unfold ownN
  rw [mergeA_app x.ts [] o.tn, List.nil_append, mergeA_app x.ts [] o.tn, List.nil_append, mergeA_app (x.kept.map fun t => (t, 0)) [] (by rw [List.nil_append, kn]; exact o.kn), List.nil_append]
  refine mergeA_app _ _ ?_
  rw [List.map_append, kn, List.nodup_append]
  refine ⟨o.tn, o.kn, fun a ha b hb e => ?_⟩
  rw [o.tl] at ha
  have := (List.mem_filter.mp ha).2
  rw [e] at this
  simp [hb] at this
theorem getA_apd {α : Type} {n : Nat} : ∀ (ps qs : List (Nat × α)), getA (ps ++ qs) n = (getA ps n).or (getA qs n)
  | [], qs => rfl
  | p :: r, qs => by
    show (if p.1 = n then some p.2 else getA (r ++ qs) n) = (if p.1 = n then some p.2 else getA r n).or (getA qs n)
    by_cases e : p.1 = n
    · rw [if_pos e, if_pos e]; rfl
    · rw [if_neg e, if_neg e, getA_apd r qs]
theorem getA_no {α : Type} {n : Nat} {ps : List (Nat × α)} (h : n ∉ ps.map (·.1)) : getA ps n = none := by
  cases e : getA ps n with
  | none => rfl
  | some d => exact absurd (List.mem_map.mpr ⟨_, getA_mem e, rfl⟩) h
theorem NetD.Ok.own_at (o : x.Ok) {t : Nat} (ht : t < x.n) : (getA (ownN x) t).isSome = true ∧ (getA (ownN x) t).getD 0 = turnL x t ∧ (t ∉ x.kept → (getA (mergeA [] x.ts) t).isSome = true) := by
  rw [o.own, getA_apd]
  unfold turnL
  rw [mergeA_app x.ts [] o.tn, List.nil_append]
  by_cases z : t ∈ x.kept
  · have n1 : getA x.ts t = none := getA_no (by
      rw [o.tl]
      intro m
      have := (List.mem_filter.mp m).2
      simp [z] at this)
    obtain ⟨d, hd⟩ := getA_key (ps := x.kept.map fun t => (t, 0)) (n := t) (by rw [List.map_map]; simpa using z)
    have d0 : d = 0 := by
      obtain ⟨u, _, e⟩ := List.mem_map.mp (getA_mem hd)
      cases e
      rfl
    rw [n1, hd, if_pos z, d0]
    exact ⟨rfl, rfl, fun q => absurd z q⟩
  · have m : t ∈ x.ts.map (·.1) := by
      rw [o.tl]
      exact List.mem_filter.mpr ⟨List.mem_range.mpr ht, by simp [z]⟩
    obtain ⟨d, hd⟩ := getA_key m
    rw [hd, if_neg z]
    exact ⟨rfl, rfl, fun _ => rfl⟩
variable {p : PapD} {told falls : List Nat}
theorem Good.wt (g : Good x p) : WtOk (wtN x p) x.n := by
  obtain ⟨r1, r2, r3⟩ := g.rows
  refine ⟨fun t ht => (g.ok.own_at ht).1, r1, r2, fun r m => ?_, fun r m => ?_⟩
  · obtain ⟨t, ht, rfl⟩ := row_at m
    exact g.ex_at (by rw [← r1]; exact ht)
  · obtain ⟨t, ht, rfl⟩ := row_at m
    exact g.sg_at (by rw [← r2]; exact ht)
theorem Good.ways (g : Good x p) (l1 : told.length = x.n) (l2 : falls.length = x.n) (t8 : ∀ t ∈ told, t < 8) (f2 : ∀ t ∈ falls, t < 2) : WaysOk x p told falls := ⟨g.ok, g.pap, g.wok, g.wt, l1, l2, t8, f2⟩
theorem Good.waysL (g : Good x p) (l1 : told.length = x.n) (l2 : falls.length = x.n) (f2 : ∀ t ∈ falls, t < 2) : WaysLOk x p.lots told falls := ⟨g.ok.n1, g.ok.n4, by have := g.ok.sz; omega, by have := g.lots4; omega, g.lk, l1, l2, f2, fun t ht => (g.ok.own_at ht).2.2⟩
/-- the law's own turn now is the package's -/
theorem Good.now (g : Good x p) {t : Nat} (ht : t < x.n) (f : List Nat) : nowN (wtN x p) t f = nowL x p.lots t f := by
  obtain ⟨e1, e2⟩ := g.rows.2.2 t ht
  have e3 := (g.ok.own_at ht).2.1
  unfold nowN nowL
  show ((if sumF f ((waitN x p.lots).1.getD t []) % 2 = 1 then -(((getA (ownN x) t).getD 0 : Nat) : Int) else (((getA (ownN x) t).getD 0 : Nat) : Int)) + 4 * sumF f ((waitN x p.lots).2.getD t [])) % 8 = _
  rw [e1, e2, e3]
  by_cases z : t ∈ x.kept
  · rw [if_pos z]
    have e0 : sumF f [] = 0 := rfl
    rw [e0, if_neg (by decide)]
    simp [z]
  · rw [if_neg z]
    by_cases q : sumF f (exL p.lots t) % 2 = 1
    · rw [if_pos q, if_pos (by simp [z, q])]
    · rw [if_neg q, if_neg (by simp [z, q])]
theorem Good.same (g : Good x p) : waysU x p told falls = Lk.waysL x p.lots told falls := by
  unfold waysU Lk.waysL
  refine List.map_congr_left fun k _ => ?_
  unfold secN secL
  rw [bitsOf_len]
  refine List.map_congr_left fun t m => ?_
  rw [g.now (List.mem_range.mp m)]
theorem Good.like (g : Good x p) {ws : List (List (Nat × Nat))} {ka : Nat} (pm : ws.Perm (waysU x p told falls)) : prodsA ws x.n ka ka = (((2 ^ x.n : Nat) : Int), 0, 0, 0) := prods_like pm
theorem bit_at {t m : Nat} : bitAt t m = decide (m / 2 ^ t % 2 = 1) := by
  unfold bitAt
  rw [Nat.and_one_is_mod]
theorem Good.unlike (g : Good x p) {ws : List (List (Nat × Nat))} {ka kb : Nat} (pm : ws.Perm (waysU x p told falls)) (lf : falls.length = x.n) (ha : ka < 2 ^ x.n) (hb : kb < 2 ^ x.n) (ne : ka ≠ kb) : prodsA ws x.n ka kb = zeroA := by
  have last := (b2 g.gd).2
  unfold lastB at last
  have dx : ka ^^^ kb < 2 ^ x.n := Nat.xor_lt_two_pow ha hb
  have d0 : ka ^^^ kb ≠ 0 := fun z => ne (by
    have : (ka ^^^ kb) ^^^ kb = 0 ^^^ kb := by rw [z]
    rw [Nat.xor_assoc, Nat.xor_self, Nat.xor_zero, Nat.zero_xor] at this
    exact this)
  have l1 := List.all_eq_true.mp last (ka ^^^ kb) (List.mem_range.mpr dx)
  rw [Bool.or_eq_true] at l1
  have l2 := l1.resolve_left fun z => d0 (by simpa using z)
  obtain ⟨s, hs, l3⟩ := List.any_eq_true.mp l2
  obtain ⟨l4, l5⟩ := b2 l3
  have diff : ∀ t, bitAt t (ka ^^^ kb) = true ↔ ka / 2 ^ t % 2 ≠ kb / 2 ^ t % 2 := fun t => by
    have e : ∀ k : Nat, k / 2 ^ t % 2 = (k.testBit t).toNat := fun k => by rw [← bit_test, Nat.and_one_is_mod]
    rw [bit_at, e, e, e, Nat.testBit_xor, decide_eq_true_eq]
    cases ka.testBit t <;> cases kb.testBit t <;> decide
  have sn := List.mem_range.mp hs
  refine prods_zero pm lf sn ((diff s).mp l4) (fun t ht hd => ?_) fun t ht => ⟨(g.ex_at ht).2, (g.sg_at ht).2⟩
  have l6 := List.all_eq_true.mp l5 t (List.mem_range.mpr ht)
  rw [Bool.or_eq_true] at l6
  have l7 := l6.resolve_left fun z => by
    rw [(diff t).mpr hd] at z
    cases z
  obtain ⟨l8, l9⟩ := b2 l7
  rw [Bool.not_eq_true'] at l8 l9
  exact ⟨of_decide_eq_false l8, of_decide_eq_false l9⟩
end
end Lk
end

section
set_option Elab.async false
set_option linter.all false
set_option maxRecDepth 100000
set_option maxHeartbeats 4000000
namespace Lk
open PySem PySem.Spec PyProof.Rows L2 Evl PySem.W C8
local macro_rules | `(tactic| walk_at "ex") => `(tactic| first | exact Ex.refl _ | assumption | (refine Ex.trans (H1 := ?g) ?a ?b; (case a => assumption); (case b => walk_at "ex")))
local macro_rules | `(tactic| walk_at "im") => `(tactic| first | assumption | exact Im.int _ | exact Im.bl _ | (refine Im.up (H := ?g) ?a ?b; (case a => assumption); (case b => walk_at "ex")))
local macro_rules | `(tactic| walk_at "ev") => `(tactic| first
  | exact ec_i | exact ec_b | exact ec_s | exact ec_n
  | (refine ei_var rfl ?_; walk_at "im")
  | (refine eo ?_ ?_ <;> walk_at "ev")
  | (refine eoB ?_ ?_ <;> walk_at "ev")
  | (refine e_eqI ?_ ?_ <;> walk_at "ev")
  | (refine e_neI ?_ ?_ <;> walk_at "ev")
  | (refine eu ?_ <;> walk_at "ev")
  | (refine e_not ?_ <;> walk_at "ev"))
/-! Every net that is drawn, or asked, is good. -/
theorem subs_mem {α : Type} {m l : List α} (h : m.Sublist l) : m ∈ subs l := by
  induction h with
  | slnil => exact List.mem_singleton.mpr rfl
  | cons a _ ih => exact List.mem_flatMap.mpr ⟨_, ih, List.mem_cons_self⟩
  | cons_cons a _ ih => exact List.mem_flatMap.mpr ⟨_, ih, List.mem_cons_of_mem _ List.mem_cons_self⟩
theorem picks_mem : ∀ (k : Nat) {l ts : List Nat}, ts.Nodup → (∀ t ∈ ts, t ∈ l) → ts.length ≤ k → ts ∈ picks k l
  | 0, _, [], _, _, _ => List.mem_singleton.mpr rfl
  | 0, _, _ :: _, _, _, h => absurd h (Nat.not_succ_le_zero _)
  | _ + 1, _, [], _, _, _ => List.mem_cons_self
  | k + 1, l, a :: r, nd, hl, h => by
    obtain ⟨n1, n2⟩ := List.nodup_cons.mp nd
    refine List.mem_cons_of_mem _ (List.mem_flatMap.mpr ⟨a, hl a List.mem_cons_self, List.mem_map.mpr ⟨r, picks_mem k n2 (fun t m => List.mem_filter.mpr ⟨hl t (List.mem_cons_of_mem _ m), ?_⟩) (Nat.le_of_succ_le_succ h), rfl⟩⟩)
    have : t ≠ a := fun z => n1 (z ▸ m)
    simp [this]
theorem lokB_ts (n : Nat) (ss : List (Nat × Nat)) (kept : List Nat) (ts : List (Nat × Nat)) : lokB ⟨n, ss, kept, ts⟩ = lokB ⟨n, ss, kept, []⟩ := rfl
theorem goodB_ts (n : Nat) (ss : List (Nat × Nat)) (kept : List Nat) (ts : List (Nat × Nat)) (p : PapD) : goodB ⟨n, ss, kept, ts⟩ p = goodB ⟨n, ss, kept, []⟩ p := rfl
theorem left_ts (n : Nat) (ss : List (Nat × Nat)) (kept : List Nat) (ts : List (Nat × Nat)) : leftL ⟨n, ss, kept, ts⟩ = leftL ⟨n, ss, kept, []⟩ := rfl
theorem papL_ts (n : Nat) (ss : List (Nat × Nat)) (kept : List Nat) (ts : List (Nat × Nat)) : papL ⟨n, ss, kept, ts⟩ = papL ⟨n, ss, kept, []⟩ := rfl
theorem net_all {n : Nat} {ss : List (Nat × Nat)} {kept : List Nat} (n2 : 2 ≤ n) (n4 : n ≤ 4) (sub : ss.Sublist (pairsN n)) (ne : kept ≠ []) (nd : kept.Nodup) (kl : ∀ t ∈ kept, t < n) (kz : kept.length ≤ n) : netB ⟨n, ss, kept, []⟩ = true := by
  have ms := subs_mem sub
  have mk : kept ∈ picks n (List.range n) := picks_mem n nd (fun t m => List.mem_range.mpr (kl t m)) kz
  have pick : ∀ {b : Bool}, (kept.isEmpty || b) = true → b = true := fun {b} h => by
    rw [Bool.or_eq_true] at h
    exact h.resolve_left fun z => ne (List.isEmpty_iff.mp z)
  have c : n = 2 ∨ n = 3 ∨ n = 4 := by omega
  rcases c with rfl | rfl | rfl
  · exact pick (List.all_eq_true.mp (List.all_eq_true.mp all2 ss ms) kept mk)
  · exact pick (List.all_eq_true.mp (List.all_eq_true.mp all3 ss ms) kept mk)
  · obtain ⟨i, hi, e⟩ := List.mem_iff_getElem.mp ms
    have l64 : (subs (pairsN 4)).length = 64 := by decide +kernel
    have h := all4 i (by omega)
    unfold chunk at h
    rw [List.getElem?_eq_getElem hi, e] at h
    exact pick (List.all_eq_true.mp h kept mk)
theorem lok_of {x : NetD} (h : lokB x = true) : LOk x := by
  obtain ⟨h, h9⟩ := b2 h
  obtain ⟨h, h8⟩ := b2 h
  obtain ⟨h, h7⟩ := b2 h
  obtain ⟨h, h6⟩ := b2 h
  obtain ⟨h, h5⟩ := b2 h
  obtain ⟨h, h4⟩ := b2 h
  obtain ⟨h, h3⟩ := b2 h
  obtain ⟨h1, h2⟩ := b2 h
  refine ⟨⟨of_decide_eq_true h1, fun l m => of_decide_eq_true (List.all_eq_true.mp h2 l m)⟩, of_decide_eq_true h3, fun q m => of_decide_eq_true (List.all_eq_true.mp h4 q m), fun r m => of_decide_eq_true (List.all_eq_true.mp h5 r m), fun t m => of_decide_eq_true (List.all_eq_true.mp h6 t m), of_decide_eq_true h7, fun ne => ?_, fun r m => of_decide_eq_true (List.all_eq_true.mp h9 r m)⟩
  rw [Bool.or_eq_true] at h8
  obtain ⟨a, b⟩ := b2 (h8.resolve_left fun z => ne (List.isEmpty_iff.mp z))
  refine ⟨fun t m z => ?_, fun q m => of_decide_eq_true (List.all_eq_true.mp b q m)⟩
  have := List.all_eq_true.mp a t m
  rw [z] at this
  cases this
def ltP (p q : Nat × Nat) : Prop := p.1 < q.1 ∨ (p.1 = q.1 ∧ p.2 < q.2)
theorem pairs_fit : ∀ n : Fin 5, (pairsN n.val).Pairwise (fun p q => p.1 < q.1 ∨ (p.1 = q.1 ∧ p.2 < q.2)) ∧ (∀ p ∈ pairsN n.val, p.1 < p.2 ∧ p.2 < n.val) ∧ (pairsN n.val).length < 64 := by decide +kernel
theorem drawn_ok {n : Nat} {ss : List (Nat × Nat)} {kept : List Nat} {ts : List (Nat × Nat)} (n2 : 2 ≤ n) (n4 : n ≤ 4) (sub : ss.Sublist (pairsN n)) (ne : kept ≠ []) (nd : kept.Nodup) (kl : ∀ t ∈ kept, t < n) (kz : kept.length ≤ n) (tl : ts.map (·.1) = (List.range n).filter fun t => !decide (t ∈ kept)) (t8 : ∀ p ∈ ts, p.2 < 8) :
    NetD.Ok ⟨n, ss, kept, ts⟩ ∧ LOk ⟨n, ss, kept, ts⟩ ∧ (leftL ⟨n, ss, kept, ts⟩ = [] → Good ⟨n, ss, kept, ts⟩ (papL ⟨n, ss, kept, ts⟩)) := by
  obtain ⟨f1, f2, f3⟩ := pairs_fit ⟨n, by omega⟩
  dsimp only at f1 f2 f3
  have ok : NetD.Ok ⟨n, ss, kept, ts⟩ := ⟨by show 1 ≤ n; omega, n4, f1.sublist sub, fun p m => f2 p (sub.subset m), by have := sub.length_le; show ss.length < 64; omega, nd, kl, by show kept.length < 64; omega, tl, t8⟩
  obtain ⟨h1, h2⟩ := b2 (net_all n2 n4 sub ne nd kl kz)
  refine ⟨ok, lok_of (by rw [lokB_ts]; exact h1), fun z => ⟨ok, ?_⟩⟩
  rw [left_ts] at z
  rw [papL_ts, goodB_ts]
  rw [z] at h2
  exact h2
/-! asked nets -/
theorem isortP_fst (l : List (Nat × Nat)) : (isortP l).map (·.1) = isort (l.map (·.1)) := by
  refine isort_uniq ((isortP_perm l).map _) ?_
  rw [List.pairwise_map]
  refine (isortP_sorted l).imp fun {a b} h => ?_
  unfold leP at h
  rw [decide_eq_true_eq] at h
  omega
def noTurn : Deed → Bool
  | .turn _ _ => false
  | _ => true
structure Sim (s z : AskS) : Prop where
  now : s.now = z.now
  things : s.things = z.things
  strings : s.strings = z.strings
  lots : s.lots = z.lots
  turns : s.turns.map (·.1) = z.turns.map (·.1)
theorem sim_step {s z : AskS} (h : Sim s z) : ∀ d : Deed, Sim (askStep s d) (if noTurn d then askStep z d else z)
  | .turn _ _ => ⟨h.now, h.things, h.strings, h.lots, h.turns⟩
  | .sign w o => by
    refine ⟨h.now, h.things, ?_, h.lots, h.turns⟩
    show (s.strings.filter fun q => !decide (q = ordP (s.now.getD w 0) (s.now.getD o 0))) ++ (if ordP (s.now.getD w 0) (s.now.getD o 0) ∈ s.strings then [] else [ordP (s.now.getD w 0) (s.now.getD o 0)]) = _
    rw [h.now, h.strings]
    rfl
  | .mix w => by
    refine ⟨?_, ?_, ?_, ?_, ?_⟩
    · show s.now.set w s.things = z.now.set w z.things
      rw [h.now, h.things]
    · show s.things + 1 = z.things + 1
      rw [h.things]
    · show s.strings ++ [(s.now.getD w 0, s.things)] = z.strings ++ [(z.now.getD w 0, z.things)]
      rw [h.now, h.things, h.strings]
    · show s.lots ++ [(s.now.getD w 0, s.things)] = z.lots ++ [(z.now.getD w 0, z.things)]
      rw [h.now, h.things, h.lots]
    · show (s.turns ++ [(s.now.getD w 0, s.gath.getD w 0)]).map (·.1) = (z.turns ++ [(z.now.getD w 0, z.gath.getD w 0)]).map (·.1)
      rw [List.map_append, List.map_append, h.turns, h.now]
      rfl
theorem sim_fold : ∀ (l : List Deed) {s z : AskS}, Sim s z → Sim (l.foldl askStep s) ((l.filter noTurn).foldl askStep z)
  | [], _, _, h => h
  | d :: l, s, z, h => by
    have := sim_fold l (sim_step h d)
    rw [List.foldl_cons, List.filter_cons]
    by_cases q : noTurn d = true
    · rw [if_pos q] at this ⊢
      exact this
    · rw [if_neg q] at this ⊢
      exact this
def Turns8 (s : AskS) : Prop := (∀ g ∈ s.gath, g < 8) ∧ ∀ p ∈ s.turns, p.2 < 8
theorem turns8_step {s : AskS} (h : Turns8 s) : ∀ d : Deed, Turns8 (askStep s d)
  | .turn w t => ⟨fun g m => by
      rcases List.mem_or_eq_of_mem_set m with z | z
      · exact h.1 g z
      · rw [z]; exact Nat.mod_lt _ (by omega), h.2⟩
  | .sign w o => h
  | .mix w => ⟨fun g m => by
      rcases List.mem_or_eq_of_mem_set m with z | z
      · exact h.1 g z
      · rw [z]; omega, fun q m => by
      rcases List.mem_append.mp m with z | z
      · exact h.2 q z
      · rw [List.mem_singleton] at z
        rw [z]
        show s.gath.getD w 0 < 8
        rw [List.getD_eq_getElem?_getD]
        cases e : s.gath[w]? with
        | none => show 0 < 8; omega
        | some g => exact h.1 g (List.mem_of_getElem? e)⟩
theorem turns8_fold : ∀ (l : List Deed) {s : AskS}, Turns8 s → Turns8 (l.foldl askStep s)
  | [], _, h => h
  | d :: l, _, h => turns8_fold l (turns8_step h d)
theorem deeds_mem {w : Nat} : ∀ (k : Nat) {l : List Deed}, l.length ≤ k → (∀ d ∈ l, d ∈ kinds w) → l ∈ deedsUpTo w k
  | 0, [], _, _ => List.mem_singleton.mpr rfl
  | 0, _ :: _, h, _ => absurd h (Nat.not_succ_le_zero _)
  | _ + 1, [], _, _ => List.mem_cons_self
  | k + 1, d :: l, h, hd => List.mem_cons_of_mem _ (List.mem_flatMap.mpr ⟨d, hd d List.mem_cons_self, List.mem_map.mpr ⟨l, deeds_mem k (Nat.le_of_succ_le_succ h) fun e m => hd e (List.mem_cons_of_mem _ m), rfl⟩⟩)
theorem kind_of {w : Nat} (w1 : 1 ≤ w) (w2 : w ≤ 2) {d : Deed} (ok : DeedOk w d) (nt : noTurn d = true) : d ∈ kinds w := by
  have c : w = 1 ∨ w = 2 := by omega
  cases d with
  | turn _ _ => cases nt
  | mix u =>
    have ok : u < w := ok
    rcases c with rfl | rfl
    · obtain rfl : u = 0 := by omega
      exact List.mem_cons_self
    · have : u = 0 ∨ u = 1 := by omega
      rcases this with rfl | rfl <;> simp [kinds]
  | sign u o =>
    obtain ⟨h1, h2, h3⟩ := ok
    rcases c with rfl | rfl
    · omega
    · have : (u = 0 ∧ o = 1) ∨ (u = 1 ∧ o = 0) := by omega
      rcases this with ⟨rfl, rfl⟩ | ⟨rfl, rfl⟩ <;> simp [kinds]
theorem asked_fits {w : Nat} {dd : List Deed} (dl : dd.length ≤ 4) (w2 : w ≤ 2) : AskOk w 6 (askN w dd) := by
  have z : AskOk w 0 (ask0 w) := ⟨List.length_range, List.length_replicate, Nat.le_refl _, Nat.le_refl _, Nat.le_refl _⟩
  obtain ⟨a, b, c, d, e⟩ := askOk_fold (dd ++ (List.range w).map Deed.mix) z
  rw [List.length_append, List.length_map, List.length_range] at c d e
  exact ⟨a, b, Nat.le_trans c (by omega), Nat.le_trans d (by omega), Nat.le_trans e (by omega)⟩
theorem asked_ok {w : Nat} {dd : List Deed} (w1 : 1 ≤ w) (w2 : w ≤ 2) (dl : dd.length ≤ 4) (dok : ∀ d ∈ dd, DeedOk w d) (t4 : (askN w dd).things ≤ 4) : Good (netA (askN w dd)) (papA (askN w dd)) := by
  have ao := asked_fits dl w2
  have t8 : Turns8 (askN w dd) := turns8_fold _ ⟨fun g m => by
    have : g = 0 := (List.mem_replicate.mp m).2
    omega, fun q m => nomatch m⟩
  have sim : Sim (askN w dd) (askN w (dd.filter noTurn)) := by
    have := sim_fold (dd ++ (List.range w).map Deed.mix) (s := ask0 w) (z := ask0 w) ⟨rfl, rfl, rfl, rfl, rfl⟩
    rw [List.filter_append, (List.filter_eq_self (p := noTurn) (l := (List.range w).map Deed.mix)).mpr fun d m => by
      obtain ⟨u, _, rfl⟩ := List.mem_map.mp m
      rfl] at this
    exact this
  have mem : dd.filter noTurn ∈ deedsUpTo w 4 := deeds_mem 4 (Nat.le_trans (List.length_filter_le _ _) dl) fun d m => kind_of w1 w2 (dok d (List.mem_filter.mp m).1) (List.mem_filter.mp m).2
  have ab : askB (askN w (dd.filter noTurn)) = true := by
    have c : w = 1 ∨ w = 2 := by omega
    rcases c with rfl | rfl
    · exact List.all_eq_true.mp ask1 _ mem
    · exact List.all_eq_true.mp ask2 _ mem
  generalize askN w dd = s at *
  generalize askN w (dd.filter noTurn) = z at *
  obtain ⟨e1, e2, e3, e4, e5⟩ := sim
  unfold askB at ab
  rw [Bool.or_eq_true] at ab
  have ab := ab.resolve_left fun q => by
    have := of_decide_eq_true q
    omega
  obtain ⟨h, h7⟩ := b2 ab
  obtain ⟨h, h6⟩ := b2 h
  obtain ⟨h, h5⟩ := b2 h
  obtain ⟨h, h4⟩ := b2 h
  obtain ⟨h, h3⟩ := b2 h
  obtain ⟨h1, h2⟩ := b2 h
  have n1 : 1 ≤ s.things := by
    have l := ao.ln
    cases hn : s.now with
    | nil => rw [hn] at l; rw [List.length_nil] at l; omega
    | cons a r =>
      have := of_decide_eq_true h4 a (by rw [← e1, hn]; exact List.mem_cons_self)
      omega
  have pz : papA s = papA z := by
    unfold papA
    rw [e4]
  have lk : (netA s).looked = (netA z).looked := by
    unfold NetD.looked netA
    dsimp only
    rw [e1, e2]
  refine ⟨⟨n1, t4, ?_, ?_, ?_, ?_, ?_, ?_, ?_, ?_⟩, ?_⟩
  · show (isortP s.strings).Pairwise _
    rw [e3]
    exact of_decide_eq_true h5
  · show ∀ q ∈ isortP s.strings, q.1 < q.2 ∧ q.2 < s.things
    rw [e3, e2]
    exact of_decide_eq_true h6
  · show (isortP s.strings).length < 64
    rw [(isortP_perm _).length_eq]
    have := ao.ls
    omega
  · show s.now.Nodup
    rw [e1]
    exact of_decide_eq_true h3
  · show ∀ t ∈ s.now, t < s.things
    rw [e1, e2]
    exact of_decide_eq_true h4
  · show s.now.length < 64
    rw [ao.ln]
    omega
  · show (isortP s.turns).map (·.1) = (netA s).looked
    rw [lk, isortP_fst, e5, ← isortP_fst]
    exact of_decide_eq_true h2
  · intro q m
    exact t8.2 q ((isortP_perm _).mem_iff.mp m)
  · rw [pz]
    show goodB ⟨s.things, isortP s.strings, s.now, isortP s.turns⟩ (papA z) = true
    rw [goodB_ts, e1, e2, e3]
    have g : goodB ⟨z.things, isortP z.strings, z.now, isortP z.turns⟩ (papA z) = true := h1
    rw [goodB_ts] at g
    exact g
/-- the net that is at hand where none was drawn -/
def net0 : NetD := ⟨2, [(0, 1)], [1], [(0, 3)]⟩
def pap0 : PapD := ⟨[[0]], [(0, [1])]⟩
theorem good0 : Good net0 pap0 := by
  refine ⟨⟨by decide, by decide, by decide, by decide, by decide, by decide, by decide, by decide, by decide, by decide⟩, by decide +kernel⟩
/-- the net of one thing that is kept -/
def net1 : NetD := ⟨1, [], [0], []⟩
def pap1 : PapD := ⟨[], []⟩
theorem good1 : Good net1 pap1 := by
  refine ⟨⟨by decide, by decide, by decide, by decide, by decide, by decide, by decide, by decide, by decide, by decide⟩, by decide +kernel⟩
end Lk
end

section
set_option Elab.async false
set_option linter.all false
set_option maxRecDepth 100000
set_option maxHeartbeats 4000000
namespace Lk
open PySem PySem.Spec PyProof.Rows L2 Evl PySem.W C8
local macro_rules | `(tactic| walk_at "ex") => `(tactic| first | exact Ex.refl _ | assumption | (refine Ex.trans (H1 := ?g) ?a ?b; (case a => assumption); (case b => walk_at "ex")))
local macro_rules | `(tactic| walk_at "im") => `(tactic| first | assumption | exact Im.int _ | exact Im.bl _ | (refine Im.up (H := ?g) ?a ?b; (case a => assumption); (case b => walk_at "ex")))
local macro_rules | `(tactic| walk_at "ev") => `(tactic| first
  | exact ec_i | exact ec_b | exact ec_s | exact ec_n
  | (refine ei_var rfl ?_; walk_at "im")
  | (refine eo ?_ ?_ <;> walk_at "ev")
  | (refine eoB ?_ ?_ <;> walk_at "ev")
  | (refine e_eqI ?_ ?_ <;> walk_at "ev")
  | (refine e_neI ?_ ?_ <;> walk_at "ev")
  | (refine eu ?_ <;> walk_at "ev")
  | (refine e_not ?_ <;> walk_at "ev"))

section
variable {P : Program} {w : World} {K : PySem.W.Frag} {mg : Str → Option Value} {base : Heap} {c : Cs}
theorem q_ifHJ {h c : Addr} {ds : List Int} {m : Nat} {H : Hp} {σ : L2.St} {tt : TT} {tu tw tz : TS} {D : Ends} (J : L2.St → Hp → Prop) (e : EvTH h c ds m tt σ H) (h1 : ∀ H1, Kx h H H1 → LH h c ds m H1 → (∀ σ' H', J σ' H' → tz D σ' H') → tu { D with nx := tz D } σ H1) (h2 : ∀ H1, Kx h H H1 → LH h c ds m H1 → (∀ σ' H', J σ' H' → tz D σ' H') → tw { D with nx := tz D } σ H1) (k : ∀ σ' H', J σ' H' → tz D σ' H') : tSeq (tIfS tt tu tw) tz D σ H := q_ifH e (fun H1 a b => h1 H1 a b k) fun H1 a b => h2 H1 a b k
theorem cut_to (xs : List V) (k : Nat) : cutV xs none (some (k : Int)) = xs.take k := by
  have h1 : HT.sIx xs.length xs.length (some (k : Int)) = min k xs.length := by
    show (if (k : Int) < 0 then ((k : Int) + (xs.length : Int)).toNat else min (k : Int).toNat xs.length) = _
    rw [if_neg (by omega), Int.toNat_natCast]
  unfold cutV
  rw [h1, show HT.sIx xs.length 0 none = 0 from rfl, List.drop_zero, Nat.sub_zero]
  by_cases z : k ≤ xs.length
  · rw [Nat.min_eq_left z]
  · rw [Nat.min_eq_right (by omega), List.take_of_length_le (Nat.le_refl _), List.take_of_length_le (by omega)]
def rowP (t j : Nat) : List (Nat × Nat) := (List.range (t - (j + 1))).map fun u => (j, j + 1 + u)
theorem pairs_rows : ∀ t : Fin 5, pairsN t.val = (List.range t.val).flatMap (rowP t.val) := by decide +kernel
theorem fix_ones (l : List (Nat × Nat)) : fixD (.list (l.map fun p => .list [dN p.1])) = .tuple ((l.map fun p => [p.1]).map tupN) := by
  rw [fixD, fixDs_map, List.map_map, List.map_map]
  congr 1
theorem okD_ones {k : Nat} (l : List (Nat × Nat)) : ∀ d ∈ l.map (fun p => PyData.list [dN p.1]), OkD (k + 1) d := fun d m => by
  obtain ⟨p, _, rfl⟩ := List.mem_map.mp m
  exact okD_list (by show 1 ≤ 1000; omega) fun e me => by
    rw [List.mem_singleton] at me
    rw [me]
    exact okD_dN _ _
theorem a5mono {P R S T U : VP} (m1 : Mono P) (m2 : Mono R) (m3 : Mono S) (m4 : Mono T) (m5 : Mono U) : ∀ vs H H', Ex H H' → a5 P R S T U vs H → a5 P R S T U vs H' := fun vs H H' e a => by
  obtain ⟨v1, v2, v3, v4, v5, rfl, p1, p2, p3, p4, p5⟩ := a5o a
  exact ⟨v1, _, rfl, m1 _ _ _ e p1, v2, _, rfl, m2 _ _ _ e p2, v3, _, rfl, m3 _ _ _ e p3, v4, _, rfl, m4 _ _ _ e p4, v5, _, rfl, m5 _ _ _ e p5, rfl⟩
theorem a2mono {P R : VP} (m1 : Mono P) (m2 : Mono R) : ∀ vs H H', Ex H H' → a2 P R vs H → a2 P R vs H' := fun vs H H' e a => by
  obtain ⟨v1, v2, rfl, p1, p2⟩ := a2o a
  exact ⟨v1, _, rfl, m1 _ _ _ e p1, v2, _, rfl, m2 _ _ _ e p2, rfl⟩
theorem mResL (c : Cs) (x : NetD) : Mono (resL c x) := fun v H H' e p => by
  unfold resL at p ⊢
  by_cases z : leftL x = []
  · rw [if_pos z] at p ⊢
    exact mO _ _ _ _ _ e p
  · rw [if_neg z] at p ⊢
    exact mO _ _ _ _ _ e p
/-- Net(..) -/
theorem e_net {c : Cs} {σ : L2.St} {H : Hp} {t1 t2 t3 t4 t5 : TE} {x : NetD} (ok : x.Ok) (h1 : EvP t1 σ H (vI (dN x.n))) (h2 : EvP t2 σ H (vL (x.ss.map pD))) (h3 : EvP t3 σ H (vL (([] : List Nat).map dN))) (h4 : EvP t4 σ H (vL (x.kept.map dN))) (h5 : EvP t5 σ H (vL (x.ts.map pD))) :
    EvP (tMake c.net (sp_Net_init (c := c)) [] C8.E0 (tCons t1 (tCons t2 (tCons t3 (tCons t4 (tCons t5 tNil)))))) σ H (vNet c x) := ep_mk x ok (ea1 (mI _) h1 (ea1 (mL _) h2 (ea1 (mL _) h3 (ea1 (mL _) h4 (ea_1 (mL _) h5))))) (a5mono (mI _) (mL _) (mL _) (mL _) (mL _))
def sp_parts (c : Cs) : Sp := fun vs H Q _ => ∃ (h cc : Addr) (ds : List Int) (n most : Nat), vs = [.ref h, vN most] ∧ LH h cc ds n H ∧ 2 ≤ most ∧ most ≤ 4 ∧ n < 500000 ∧ ∀ (x : NetD) (p : PapD) v H', Good x p → Kx h H H' → LH h cc ds (n + 1000) H' → vT3 (vParts x) (vL (p.lots.map rowD)) (vPap c p) v H' → Q v H'
/-! ### _law_parts -/
abbrev sp_law_parts : Sp := sp_parts c
theorem c_law_parts (T : Txt K mg c) : Cal c.prog w K mg base 17 "_law_parts" (sp_law_parts (c := c)) [] := by
  have c_Lots := c_Lots (w := w) (base := base) T
  have c_Net := c_Net (P := c.prog) (w := w) (base := base) T
  have c_law_asked := c_law_asked (P := c.prog) (w := w) (base := base) T
  have c_law_deeds := c_law_deeds (P := c.prog) (w := w) (base := base) T
  have c_law_mixed := c_law_mixed (P := c.prog) (w := w) (base := base) T
  have c_law_sift := c_law_sift (P := c.prog) (w := w) (base := base) T
  have c_lots_of := c_lots_of (w := w) (base := base) T
  refine mkCal T.d_law_parts sc_law_parts (fun _ _ _ _ _ _ us hl => match us, hl with | [_, _], _ => rfl) (fun vs H Q E h => ?_) (fun f cdv A outer s H vs Q E hr h => ?_)
  · obtain ⟨h, cc, ds, n, most, rfl, _⟩ := h; rfl
  · have hu := hu_of hr
    obtain ⟨h, cc, ds, n, most, rfl, l, m2, m4, n5, k⟩ := h
    refine ⟨_, pss_cons (ps_if (pt_cmpR op_eq (pe_c c_law_sift hr (by decide) (by rfl) (pa_cons (pv 0) (pa_cons (pe_int) (pa_nil)))) (pe_int) (nomark _)) (pss_cons (ps_set (i := 2) sc_law_parts.nd rfl (Or.inl rfl) (pe_op op_add (pe_int) (pe_c c_law_sift hr (by decide) (by rfl) (pa_cons (pv 0) (pa_cons (pe_int) (pa_nil))))))
      (pss_cons (ps_asg (pe_c c_law_asked hr (by decide) (by rfl) (pa_cons (pv 2) (pa_cons (pe_c c_law_deeds hr (by decide) (by rfl) (pa_cons (pv 0) (pa_cons (pv 2) (pa_cons (pe_int) (pa_nil))))) (pa_nil)))) (pg_tupK K (n := 5) rfl (pgs_cons (pg_name (i := 3) sc_law_parts.nd rfl (Or.inl rfl)) (pgs_cons (pg_name (i := 4) sc_law_parts.nd rfl (Or.inl rfl)) (pgs_cons (pg_name (i := 5) sc_law_parts.nd rfl (Or.inr rfl)) (pgs_cons (pg_name (i := 6) sc_law_parts.nd rfl (Or.inl rfl)) (pgs_cons (pg_name (i := 7) sc_law_parts.nd rfl (Or.inl rfl)) (pgs_nil))))))))
      (pss_one (ps_if (pt_cmpR op_le (pv 3) (pv 1) (nomark _)) (pss_one (ps_ret (pe_tupZ (pa_cons (pe_tupZ (pa_cons (pv 3) (pa_cons (pv 4) (pa_cons (pv 5) (pa_cons (pv 6) (pa_nil)))))) (pa_cons (pe_callB (id := "sorted") (cr_sortD hr) (by rfl) T.b_sorted (by decide +kernel) (pa_cons (pv 7) (pa_nil))) (pa_cons (pe_mkR c_Lots hr (by decide) (by rfl) (pa_cons (pe_lc (own := [("_law_thing", 11), ("_law_lot", 13)]) rfl sc_law_parts.nd (pi_seqK K (pv 7)) (blkOk_by (N := N_law_parts) (sc := defScope s_law_parts) (own := [("_law_thing", 11), ("_law_lot", 13)]) (by decide +kernel)) (fun _ _ _ _ _ => pg_tupK K (n := 2) rfl (pgs_cons (pg_name (i := 11) sc_law_parts.nd rfl (Or.inl rfl)) (pgs_cons (pg_name (i := 13) sc_law_parts.nd rfl (Or.inl rfl)) (pgs_nil)))) (fun _ _ _ _ _ => pts_nil) (fun _ _ _ _ _ => pe_lst (pa_cons (pv 11) (pa_nil)))) (pa_cons (pe_callB (id := "sorted") (cr_sortD hr) (by rfl) T.b_sorted (by decide +kernel) (pa_cons (pv 7) (pa_nil))) (pa_nil)))) (pa_nil))))))) (pss_nil))))) (pss_nil))
      (pss_cons (ps_for PassesOwn.never rfl (pi_range1 (by rfl) T.b_range (pa_cons (pe_int) (pa_nil))) (pg_name (i := 8) sc_law_parts.nd rfl (Or.inl rfl))
      (pss_cons (ps_par (i := 3) (j := 4) rfl sc_law_parts.nd rfl rfl (by decide) rfl rfl (pa_cons (pe_op op_add (pe_int) (pe_c c_law_sift hr (by decide) (by rfl) (pa_cons (pv 0) (pa_cons (pe_op op_sub (pv 1) (pe_int)) (pa_nil))))) (pa_cons (pe_lst (pa_nil)) (pa_nil))) (by rfl))
      (pss_cons (ps_for PassesOwn.never rfl (pi_range1 (by rfl) T.b_range (pa_cons (pv 3) (pa_nil))) (pg_name (i := 9) sc_law_parts.nd rfl (Or.inr rfl))
      (pss_one (ps_expr (pe_bm PySem.F.plainAttrs_list PySem.F.slot_list_extend PySem.F.type_list_extend mt_extend (pv 4) (pa_cons (pe_lc (own := [("_law_other", 12)]) rfl sc_law_parts.nd (pi_range2 (by rfl) T.b_range (pa_cons (pe_op op_add (pv 9) (pe_int)) (pa_cons (pv 3) (pa_nil)))) (blkOk_by (N := N_law_parts) (sc := defScope s_law_parts) (own := [("_law_other", 12)]) (by decide +kernel)) (fun _ _ _ _ _ => pg_name (i := 12) sc_law_parts.nd rfl (Or.inl rfl)) (fun _ _ _ _ _ => pts_one (pt_cmpR op_eq (pe_c c_law_sift hr (by decide) (by rfl) (pa_cons (pv 0) (pa_cons (pe_int) (pa_nil)))) (pe_int) (nomark _))) (fun _ _ _ _ _ => pe_tupZ (pa_cons (pv 9) (pa_cons (pv 12) (pa_nil))))) (pa_nil))))))
      (pss_cons (ps_set (i := 5) sc_law_parts.nd rfl (Or.inr rfl) (pe_slice sl_list (pe_c c_law_mixed hr (by decide) (by rfl) (pa_cons (pv 0) (pa_cons (pe_listRg rfl (by rfl) T.b_list (prg_1 (by rfl) T.b_range (pv 3))) (pa_nil)))) (po_none) (po_some (pe_op op_add (pe_int) (pe_c c_law_sift hr (by decide) (by rfl) (pa_cons (pv 0) (pa_cons (pv 3) (pa_nil))))))))
      (pss_cons (ps_setLc (i := 6) (own := [("_law_thing", 11)]) rfl sc_law_parts.nd rfl rfl (sw_true rfl rfl rfl (by decide +kernel)) (pi_range1 (by rfl) T.b_range (pa_cons (pv 3) (pa_nil))) (blkOk_by (N := N_law_parts) (sc := defScope s_law_parts) (own := [("_law_thing", 11)]) (by decide +kernel)) (fun _ _ _ _ _ => pg_name (i := 11) sc_law_parts.nd rfl (Or.inl rfl)) (fun _ _ _ _ _ => pts_one (pt_cmpR (op_notInK K) (pv 11) (pv 5) (by rfl))) (fun _ _ _ _ _ => pe_tupZ (pa_cons (pv 11) (pa_cons (pe_c c_law_sift hr (by decide) (by rfl) (pa_cons (pv 0) (pa_cons (pe_int) (pa_nil)))) (pa_nil)))))
      (pss_cons (ps_set (i := 10) sc_law_parts.nd rfl (Or.inl rfl) (pe_c c_lots_of hr (by decide) (by rfl) (pa_cons (pe_mk c_Net hr (by decide) (by rfl) (pa_cons (pv 3) (pa_cons (pv 4) (pa_cons (pe_lst (pa_nil)) (pa_cons (pv 5) (pa_cons (pv 6) (pa_nil))))))) (pa_nil))))
      (pss_one (ps_if (pt_val (pe_callB (id := "isinstance") (cr_isiK K) (by rfl) T.b_isinstance (by decide +kernel) (pa_cons (pv 10) (pa_cons (pe_glob (v := .ref c.lots) (by rfl) T.g_Lots (by rfl)) (pa_nil))))) (pss_one (ps_ret (pe_tupZ (pa_cons (pe_tupZ (pa_cons (pv 3) (pa_cons (pv 4) (pa_cons (pv 5) (pa_cons (pv 6) (pa_nil)))))) (pa_cons (pe_callTy (T := "list") (cr_listK K) (by rfl) T.b_list (by decide +kernel) (pa_cons (pe_fldK K (pv 10)) (pa_nil))) (pa_cons (pv 10) (pa_nil))))))) (pss_nil)))))))))
      (pss_one (ps_ret (pe_tupZ (pa_cons (pe_tupZ (pa_cons (pe_int) (pa_cons (pe_lst (pa_cons (pe_tupZ (pa_cons (pe_int) (pa_cons (pe_int) (pa_nil)))) (pa_nil))) (pa_cons (pe_lst (pa_cons (pe_int) (pa_nil))) (pa_cons (pe_lst (pa_cons (pe_tupZ (pa_cons (pe_int) (pa_cons (pe_int) (pa_nil)))) (pa_nil))) (pa_nil)))))) (pa_cons (pe_lst (pa_cons (pe_tupZ (pa_cons (pe_int) (pa_cons (pe_tupZ (pa_cons (pe_int) (pa_nil))) (pa_nil)))) (pa_nil))) (pa_cons (pe_mkR c_Lots hr (by decide) (by rfl) (pa_cons (pe_lst (pa_cons (pe_lst (pa_cons (pe_int) (pa_nil))) (pa_nil))) (pa_cons (pe_lst (pa_cons (pe_tupZ (pa_cons (pe_int) (pa_cons (pe_lst (pa_cons (pe_int) (pa_nil))) (pa_nil)))) (pa_nil))) (pa_nil)))) (pa_nil)))))))), ?_⟩
    refine q_ifHJ (fun σ' H' => ∃ o2 o3 o4 o5 o6 o7 o8 o9 o10 o11 o12 o13, σ' = [some (.ref h), some (vN most), o2, o3, o4, o5, o6, o7, o8, o9, o10, o11, o12, o13] ∧ Kx h H H' ∧ LH h cc ds (n + 30) H') (eth_sift (k := 2) (i := 0) l (by omega) (by omega) (by omega) (as_h1 rfl ec_i) (fun H1 => ec_i)) (fun H1 k1 l1 go => ?_) (fun H1 k1 l1 go => go _ _ ⟨_, _, _, _, _, _, _, _, _, _, _, _, rfl, k1, l1.le (by omega)⟩) fun σ' H0 J => ?_
    · refine q_setH (h := h) (c := cc) (ds := ds) (m := n + 2) (P := fun v _ => ∃ w : Nat, 1 ≤ w ∧ w ≤ 2 ∧ v = vN w) (eh_op (m := n + 1) (P := vI (.int 1)) (R := vB 2) l1 (.of l1 ec_i) (lI _) (fun H2 k2 l2 => eh_sift (k := 2) l2 (by omega) (by omega) (by omega) (as_h1 rfl ec_i)) fun x y H2 k2 l2 px py Q1 q1 => ?_) fun vw H2 k2 l2 pw => ?_
      · obtain ⟨r, hr, rfl⟩ := py
        cases Im.isInt px
        exact ⟨1, (r : Int), rfl, rfl, q1 _ _ (Ex.refl _) ⟨1 + r, by omega, by omega, by show V.int _ = V.int _; rw [Int.natCast_add]; rfl⟩⟩
      · obtain ⟨w, w1, w2, rfl⟩ := pw
        refine ⟨vN w, rfl, .ref h, rfl, vN w, rfl, h, cc, ds, n + 2, w, rfl, l2, w1, w2, by omega, fun dd v H3 ddl dok k3 l3 pv => ?_⟩
        refine ⟨(w, dd), ⟨w1, w2, ddl, dok⟩, ⟨_, _, rfl, .int _, _, _, rfl, pv, rfl⟩, fun v5 H4 e4 p5 => ?_⟩
        obtain ⟨q, a, b, cv, d, e, rfl, hl, h1, h2, h3, h4, h5⟩ := p5
        refine ⟨q, [a, b, cv, d, e], rfl, hl.sq, rfl, a, _, rfl, b, _, rfl, cv, _, rfl, d, _, rfl, e, _, rfl, rfl, ?_⟩
        have ao := asked_fits ddl w2
        have ak := asked_ok w1 w2 ddl dok
        generalize askN w dd = s at *
        cases Im.isInt h1
        have l4 := l3.up e4
        have k14 := (k1.trans (k2.trans k3)).trans (Kx.of e4)
        refine s_ifT (et_t (eoB (g := fun i j => decide (i ≤ j)) (ei_var rfl (.int _)) (ei_var rfl (.int _)))) (fun hb H5 e5 => ?_) fun hb H5 e5 => go _ _ ⟨_, _, _, _, _, _, _, _, _, _, _, _, rfl, k14.trans (Kx.of e5), (l4.up e5).le (by omega)⟩
        have t4 : s.things ≤ most := by
          have := of_decide_eq_true hb
          omega
        have all := ao.ll
        have good := ak (by omega)
        have sorted_ : ∀ {G : Hp}, Ex H4 G → EvP (tCB rSortD (tCons (tVar 7) tNil)) [some (.ref h), some (vN most), some (vN w), some (.int (s.things : Nat)), some b, some cv, some d, some e, none, none, none, none, none, none] G (vL (((isortP s.lots).map lotR).map rowD)) := fun eG => e_sortRow (ep_var rfl (mL _) (mL _ _ _ _ eG h5)) (by omega)
        have o2 : ∀ r ∈ ((isortP s.lots).map lotR).map rowD, OkD 6 r := fun r m => by
          obtain ⟨z, hz, rfl⟩ := List.mem_map.mp m
          obtain ⟨y, _, rfl⟩ := List.mem_map.mp hz
          exact okD_rowD (by show 1 ≤ 1000; omega)
        refine s_retP (P := vT3 (vParts (netA s)) (vL ((papA s).lots.map rowD)) (vPap c (papA s))) (ep_t3 (ep_t4 (P := vI (dN (netA s).n)) (R := vL ((netA s).ss.map pD)) (S := vL ((netA s).kept.map dN)) (T := vL ((netA s).ts.map pD)) (ei_var rfl (.int _)) (ep_var rfl (mL _) (mL _ _ _ _ e5 h2)) (ep_var rfl (mL _) (mL _ _ _ _ e5 h3)) (ep_var rfl (mL _) (mL _ _ _ _ e5 h4)) (mI _) (mL _) (mL _) (mL _)) (sorted_ e5) (EvP.imp (ep_mkR (PyData.list (s.lots.map fun p => .list [dN p.1]), PyData.list (((isortP s.lots).map lotR).map rowD)) ⟨okD_list (by rw [List.length_map]; omega) (okD_ones s.lots), okD_list (by rw [List.length_map, List.length_map, (isortP_perm _).length_eq]; omega) o2⟩ (ea1 (mM _) (lc_ones (ep_var rfl (mL _) (mL _ _ _ _ e5 h5)) (by omega) (fun _ _ => rfl) fun _ _ => rfl) (ea_1 (mM _) (EvP.imp (sorted_ e5) fun v H4 _ p => vM_vL o2 p))) (a2mono (mM _) (mM _))) fun v H6 _ p => ?_) (mParts _) (mL _) (mO _ _)) fun v H6 e6 p6 => k _ _ v H6 good ((k14.trans (Kx.of e5)).trans (Kx.of e6)) (((l4.up e5).up e6).le (by omega)) p6
        have p : vO c.lots (lotsF (.list (s.lots.map fun p => .list [dN p.1]), .list (((isortP s.lots).map lotR).map rowD))) v H6 := p
        unfold lotsF at p
        dsimp only at p
        rw [fix_ones, fixD_listR] at p
        exact p
    · obtain ⟨o2, o3, o4, o5, o6, o7, o8, o9, o10, o11, o12, o13, rfl, k0, l0⟩ := J
      refine q_forR (k := 8) (EvP.isI ec_i rfl) (by omega) fun H1 e1 => ⟨fun i σ' H' => ∃ o2 o3 o4 o5 o6 o7 o8 o9 o10 o11 o12 o13, σ' = [some (.ref h), some (vN most), o2, o3, o4, o5, o6, o7, o8, o9, o10, o11, o12, o13] ∧ Kx h H H' ∧ LH h cc ds (n + 30 + i * 40) H', ⟨_, _, _, _, _, _, _, _, _, _, _, _, rfl, k0.trans (Kx.of e1), by rw [Nat.zero_mul]; exact l0.up e1⟩, ?_, ?_⟩
      · rintro i σ' H' hi ⟨o2, o3, o4, o5, o6, o7, o8, o9, o10, o11, o12, o13, rfl, kx, lh⟩
        have hm : n + 30 + i * 40 < 600000 := by omega
        obtain ⟨m, em⟩ : ∃ m, m = n + 30 + i * 40 := ⟨_, rfl⟩
        rw [← em] at lh hm
        refine q_parH (m := m + 1) (m2 := m + 1) (P := fun v _ => ∃ t : Nat, 2 ≤ t ∧ t ≤ most ∧ v = vN t) (R := vF H' []) (eh_op (m := m) (P := vI (.int 2)) (R := vB (most - 1)) lh (.of lh ec_i) (lI _) (fun H2 k2 l2 => eh_sift (k := most - 1) l2 (by omega) (by omega) (by omega) (as_h1 rfl (EvP.isI (eo (g := fun i j => i - j) (ei_var rfl (.int _)) ec_i) (by omega)))) fun x y H2 k2 l2 px py Q1 q1 => ?_) (fun _ _ p => p) (fun H1 k1 l1 => .of l1 (EvP.imp ep_nilF fun v H2 _ p => ?_)) fun a b H1 k1 l1 pa pb => ?_
        · obtain ⟨r, hr, rfl⟩ := py
          cases Im.isInt px
          exact ⟨2, (r : Int), rfl, rfl, q1 _ _ (Ex.refl _) ⟨2 + r, by omega, by omega, by show V.int _ = V.int _; rw [Int.natCast_add]; rfl⟩⟩
        · obtain ⟨p, xs, rfl, f, hp, im⟩ := p
          exact ⟨p, xs, rfl, fresh_kx l1 k1 f, hp, im⟩
        obtain ⟨t, t2, tm, rfl⟩ := pa
        obtain ⟨sa, ws0, rfl, ns, hs, is⟩ := pb
        have nsH : H sa = none := fresh_kx lh kx ns
        obtain ⟨sh, sc⟩ := l.ne_of nsH
        have kx1 := kx.trans k1
        refine q_forR (k := t) (ei_var rfl (.int _)) (by omega) fun H2 e2 => ⟨fun j σ'' H'' => ∃ o9 o11 o12 ws ss, σ'' = [some (.ref h), some (vN most), o2, some (vN t), some (.ref sa), o5, o6, o7, some (vN i), o9, o10, o11, o12, o13] ∧ Kx h H H'' ∧ LH h cc ds (m + 1 + j * 4) H'' ∧ H'' sa = some (.lst ws) ∧ ImAll H'' ws (ss.map pD) ∧ ss.length ≤ j * 4 ∧ ss.Sublist ((List.range j).flatMap (rowP t)), ⟨_, _, _, ws0, [], rfl, kx1.trans (Kx.of e2), by rw [Nat.zero_mul]; exact l1.up e2, e2 _ _ hs, is.up e2, Nat.le_refl _, List.Sublist.refl _⟩, ?_, ?_⟩
        · rintro j σ'' H'' hj ⟨o9, o11, o12, ws, ss, rfl, kx2, lh2, hw, is2, sl, sub⟩
          have wl : ws.length = ss.length := by rw [is2.len, List.length_map]
          refine ⟨.ref sa, rfl, .inl ⟨rfl, _, sq_of hw⟩, ?_⟩
          refine lc_H (h := h) (c := cc) (ds := ds) (m := m + 1 + j * 4) (k := t - (j + 1)) (q := 1) (q1 := 1) (lo := j + 1) (Rs := fun q es => ∃ ls : List (Nat × Nat), es = ls.map pD ∧ ls.Sublist ((List.range q).map fun u => (j, j + 1 + u))) (Ts := fun q es => ∃ ls : List (Nat × Nat), es = ls.map pD ∧ ls.Sublist ((List.range q).map fun u => (j, j + 1 + u))) (by omega) (fun C q => srcH2 (EvP.isI (eo (g := fun i j => i + j) (ei_var rfl (.int _)) ec_i) (by rw [Int.natCast_add]; rfl)) (ei_var rfl (.int _)) (by omega) (by omega) C q) lh2 (fun _ => rfl) ⟨[], rfl, List.nil_sublist _⟩ (fun u es G hu hR kG lG C hC => ?_) (Nat.le_refl _) (fun u es G hu hT kG lG => ?_) _ fun v G kG lG pv => ?_
          · obtain ⟨ls, e, sb⟩ := hR
            refine eth_sift (k := 2) (i := 0) lG (by omega) (by omega) (by omega) (as_h1 rfl ec_i) (fun _ => ec_i) C fun b G2 k2 l2 => hC b G2 k2 l2 (fun _ => ⟨ls, e, ?_⟩) fun _ => ⟨ls, e, sb⟩
            rw [List.range_succ, List.map_append]
            exact sb.trans (List.sublist_append_left _ _)
          · obtain ⟨ls, e, sb⟩ := hT
            refine EvH.imp (P := vI (pD (j, j + 1 + u))) (.of (lG.le (by omega)) (ep_tup (ea_cons (ei_var rfl (.int _)) (ea_cons (ei_var rfl (.int _)) ea_nil)) (by show 2 ≤ 100000; omega))) fun v G3 p => ⟨_, p, ls ++ [(j, j + 1 + u)], by rw [e, List.map_append]; rfl, ?_⟩
            rw [List.range_succ, List.map_append]
            exact sb.append (List.Sublist.refl _)
          · obtain ⟨_, ⟨ls, rfl, sb⟩, bb, zs, rfl, nb, hb, ib⟩ := pv
            have ll := sb.length_le
            rw [List.length_map, List.length_range] at ll
            have zl : zs.length = ls.length := by rw [ib.len, List.length_map]
            have hwG := kG _ _ sh hw
            have tx : Tx G (upd G sa (.lst (ws ++ zs))) := Tx.lst hwG
            refine ⟨sa, bb, ws, zs, rfl, rfl, hwG, hb, sz_of (by omega), _, _, _, ws ++ zs, ss ++ ls, rfl, (kx2.trans kG).mutf nsH, (lG.oth sh sc).le (by omega), upd_same, ?_, by rw [List.length_append]; omega, ?_⟩
            · rw [List.map_append]
              exact ((is2.mv (lh2.tx kG)).mv tx).app (ib.mv tx)
            · rw [List.range_succ, List.flatMap_append, List.flatMap_singleton]
              exact sub.append sb
        · rintro σ'' H3 ⟨o9, o11, o12, ws, ss, rfl, kx3, l3, hw, is3, sl, sub⟩
          have sub2 : ss.Sublist (pairsN t) := by
            have := pairs_rows ⟨t, by omega⟩
            dsimp only at this
            rw [this]
            exact sub
          refine q_setH (h := h) (c := cc) (ds := ds) (m := m + 1 + t * 4 + t + 1) (P := fun v G => ∃ ks : List Nat, ks ≠ [] ∧ ks.Nodup ∧ (∀ u ∈ ks, u < t) ∧ ks.length ≤ t ∧ vL (ks.map dN) v G) (fun Q1 q1 => ⟨.ref h, rfl, e_listRg (ei_var rfl (.int _)) (by omega) H3 (Ex.refl _) _ fun vr H4 e4 pr => ⟨h, cc, ds, m + 1 + t * 4, List.range t, vr, rfl, l3.up e4, pr, by rw [List.length_range]; omega, by rw [List.length_range]; omega, fun ms f H5 pm k5 l5 nf hf => ?_⟩⟩) fun vk H4 k4 l4 pk => ?_
          · rw [List.length_range] at l5
            obtain ⟨fh, fc⟩ := (l3.up e4).ne_of nf
            refine eh_op (h := h) (c := cc) (ds := ds) (m := m + 1 + t * 4 + t) (m2 := m + 1 + t * 4 + t + 1) (P := vI (.int 1)) (R := vB t) (S := fun v _ => ∃ r : Nat, 1 ≤ r ∧ r ≤ t ∧ v = vN r) l5 (.of l5 ec_i) (lI _) (fun H6 k6 l6 => eh_sift (k := t) l6 (by omega) (by omega) (by omega) (as_h1 rfl (ei_var rfl (.int _)))) (fun x y H6 k6 l6 px py Q2 q2 => ?_) _ fun y H6 k6 l6 py => ?_
            · obtain ⟨r, hr, rfl⟩ := py
              cases Im.isInt px
              exact ⟨1, (r : Int), rfl, rfl, q2 _ _ (Ex.refl _) ⟨1 + r, by omega, by omega, by show V.int _ = V.int _; rw [Int.natCast_add]; rfl⟩⟩
            · obtain ⟨r, r1, rt, rfl⟩ := py
              have hf6 := k6 _ _ fh hf
              have ml : ms.length = t := by rw [pm.length_eq, List.length_range]
              refine ⟨(r : Int), rfl, f, ms.map vN, rfl, SqL.of hf6, fun d hd => q1 _ _ (((Kx.of e4).trans (k5.trans k6)).trans (Kx.of (Ex.new hd))) (l6.up (Ex.new hd)) ⟨ms.take r, fun z => ?_, (List.take_sublist _ _).nodup (pm.nodup_iff.mpr List.nodup_range), fun u m => List.mem_range.mp (pm.mem_iff.mp (List.mem_of_mem_take m)), by rw [List.length_take]; omega, d, _, rfl, upd_same, ?_⟩⟩
              · have := congrArg List.length z
                rw [List.length_take, List.length_nil] at this
                omega
              · rw [cut_to, ← List.map_take]
                exact imN _
          obtain ⟨kept, kne, knd, klt, kle, pk⟩ := pk
          have hw4 := k4 _ _ sh hw
          have is4 := is3.mv (l3.tx k4)
          have m45 : m + 1 + t * 4 + t + 1 + t * 1 ≤ m + 40 := by omega
          have m46 : m + 1 + t * 4 + t + 1 + t < 700000 := by omega
          generalize m + 1 + t * 4 + t + 1 = m5 at *
          refine q_setH (h := h) (c := cc) (ds := ds) (m := m5 + t * 1) (P := fun v G => ∃ ts : List (Nat × Nat), ts.map (·.1) = (List.range t).filter (fun u => !decide (u ∈ kept)) ∧ (∀ p ∈ ts, p.2 < 8) ∧ vL (ts.map pD) v G) (EvH.imp (lc_H (h := h) (c := cc) (ds := ds) (m := m5) (k := t) (q := 1) (q1 := 0) (lo := 0) (Rs := fun q es => ∃ ls : List (Nat × Nat), es = ls.map pD ∧ ls.map (·.1) = (List.range q).filter (fun u => !decide (u ∈ kept)) ∧ ∀ p ∈ ls, p.2 < 8) (Ts := fun q es => q ∉ kept ∧ ∃ ls : List (Nat × Nat), es = ls.map pD ∧ ls.map (·.1) = (List.range q).filter (fun u => !decide (u ∈ kept)) ∧ ∀ p ∈ ls, p.2 < 8) (by omega) (fun C q => srcH1 (ei_var rfl (.int _)) (by omega) C q) l4 (fun _ => rfl) ⟨[], rfl, rfl, fun _ z => nomatch z⟩ (fun u es G hu hR kG lG C hC => ?_) (by omega) (fun u es G hu hT kG lG => ?_)) fun v G p => ?_) fun vt H5 k5 l5 pt => ?_
          · rw [Nat.zero_add]
            obtain ⟨ls, e, sb, s8⟩ := hR
            refine (et_t (e_ninN (ns := kept) (n := u) (ei_var rfl (.int _)) (ep_var rfl (mS _) (vS_L (lL _ l4 kG pk))))) G (Ex.refl _) C fun G2 e2 => hC _ G2 (Kx.of e2) (lG.up e2) (fun hb => ⟨ls, e, ?_, s8⟩) fun hb => ⟨?_, ls, e, sb, s8⟩
            · rw [List.range_succ, List.filter_append, sb]
              have : [u].filter (fun u => !decide (u ∈ kept)) = [] := by rw [List.filter_cons, if_neg (by rw [hb]; decide)]; rfl
              rw [this, List.append_nil]
            · simpa using hb
          · rw [Nat.zero_add]
            obtain ⟨nk, ls, e, sb, s8⟩ := hT
            intro Q1 q1
            refine ⟨vN u, rfl, eh_sift (k := 8) lG (by omega) (by omega) (by omega) (as_h1 rfl ec_i) _ fun v G3 k3 l3 p3 => ?_⟩
            obtain ⟨r, hr, rfl⟩ := p3
            refine ⟨by show 2 ≤ sizeLine; decide, fun p o dz hp => q1 _ _ (k3.trans (Kx.of (Ex.new hp))) ((l3.up (Ex.new hp)).le (by omega)) ⟨pD (u, r), .tup (Tz.new dz) (.cons (.int _) (.cons (.int _) .nil)), ls ++ [(u, r)], by rw [e, List.map_append]; rfl, ?_, fun p m => ?_⟩⟩
            · rw [List.range_succ, List.filter_append, List.map_append, sb]
              have : [u].filter (fun u => !decide (u ∈ kept)) = [u] := by rw [List.filter_cons, if_pos (by simp [nk])]; rfl
              rw [this]
              rfl
            · rcases List.mem_append.mp m with m | m
              · exact s8 p m
              · rw [List.mem_singleton] at m
                rw [m]
                exact hr
          · obtain ⟨_, ⟨ls, rfl, sb, s8⟩, p⟩ := p
            exact ⟨ls, sb, s8, vF_L p⟩
          obtain ⟨ts, tfst, ts8, pt⟩ := pt
          have pk5 := lL _ l4 k5 pk
          have hw5 := k5 _ _ sh hw4
          have is5 := is4.mv (l4.tx k5)
          obtain ⟨ok, lok, good⟩ := drawn_ok t2 (by omega) sub2 kne knd klt kle tfst ts8
          have k05 : Kx h H H5 := (kx3.trans k4).trans k5
          have net : ∀ {G : Hp} {o10' : Option V}, Ex H5 G → EvP (tVar 3) [some (.ref h), some (vN most), o2, some (vN t), some (.ref sa), some vk, some vt, o7, some (vN i), o9, o10', o11, o12, o13] G (vI (dN t)) ∧ EvP (tVar 4) [some (.ref h), some (vN most), o2, some (vN t), some (.ref sa), some vk, some vt, o7, some (vN i), o9, o10', o11, o12, o13] G (vL (ss.map pD)) ∧ EvP (tVar 5) [some (.ref h), some (vN most), o2, some (vN t), some (.ref sa), some vk, some vt, o7, some (vN i), o9, o10', o11, o12, o13] G (vL (kept.map dN)) ∧ EvP (tVar 6) [some (.ref h), some (vN most), o2, some (vN t), some (.ref sa), some vk, some vt, o7, some (vN i), o9, o10', o11, o12, o13] G (vL (ts.map pD)) := fun e => ⟨ei_var rfl (.int _), ep_var rfl (mL _) ⟨sa, ws, rfl, e _ _ hw5, is5.up e⟩, ep_var rfl (mL _) (mL _ _ _ _ e pk5), ep_var rfl (mL _) (mL _ _ _ _ e pt)⟩
          refine q_set (P := resL c ⟨t, ss, kept, ts⟩) (ep_callP (⟨t, ss, kept, ts⟩ : NetD) ⟨ok, lok⟩ (ea_1 (mO _ _) (e_net ok (net (Ex.refl _)).1 (net (Ex.refl _)).2.1 (EvP.imp ep_nilF fun v H1 _ p => vF_L p) (net (Ex.refl _)).2.2.1 (net (Ex.refl _)).2.2.2))) fun vp H6 e6 pp => ?_
          refine s_ifT (b := decide (leftL ⟨t, ss, kept, ts⟩ = [])) (et_v (e_isiC (ep_var (k := 10) rfl (mResL c _) pp) (mResL c _) fun v G p => ?_)) (fun hb H7 e7 => ?_) fun hb H7 e7 => ⟨_, _, _, _, _, _, _, _, _, _, _, _, rfl, k05.trans (Kx.of (e6.trans e7)), ((l5.up e6).up e7).le (by omega)⟩
          · unfold resL at p
            by_cases z : leftL ⟨t, ss, kept, ts⟩ = []
            · rw [if_pos z] at p
              rw [decide_eq_true z]
              exact ⟨_, ty_o T.i_Lots T.cl_Lots p, T.k_lots⟩
            · rw [if_neg z] at p
              rw [decide_eq_false z]
              exact ⟨_, ty_o T.i_Stuck T.cl_Stuck p, T.k_stuck⟩
          · have hb := of_decide_eq_true hb
            have g := good hb
            have pp : vPap c (papL ⟨t, ss, kept, ts⟩) vp H6 := by
              unfold resL at pp
              rw [if_pos hb] at pp
              exact pp
            generalize papL ⟨t, ss, kept, ts⟩ = pap at *
            refine s_retP (P := vT3 (vParts ⟨t, ss, kept, ts⟩) (vL (pap.lots.map rowD)) (vPap c pap)) (ep_t3 (ep_t4 (P := vI (dN t)) (R := vL (ss.map pD)) (S := vL (kept.map dN)) (T := vL (ts.map pD)) (net (e6.trans e7)).1 (net (e6.trans e7)).2.1 (net (e6.trans e7)).2.2.1 (net (e6.trans e7)).2.2.2 (mI _) (mL _) (mL _) (mL _)) (e_list (vST (p_lots T (ep_var rfl (mO _ _) (mO _ _ _ _ _ e7 pp))))) (ep_var rfl (mO _ _) (mO _ _ _ _ _ e7 pp)) (mParts _) (mL _) (mO _ _)) fun v H8 e8 p8 => k _ _ v H8 g (k05.trans (Kx.of ((e6.trans e7).trans e8))) ((((l5.up e6).up e7).up e8).le (by omega)) p8
      · rintro σ' H' ⟨o2, o3, o4, o5, o6, o7, o8, o9, o10, o11, o12, o13, rfl, kx, lh⟩
        refine s_retP (P := vT3 (vParts net0) (vL (pap0.lots.map rowD)) (vPap c pap0)) (ep_t3 (ep_t4 (P := vI (dN 2)) (R := vL ([(0, 1)].map pD)) (S := vL ([1].map dN)) (T := vL ([(0, 3)].map pD)) (EvP.isI ec_i rfl) (ep_lst (ds := [pD (0, 1)]) (ea_cons (ep_tup (ds := [dN 0, dN 1]) (ea_cons ec_i (ea_cons ec_i ea_nil)) (by show 2 ≤ 100000; omega)) ea_nil) (by show 1 ≤ 100000; omega)) (ep_lst (ds := [dN 1]) (ea_cons ec_i ea_nil) (by show 1 ≤ 100000; omega)) (ep_lst (ds := [pD (0, 3)]) (ea_cons (ep_tup (ds := [dN 0, dN 3]) (ea_cons ec_i (ea_cons ec_i ea_nil)) (by show 2 ≤ 100000; omega)) ea_nil) (by show 1 ≤ 100000; omega)) (mI _) (mL _) (mL _) (mL _)) (ep_lst (ds := [rowD (0, [1])]) (ea_cons (ep_tup (ds := [dN 0, tupN [1]]) (ea_cons ec_i (ea_cons (ep_tup (ds := [dN 1]) (ea_cons ec_i ea_nil) (by show 1 ≤ 100000; omega)) ea_nil)) (by show 2 ≤ 100000; omega)) ea_nil) (by show 1 ≤ 100000; omega)) (EvP.imp (ep_mkR (PyData.list [.list [.int 0]], PyData.list [.tuple [.int 0, .list [.int 1]]]) ⟨okD_list (by show 1 ≤ 1000; omega) (fun d m => ?_), okD_list (by show 1 ≤ 1000; omega) (fun d m => ?_)⟩ (ea1 (mM _) (ep_lstM (ea_consM (ep_lstM (ea_consM ec_M ea_nilM) (by show 1 ≤ 100000; omega)) ea_nilM) (by show 1 ≤ 100000; omega)) (ea_1 (mM _) (ep_lstM (ea_consM (ep_tupM (ea_consM ec_M (ea_consM (ep_lstM (ea_consM ec_M ea_nilM) (by show 1 ≤ 100000; omega)) ea_nilM)) (by show 2 ≤ 100000; omega)) ea_nilM) (by show 1 ≤ 100000; omega)))) (a2mono (mM _) (mM _))) fun v H6 _ p => ?_) (mParts net0) (mL _) (mO _ _)) fun v H8 e8 p8 => k net0 pap0 v H8 good0 (kx.trans (Kx.of e8)) ((lh.up e8).le (by omega)) p8
        · rw [List.mem_singleton] at m
          rw [m]
          exact okD_list (by show 1 ≤ 1000; omega) fun e me => by
            rw [List.mem_singleton] at me
            rw [me]
            exact .inl ⟨_, rfl⟩
        · rw [List.mem_singleton] at m
          rw [m]
          refine .inr ⟨_, .inr rfl, by show 2 ≤ 1000; omega, fun e me => ?_⟩
          rcases List.mem_cons.mp me with rfl | me
          · exact .inl ⟨_, rfl⟩
          · rw [List.mem_singleton] at me
            rw [me]
            exact okD_list (by show 1 ≤ 1000; omega) fun e me => by
              rw [List.mem_singleton] at me
              rw [me]
              exact .inl ⟨_, rfl⟩
        · have p : vO c.lots (lotsF (.list [.list [.int 0]], .list [.tuple [.int 0, .list [.int 1]]])) v H6 := p
          have e1 : fixD (.list [.list [.int 0]]) = .tuple (pap0.layers.map tupN) := by simp [fixD, fixD.fixDs, tupN, pap0]
          have e2 : fixD (.list [.tuple [.int 0, .list [.int 1]]]) = .tuple (pap0.lots.map rowD) := by simp [fixD, fixD.fixDs, rowD, pap0]
          unfold lotsF at p
          dsimp only at p
          rw [e1, e2] at p
          exact p
end
end Lk
end

section
set_option Elab.async false
set_option linter.all false
set_option maxRecDepth 100000
set_option maxHeartbeats 4000000
namespace Lk
open PySem PySem.Spec PyProof.Rows L2 Evl PySem.W C8
local macro_rules | `(tactic| walk_at "ex") => `(tactic| first | exact Ex.refl _ | assumption | (refine Ex.trans (H1 := ?g) ?a ?b; (case a => assumption); (case b => walk_at "ex")))
local macro_rules | `(tactic| walk_at "im") => `(tactic| first | assumption | exact Im.int _ | exact Im.bl _ | (refine Im.up (H := ?g) ?a ?b; (case a => assumption); (case b => walk_at "ex")))
local macro_rules | `(tactic| walk_at "ev") => `(tactic| first
  | exact ec_i | exact ec_b | exact ec_s | exact ec_n
  | (refine ei_var rfl ?_; walk_at "im")
  | (refine eo ?_ ?_ <;> walk_at "ev")
  | (refine eoB ?_ ?_ <;> walk_at "ev")
  | (refine e_eqI ?_ ?_ <;> walk_at "ev")
  | (refine e_neI ?_ ?_ <;> walk_at "ev")
  | (refine eu ?_ <;> walk_at "ev")
  | (refine e_not ?_ <;> walk_at "ev"))

section
variable {P : Program} {w : World} {K : PySem.W.Frag} {mg : Str → Option Value} {base : Heap} {c : Cs}
theorem tupleText_len {m : Nat} (ts : List Str) (h : ∀ t ∈ ts, t.length ≤ m) : (tupleText ts).length ≤ (m + 2) * ts.length + 4 := by
  have pl : ∀ l : List Str, (∀ t ∈ l, t.length ≤ m) → (Str.join ", " l).length ≤ (m + 2) * l.length := fun l hl => by
    have pd : ∀ l : List Str, (∀ t ∈ l, t.length ≤ m) → piled l ≤ (m + 2) * l.length := fun l => by
      induction l with
      | nil => intro _; exact Nat.zero_le _
      | cons t r ih =>
        intro hl
        have h1 := ih fun u mu => hl u (List.mem_cons_of_mem _ mu)
        have h2 := hl t List.mem_cons_self
        rw [List.length_cons, Nat.mul_succ]
        show t.length + 2 + piled r ≤ _
        omega
    by_cases e : l = []
    · subst e
      have z : (Str.join ", " []).length = 0 := by decide +kernel
      rw [z]
      exact Nat.zero_le _
    · have := join_length_add l e
      have := pd l hl
      omega
  have h1 := pl ts h
  have e1 : (Str.ofString "(").length = 1 := by decide +kernel
  have e2 : (Str.ofString ")").length = 1 := by decide +kernel
  have e3 : (Str.ofString ",)").length = 2 := by decide +kernel
  unfold tupleText
  rw [strLen_append, strLen_append]
  have e4 : ((if ts.length == 1 then ",)" else ")" : String) : Str).length ≤ 2 := by
    by_cases z : (ts.length == 1) = true
    · rw [if_pos z]; exact Nat.le_of_eq e3
    · rw [if_neg z]; exact Nat.le_trans (Nat.le_of_eq e2) (by decide)
  have e5 : (("(" : String) : Str).length = 1 := e1
  omega
theorem shown_all : ∀ xs : List PyData, PyData.shownAll xs = xs.map PyData.shown
  | [] => by simp only [PyData.shownAll, List.map_nil]
  | x :: xs => by simp only [PyData.shownAll, List.map_cons, shown_all xs]
theorem show_all : ∀ xs : List PyData, (∀ x ∈ xs, x.showable = true) → PyData.showableAll xs = true
  | [], _ => by simp only [PyData.showableAll]
  | x :: xs, h => by simp only [PyData.showableAll]; rw [h x List.mem_cons_self, show_all xs fun y m => h y (List.mem_cons_of_mem _ m)]; rfl
theorem pair_shown : ∀ a : Fin 8, ∀ b : Fin 2, (PyData.shown (pD (a.val, b.val))).length ≤ 10 ∧ (pD (a.val, b.val)).showable = true := by
  intro a b
  have s : ∀ i : Fin 8, (PyData.shown (dN i.val)).length ≤ 1 ∧ (dN i.val).showable = true := by
    intro i
    simp only [PyData.shown, PyData.showable]
    revert i
    decide +kernel
  obtain ⟨h1, h2⟩ := s a
  obtain ⟨h3, h4⟩ := s ⟨b.val, by omega⟩
  dsimp only at h3 h4
  refine ⟨?_, ?_⟩
  · have := tupleText_len (m := 1) [PyData.shown (dN a.val), PyData.shown (dN b.val)] (fun t m => by
      rcases List.mem_cons.mp m with rfl | m
      · exact h1
      · rw [List.mem_singleton] at m
        rw [m]
        exact h3)
    show (PyData.shown (.tuple [dN a.val, dN b.val])).length ≤ 10
    rw [PyData.shown, shown_all]
    exact this
  · show (PyData.tuple [dN a.val, dN b.val]).showable = true
    rw [PyData.showable]
    exact show_all _ fun x m => by
      rcases List.mem_cons.mp m with rfl | m
      · exact h2
      · rw [List.mem_singleton] at m
        rw [m]
        exact h4
structure WayFit (n : Nat) (w : List (Nat × Nat)) : Prop where
  len : w.length = n
  fit : ∀ p ∈ w, p.1 < 8 ∧ p.2 < 2
theorem ways_fit {x : NetD} {p : PapD} {told falls : List Nat} : ∀ w ∈ waysU x p told falls, WayFit x.n w := fun w m => by
  obtain ⟨k, _, rfl⟩ := List.mem_map.mp m
  refine ⟨by unfold secN; rw [List.length_map, List.length_range, bitsOf_len], fun q mq => ?_⟩
  unfold secN at mq
  obtain ⟨t, ht, rfl⟩ := List.mem_map.mp mq
  have ht := List.mem_range.mp ht
  refine ⟨by dsimp only; omega, ?_⟩
  dsimp only
  rw [List.getD_eq_getElem?_getD, List.getElem?_eq_getElem ht]
  exact bitsOf_lt x.n k _ (List.getElem_mem ht)
theorem way_shown {n : Nat} {w : List (Nat × Nat)} (n4 : n ≤ 4) (h : WayFit n w) : (PyData.shown (wayD w)).length ≤ 52 ∧ (wayD w).showable = true := by
  have pf : ∀ p ∈ w, (PyData.shown (pD p)).length ≤ 10 ∧ (pD p).showable = true := fun p m => by
    obtain ⟨h1, h2⟩ := h.fit p m
    exact pair_shown ⟨p.1, h1⟩ ⟨p.2, h2⟩
  refine ⟨?_, ?_⟩
  · rw [PyData.shown, shown_all, List.map_map]
    have := tupleText_len (m := 10) (w.map (PyData.shown ∘ pD)) (fun t m => by
      obtain ⟨p, hp, rfl⟩ := List.mem_map.mp m
      exact (pf p hp).1)
    rw [List.length_map, h.len] at this
    omega
  · rw [PyData.showable]
    refine show_all _ fun y m => ?_
    obtain ⟨p, hp, rfl⟩ := List.mem_map.mp m
    exact (pf p hp).2
theorem flt_ways (ys : List (List (Nat × Nat))) : Flt 3 (.tuple (ys.map wayD)) := flt_t fun w _ => flt_t fun p _ => flt_p p
theorem ways_shown {n : Nat} {ys : List (List (Nat × Nat))} (n4 : n ≤ 4) (h : ∀ w ∈ ys, WayFit n w) (l : ys.length ≤ 16) : (PyData.tuple (ys.map wayD)).showable = true ∧ (PyData.tuple (ys.map wayD)).hasDict = false ∧ (PyData.tuple (ys.map wayD)).depth ≤ 8 ∧ (PyData.tuple (ys.map wayD)).shown.length ≤ sizeLine := by
  have f := flt_ways ys
  refine ⟨?_, PyData.hasDict_of_canLay _ f.1, Nat.le_trans f.2 (by decide), ?_⟩
  · rw [PyData.showable]
    refine show_all _ fun y m => ?_
    obtain ⟨w, hw, rfl⟩ := List.mem_map.mp m
    exact (way_shown n4 (h w hw)).2
  · rw [PyData.shown, shown_all, List.map_map]
    have := tupleText_len (m := 52) (ys.map (PyData.shown ∘ wayD)) (fun t m => by
      obtain ⟨w, hw, rfl⟩ := List.mem_map.mp m
      exact (way_shown n4 (h w hw)).1)
    rw [List.length_map] at this
    refine Nat.le_trans this (sz_of ?_)
    have : 54 * ys.length ≤ 54 * 16 := Nat.mul_le_mul_left _ l
    omega
section
variable {h c : Addr} {ds : List Int} {n m : Nat} {H : Hp} {σ : L2.St} {te ta tb : TE} {K : PySem.W.Frag} {D : Ends} {tu tw tz : TS} {vs : List Nat} {j : Nat}
theorem e_repr {es : List PyData} (a : EvP te σ H (vI (.tuple es))) (f : (PyData.tuple es).showable = true ∧ (PyData.tuple es).hasDict = false ∧ (PyData.tuple es).depth ≤ 8 ∧ (PyData.tuple es).shown.length ≤ sizeLine) : EvP (tCB rRepr (tCons te tNil)) σ H (vI (.str (PyData.tuple es).shown)) := ep_cb1 a fun v H1 _ p Q q => by
  obtain ⟨a, xs, rfl, t, im⟩ := Im.isTup p
  exact ⟨a, _, rfl, p, f.1, f.2.1, f.2.2.1, f.2.2.2, q _ _ (Ex.refl _) (.str _)⟩
theorem e_neW {ys : List (List (Nat × Nat))} (a : EvP ta σ H (vI (.tuple (ys.map wayD)))) (b : EvP tb σ H (vI (.tuple (ys.map wayD)))) : EvP (tOp (rNeD K) ta tb) σ H (vI (.bool false)) := by
  have e : PyData.tuple (ys.map wayD) = Datum.toD (Tup.mk (ys.map Tup.mk)) := by
    show PyData.tuple (ys.map wayD) = .tuple ((ys.map Tup.mk).map Datum.toD)
    rw [List.map_map]
    rfl
  have q := e_neT (K := K) (x := Tup.mk (ys.map Tup.mk)) (y := Tup.mk (ys.map Tup.mk)) (n := 3) a (mI _) b (fun _ _ p => by rw [← e]; exact dpI p) (fun _ _ p => by rw [← e]; exact dpI p) (by rw [← e]; exact flt_ways ys) (by rw [← e]; exact flt_ways ys)
  rw [decide_eq_true rfl] at q
  exact q
theorem e_eqW {ys zs : List (List (Nat × Nat))} (z : ys = zs) (a : EvP ta σ H (vI (.tuple (ys.map wayD)))) (b : EvP tb σ H (vI (.tuple (zs.map wayD)))) : EvP (tOp (rEqD K) ta tb) σ H (vI (.bool true)) := by
  subst z
  have e : PyData.tuple (ys.map wayD) = Datum.toD (Tup.mk (ys.map Tup.mk)) := by
    show PyData.tuple (ys.map wayD) = .tuple ((ys.map Tup.mk).map Datum.toD)
    rw [List.map_map]
    rfl
  have q := e_eqT (K := K) (x := Tup.mk (ys.map Tup.mk)) (y := Tup.mk (ys.map Tup.mk)) (n := 3) a (mI _) b (fun _ _ p => by rw [← e]; exact dpI p) (fun _ _ p => by rw [← e]; exact dpI p) (by rw [← e]; exact flt_ways ys) (by rw [← e]; exact flt_ways ys)
  rw [decide_eq_true rfl] at q
  exact q
theorem e_neAm {x y : Am} (z : x = y) (a : EvP ta σ H (vI (am x))) (b : EvP tb σ H (vI (am y))) : EvP (tOp (rNeD K) ta tb) σ H (vI (.bool false)) := by
  subst z
  have f : Flt 1 (am x) := flt_t (enc := PyData.int) (xs := [x.1, x.2.1, x.2.2.1, x.2.2.2]) fun i _ => flt_i i
  have q := e_neT (K := K) (x := Tup.mk [x.1, x.2.1, x.2.2.1, x.2.2.2]) (y := Tup.mk [x.1, x.2.1, x.2.2.1, x.2.2.2]) (n := 1) a (mI _) b (fun _ _ p => dpI p) (fun _ _ p => dpI p) f f
  rw [decide_eq_true rfl] at q
  exact q
theorem eh_draws {r t : Nat} {i : Int} {E : XK} (l : LH h c ds n H) (hn : n + t < 800000) (r0 : 0 < r) (r1 : r < 1000) (ht : t ≤ 1000) (hi : i = (r : Nat)) (e : EvP te σ H (vI (dN t))) (hw : ∀ x, wipe ((wipe σ vs).set j (some x)) vs = wipe σ vs) (h0 : ∀ x, ((wipe σ vs).set j (some x))[0]? = some (some (.ref h))) :
    EvH h c ds (n + t) (tLc (iRng1 (tCons te tNil)) (gName j) tYes (tCall sp_sift0 [] E (tCons (tVar 0) (tCons (tC (.int i)) tNil))) vs) σ H (fun v G => ∃ ts : List Nat, ts.length = t ∧ (∀ u ∈ ts, u < r) ∧ vL (ts.map dN) v G) := by
  subst hi
  have q := lc_H (h := h) (c := c) (ds := ds) (m := n) (k := t) (q := 1) (q1 := 0) (lo := 0) (Rs := fun u es => ∃ ts : List Nat, es = ts.map dN ∧ ts.length = u ∧ ∀ v ∈ ts, v < r) (Ts := fun u es => ∃ ts : List Nat, es = ts.map dN ∧ ts.length = u ∧ ∀ v ∈ ts, v < r) (te := tCall sp_sift0 [] E (tCons (tVar 0) (tCons (tC (.int (r : Nat))) tNil))) (tt := tYes) (by omega) (fun C q => srcH1 e (by omega) C q) l hw ⟨[], rfl, rfl, fun _ z => nomatch z⟩ (fun u es G hu hR kG lG C hC => hC true G (Kx.refl _ _) lG (fun z => nomatch z) fun _ => hR) (by omega) fun u es G hu hT kG lG => ?_
  · rw [Nat.mul_one] at q
    exact EvH.imp q fun v G p => by
      obtain ⟨_, ⟨ts, rfl, l1, l2⟩, p⟩ := p
      exact ⟨ts, l1, l2, vF_L p⟩
  · obtain ⟨ts, rfl, l1, l2⟩ := hT
    refine EvH.imp (P := vB r) (fun Q qq => eh_sift (k := r) lG (by omega) r0 r1 (as_h1 (h0 _) ec_i) Q fun v G2 k2 l2 p => qq v G2 k2 (l2.le (by omega)) p) fun v G2 p => ?_
    obtain ⟨s, hs, rfl⟩ := p
    exact ⟨_, .int _, ts ++ [s], by rw [List.map_append]; rfl, by rw [List.length_append, l1]; rfl, fun v m => by
      rcases List.mem_append.mp m with m | m
      · exact l2 v m
      · rw [List.mem_singleton] at m
        rw [m]
        exact hs⟩
theorem ep_callKw {α : Type} {pre : α → Prop} {arg : α → AV} {res : α → VP} {gV : List V → List V} {k : Nat} {tk : TA} {A : AV} (x : α) (hp : pre x) (a : EvAs tk σ H A) (hA : ∀ vs H1, A vs H1 → vs.length = k ∧ arg x (gV vs) H1) : EvP (tCallKw (spP pre arg res) gV k tk) σ H (res x) := fun H1 e Q q =>
  a H1 e _ fun vs H2 e2 p => ⟨(hA vs H2 p).1, x, hp, (hA vs H2 p).2, fun v H3 e3 r => q v H3 (e2.trans e3) r⟩
end
section
variable {P : Program} {w : World} {K : PySem.W.Frag} {mg : Str → Option Value} {base : Heap} {c : Cs}
theorem k_ways_to (T : Txt K mg c) : CalK P w K mg base 7 "ways_to" (sp_ways_to (c := c)) ["falls", "told", "paper", "net"] List.reverse :=
  (s_ways_to_ok T).kw (g := List.reverse) (fun {zs ws} r => by
    induction r with
    | nil => exact .nil
    | cons h r ih => rw [List.reverse_cons, List.reverse_cons]; exact ih.append (.cons h .nil)) fun _ _ _ _ _ _ ws hl => match ws, hl with
    | [_, _, _, _], _ => rfl
end
def sp_right (c : Cs) : Sp := fun vs H Q _ => ∃ (h cc : Addr) (ds : List Int) (n : Nat) (x : NetD) (p : PapD) (v1 v2 v3 : V), vs = [.ref h, v1, v2, v3] ∧ LH h cc ds n H ∧ n < 500000 ∧ Good x p ∧ vParts x v1 H ∧ vL (p.lots.map rowD) v2 H ∧ vPap c p v3 H ∧ ∀ H', Kx h H H' → LH h cc ds (n + 100) H' → Q (.bl true) H'
/-! ### _law_right -/
abbrev sp_law_right : Sp := sp_right c
theorem s_law_right_ok (T : Txt K mg c) : CalGS P w K mg base 9 "_law_right" "_law_right" s_law_right ["_law_heap_here", "_law_parts_here", "_law_lots", "_law_paper"] (sp_law_right (c := c)) := by
  have c_Net := c_Net (P := P) (w := w) (base := base) T
  have c_law_products := c_law_products (P := P) (w := w) (base := base) T
  have c_law_sift := c_law_sift (P := P) (w := w) (base := base) T
  have c_law_ways := c_law_ways (P := P) (w := w) (base := base) T
  have c_ways_to := c_ways_to (P := P) (w := w) (base := base) T
  have k_ways_to := k_ways_to (P := P) (w := w) (base := base) T
  refine mkCalG T.d_law_right sc_law_right (fun _ _ _ _ _ _ us hl => match us, hl with | [_, _, _, _], _ => rfl) (fun vs H Q E h => ?_) (fun f cdv A outer s H vs Q E gd hr h => ?_)
  · obtain ⟨h, cc, ds, n, x, p, v1, v2, v3, rfl, _⟩ := h; rfl
  · have hu := hu_of hr
    obtain ⟨h, cc, ds, n, x, p, v1, v2, v3, rfl, l, n5, g, r1, r2, r3, k⟩ := h
    refine ⟨_, pss_cons (ps_asg (pv 1) (pg_tupK K (n := 4) rfl (pgs_cons (pg_name (i := 4) sc_law_right.nd rfl (Or.inl rfl)) (pgs_cons (pg_name (i := 5) sc_law_right.nd rfl (Or.inl rfl)) (pgs_cons (pg_name (i := 6) sc_law_right.nd rfl (Or.inl rfl)) (pgs_cons (pg_name (i := 7) sc_law_right.nd rfl (Or.inl rfl)) (pgs_nil)))))))
      (pss_cons (ps_set (i := 8) sc_law_right.nd rfl (Or.inl rfl) (pe_mk c_Net hr (by decide) (by rfl) (pa_cons (pv 4) (pa_cons (pv 5) (pa_cons (pe_lst (pa_nil)) (pa_cons (pv 6) (pa_cons (pv 7) (pa_nil))))))))
      (pss_cons (ps_par (i := 9) (j := 10) rfl sc_law_right.nd rfl rfl (by decide) rfl rfl (pa_cons (pe_lc (own := [("_law_thing", 17)]) rfl sc_law_right.nd (pi_range1 (by rfl) T.b_range (pa_cons (pv 4) (pa_nil))) (blkOk_by (N := N_law_right) (sc := defScope s_law_right) (own := [("_law_thing", 17)]) (by decide +kernel)) (fun _ _ _ _ _ => pg_name (i := 17) sc_law_right.nd rfl (Or.inl rfl)) (fun _ _ _ _ _ => pts_nil) (fun _ _ _ _ _ => pe_c c_law_sift hr (by decide) (by rfl) (pa_cons (pv 0) (pa_cons (pe_int) (pa_nil))))) (pa_cons (pe_lc (own := [("_law_thing", 17)]) rfl sc_law_right.nd (pi_range1 (by rfl) T.b_range (pa_cons (pv 4) (pa_nil))) (blkOk_by (N := N_law_right) (sc := defScope s_law_right) (own := [("_law_thing", 17)]) (by decide +kernel)) (fun _ _ _ _ _ => pg_name (i := 17) sc_law_right.nd rfl (Or.inl rfl)) (fun _ _ _ _ _ => pts_nil) (fun _ _ _ _ _ => pe_c c_law_sift hr (by decide) (by rfl) (pa_cons (pv 0) (pa_cons (pe_int) (pa_nil))))) (pa_nil))) (by rfl))
      (pss_cons (ps_set (i := 11) sc_law_right.nd rfl (Or.inl rfl) (pe_c c_law_ways hr (by decide) (by rfl) (pa_cons (pv 1) (pa_cons (pv 2) (pa_cons (pv 9) (pa_cons (pv 10) (pa_nil)))))))
      (pss_cons (ps_set (i := 12) sc_law_right.nd rfl (Or.inl rfl) (pe_c c_ways_to hr (by decide) (by rfl) (pa_cons (pv 8) (pa_cons (pv 3) (pa_cons (pe_callTy (T := "tuple") (cr_tupleK K) (by rfl) T.b_tuple (by decide +kernel) (pa_cons (pv 9) (pa_nil))) (pa_cons (pv 10) (pa_nil)))))))
      (pss_cons (ps_if ((pw_or (pt_cmpR op_ne (pe_callB (id := "repr") (cr_repr hr gd) (by rfl) T.b_repr (by decide +kernel) (pa_cons (pv 12) (pa_nil))) (pe_callB (id := "repr") (cr_repr hr gd) (by rfl) T.b_repr (by decide +kernel) (pa_cons (pe_callTy (T := "tuple") (cr_tupleK K) (by rfl) T.b_tuple (by decide +kernel) (pa_cons (pv 11) (pa_nil))) (pa_nil))) (nomark _)) (pw_or1 (pt_cmpR (op_neDK K hr.units) (pe_cK k_ways_to hr (by decide) (by rfl) (pk_cons (pe_callTy (T := "tuple") (cr_tupleK K) (by rfl) T.b_tuple (by decide +kernel) (pa_cons (pv 10) (pa_nil))) (pk_cons (pv 9) (pk_cons (pv 3) (pk_cons (pv 8) pk_nil))))) (pv 12) (nomark _)))).pt) (pss_one (ps_ret (pe_bl))) (pss_nil))
      (pss_cons (ps_for PassesOwn.never rfl (pi_range1 (by rfl) T.b_range (pa_cons (pe_int) (pa_nil))) (pg_name (i := 13) sc_law_right.nd rfl (Or.inl rfl))
      (pss_cons (ps_par (i := 14) (j := 15) rfl sc_law_right.nd rfl rfl (by decide) rfl rfl (pa_cons (pe_c c_law_sift hr (by decide) (by rfl) (pa_cons (pv 0) (pa_cons (pe_op op_shl (pe_int) (pv 4)) (pa_nil)))) (pa_cons (pe_c c_law_sift hr (by decide) (by rfl) (pa_cons (pv 0) (pa_cons (pe_op op_shl (pe_int) (pv 4)) (pa_nil)))) (pa_nil))) (by rfl))
      (pss_cons (ps_set (i := 16) sc_law_right.nd rfl (Or.inl rfl) (pe_ifExp (pt_cmpR op_eq (pv 14) (pv 15) (nomark _)) (pe_tupZ (pa_cons (pe_op op_shl (pe_int) (pv 4)) (pa_cons (pe_int) (pa_cons (pe_int) (pa_cons (pe_int) (pa_nil)))))) (pe_tupZ (pa_cons (pe_int) (pa_cons (pe_int) (pa_cons (pe_int) (pa_cons (pe_int) (pa_nil))))))))
      (pss_one (ps_if ((pw_or (pt_cmpR (op_neDK K hr.units) (pe_c c_law_products hr (by decide) (by rfl) (pa_cons (pv 12) (pa_cons (pv 4) (pa_cons (pv 14) (pa_cons (pv 15) (pa_nil)))))) (pv 16) (nomark _)) (pw_or1 (pt_cmpR (op_neDK K hr.units) (pe_c c_law_products hr (by decide) (by rfl) (pa_cons (pv 12) (pa_cons (pv 4) (pa_cons (pv 14) (pa_cons (pv 14) (pa_nil)))))) (pe_tupZ (pa_cons (pe_op op_shl (pe_int) (pv 4)) (pa_cons (pe_int) (pa_cons (pe_int) (pa_cons (pe_int) (pa_nil)))))) (nomark _)))).pt) (pss_one (ps_ret (pe_bl))) (pss_nil))))))
      (pss_one (ps_ret (pe_bl))))))))), ?_⟩
    have n1 := g.ok.n1
    have n4 := g.ok.n4
    have pz : 2 ^ x.n ≤ 16 := Nat.pow_le_pow_right (by omega) n4
    have p0 : 0 < 2 ^ x.n := Nat.pow_pos (by omega)
    refine q_unp4 (ep_var (k := 1) rfl (mParts x) r1) fun vn vs vk vt H1 e1 qn qs qk qt => ?_
    refine q_set (P := vNet c x) (e_net g.ok (ei_var rfl qn) (ep_var rfl (mL _) qs) (EvP.imp ep_nilF fun v H1 _ p => vF_L p) (ep_var rfl (mL _) qk) (ep_var rfl (mL _) qt)) fun ve H2 e2 pe => ?_
    have l2 := l.up (e1.trans e2)
    refine q_parH (h := h) (c := cc) (ds := ds) (m := n + x.n) (m2 := n + x.n + x.n) (P := fun v G => ∃ ts : List Nat, ts.length = x.n ∧ (∀ u ∈ ts, u < 8) ∧ vL (ts.map dN) v G) (R := fun v G => ∃ ts : List Nat, ts.length = x.n ∧ (∀ u ∈ ts, u < 2) ∧ vL (ts.map dN) v G) (eh_draws l2 (by omega) (by omega) (by omega) (by omega) rfl (ei_var rfl (qn.up e2)) (fun _ => rfl) fun _ => rfl) (fun l k p => by obtain ⟨ts, a, b, z⟩ := p; exact ⟨ts, a, b, lL _ l k z⟩) (fun H3 k3 l3 => eh_draws l3 (by omega) (by omega) (by omega) (by omega) rfl (ei_var rfl ((qn.up e2).mv (l2.tx k3))) (fun _ => rfl) fun _ => rfl) fun vt vf H3 k3 l3 pt pf => ?_
    obtain ⟨told, lt, t8, pt⟩ := pt
    obtain ⟨falls, lf, f2, pf⟩ := pf
    have k03 : Kx h H H3 := (Kx.of (e1.trans e2)).trans k3
    have qn3 := (qn.up e2).mv (l2.tx k3)
    have pe3 : vNet c x ve H3 := lO _ _ l2 k3 pe
    have r13 := lParts x l k03 r1
    have r23 := lL _ l k03 r2
    have r33 : vPap c p v3 H3 := lO _ _ l k03 r3
    obtain ⟨ys, ey, py⟩ := sortD_typed wayD (waysU x p told falls)
    have wf : ∀ w ∈ ys, WayFit x.n w := fun w m => ways_fit w (py.mem_iff.mp m)
    have yl : ys.length ≤ 16 := by
      rw [py.length_eq]
      unfold waysU
      rw [List.length_map, List.length_range]
      exact pz
    have sh := ways_shown n4 wf yl
    have wo := g.ways lt lf t8 f2
    refine q_set (P := vL (ys.map wayD)) (EvP.isL (ep_callP (x, p.lots, told, falls) (g.waysL lt lf f2) (ea1 (mParts x) (ep_var (k := 1) rfl (mParts x) r13) (ea1 (mL _) (ep_var (k := 2) rfl (mL _) r23) (ea1 (mL _) (ep_var rfl (mL _) pt) (ea_1 (mL _) (ep_var rfl (mL _) pf)))))) (by rw [← ey, g.same])) fun vw H4 e4 pw => ?_
    refine q_set (P := vI (.tuple (ys.map wayD))) (EvP.is (ep_callP (x, p, told, falls) wo (ea1 (mO _ _) (ep_var rfl (mO _ _) (mO _ _ _ _ _ e4 pe3)) (ea1 (mO _ _) (ep_var rfl (mO _ _) (mO _ _ _ _ _ e4 r33)) (ea1 (mS _) (vST (e_tuple (vSL (ep_var rfl (mL _) (mL _ _ _ _ e4 pt))))) (ea_1 (mS _) (vSL (ep_var rfl (mL _) (mL _ _ _ _ e4 pf)))))))) (by rw [← ey])) fun vg H5 e5 pg => ?_
    have e45 := e4.trans e5
    refine q_if (et_isb (et_or (a := false) (b := false) (et_t (EvP.isB (e_neS (e_repr (ei_var rfl pg) sh) (e_repr (e_tuple (vSL (ep_var rfl (mL _) (mL _ _ _ _ e5 pw)))) sh)) (by rw [decide_eq_true rfl]; rfl))) fun _ => et_t (e_neW (EvP.is (ep_callKw (A := a4 (vS (falls.map dN)) (vS (told.map dN)) (vPap c p) (vNet c x)) (x, p, told, falls) wo (ea1 (mS _) (vST (e_tuple (vSL (ep_var rfl (mL _) (mL _ _ _ _ e45 pf))))) (ea1 (mS _) (vSL (ep_var rfl (mL _) (mL _ _ _ _ e45 pt))) (ea1 (mO _ _) (ep_var rfl (mO _ _) (mO _ _ _ _ _ e45 r33)) (ea_1 (mO _ _) (ep_var rfl (mO _ _) (mO _ _ _ _ _ e45 pe3)))))) fun vs G a => ?_) (by rw [← ey])) (ei_var rfl pg))) rfl) fun H6 e6 => ?_
    · obtain ⟨y1, y2, y3, y4, rfl, z1, z2, z3, z4⟩ := a4o a
      exact ⟨rfl, y4, _, rfl, z4, y3, _, rfl, z3, y2, _, rfl, z2, y1, _, rfl, z1, rfl⟩
    · have e46 := e45.trans e6
      have l6 := l3.up e46
      have qn6 := qn3.up e46
      have pg6 := pg.up e6
      have k06 : Kx h H H6 := k03.trans (Kx.of e46)
      refine q_forR (k := 6) (EvP.isI ec_i rfl) (by omega) fun H7 e7 => ⟨fun i σ' H' => ∃ o13 o14 o15 o16, σ' = [some (.ref h), some v1, some v2, some v3, some vn, some vs, some vk, some _, some ve, some vt, some vf, some vw, some vg, o13, o14, o15, o16, none] ∧ Kx h H6 H' ∧ LH h cc ds (n + x.n + x.n + i * 2) H', ⟨_, _, _, _, rfl, Kx.of e7, by rw [Nat.zero_mul]; exact l6.up e7⟩, ?_, ?_⟩
      · rintro i σ' H' hi ⟨o13, o14, o15, o16, rfl, kx, lh⟩
        have hm2 : n + x.n + x.n + (i + 1) * 2 = n + x.n + x.n + i * 2 + 1 + 1 := by omega
        have qn' := qn6.mv (l6.tx kx)
        have pg' := pg6.mv (l6.tx kx)
        refine q_parH (h := h) (c := cc) (ds := ds) (m := n + x.n + x.n + i * 2 + 1) (m2 := n + x.n + x.n + i * 2 + 1 + 1) (P := vB (2 ^ x.n)) (R := vB (2 ^ x.n)) (eh_sift (k := 2 ^ x.n) lh (by omega) p0 (by omega) (as_h1 rfl (e_shl1 (ei_var rfl qn') (by omega)))) (lB _) (fun H8 k8 l8 => eh_sift (k := 2 ^ x.n) l8 (by omega) p0 (by omega) (as_h1 rfl (e_shl1 (ei_var rfl (qn'.mv (lh.tx k8))) (by omega)))) fun va vb H8 k8 l8 pa pb => ?_
        obtain ⟨a, ha, rfl⟩ := pa
        obtain ⟨b, hb, rfl⟩ := pb
        have qn8 := qn'.mv (lh.tx k8)
        have pg8 := pg'.mv (lh.tx k8)
        have whole : ∀ {σ : L2.St} {G : Hp}, Ex H8 G → σ[4]? = some (some vn) → EvP (tTupZ (tCons (tOp (rI CPow fun i j => .int (i * 2 ^ j.toNat)) (tC (.int 1)) (tVar 4)) (tCons (tC (.int 0)) (tCons (tC (.int 0)) (tCons (tC (.int 0)) tNil))))) σ G (vI (am (((2 ^ x.n : Nat) : Int), 0, 0, 0))) := fun e z => ep_am (x := (((2 ^ x.n : Nat) : Int), 0, 0, 0)) (e_shl1 (ei_var z (qn8.up e)) (by omega)) ec_i ec_i ec_i
        have due : prodsA ys x.n a b = if a = b then (((2 ^ x.n : Nat) : Int), 0, 0, 0) else zeroA := by
          by_cases z : a = b
          · rw [if_pos z, z]
            exact g.like py
          · rw [if_neg z]
            exact g.unlike py lf ha hb z
        refine q_set (P := vI (am (if a = b then (((2 ^ x.n : Nat) : Int), 0, 0, 0) else zeroA))) (ep_if (b := decide (a = b)) (et_t (e_eqN (ei_var rfl (.int _)) (ei_var rfl (.int _)))) (fun z => ?_) fun z => ?_) fun vd H9 e9 pd => ?_
        · rw [if_pos (of_decide_eq_true z)]
          exact whole (Ex.refl _) rfl
        · rw [if_neg (of_decide_eq_false z)]
          exact ep_am (x := zeroA) ec_i ec_i ec_i ec_i
        · refine s_ifF (et_isb (et_or (a := false) (b := false) (et_t (e_neAm due (ep_callP (ys, x.n, a, b) ⟨by show x.n ≤ 8; omega, fun w m => (wf w m).len⟩ (ea1 (mI _) (ei_var rfl (pg8.up e9)) (ea1 (mI _) (ei_var rfl (qn8.up e9)) (ea1 (mI _) (ei_var rfl (.int _)) (ea_1 (mI _) (ei_var rfl (.int _))))))) (ei_var rfl pd))) fun _ => et_t (e_neAm (g.like (ka := a) py) (ep_callP (ys, x.n, a, a) ⟨by show x.n ≤ 8; omega, fun w m => (wf w m).len⟩ (ea1 (mI _) (ei_var rfl (pg8.up e9)) (ea1 (mI _) (ei_var rfl (qn8.up e9)) (ea1 (mI _) (ei_var rfl (.int _)) (ea_1 (mI _) (ei_var rfl (.int _))))))) (whole e9 rfl))) rfl) fun H10 e10 => ?_
          exact ⟨_, _, _, _, rfl, (kx.trans k8).trans (Kx.of (e9.trans e10)), ((l8.up e9).up e10).le (by omega)⟩
      · rintro σ' H' ⟨o13, o14, o15, o16, rfl, kx, lh⟩
        exact k H' (k06.trans kx) (lh.le (by omega))
theorem c_law_right (T : Txt K mg c) : CalG P w K mg base 9 "_law_right" (sp_law_right (c := c)) := (s_law_right_ok T).cal
end
end Lk
end

section
set_option Elab.async false
set_option linter.all false
set_option maxRecDepth 100000
set_option maxHeartbeats 4000000
namespace Lk
open PySem PySem.Spec PyProof.Rows L2 Evl PySem.W C8
local macro_rules | `(tactic| walk_at "ex") => `(tactic| first | exact Ex.refl _ | assumption | (refine Ex.trans (H1 := ?g) ?a ?b; (case a => assumption); (case b => walk_at "ex")))
local macro_rules | `(tactic| walk_at "im") => `(tactic| first | assumption | exact Im.int _ | exact Im.bl _ | (refine Im.up (H := ?g) ?a ?b; (case a => assumption); (case b => walk_at "ex")))
local macro_rules | `(tactic| walk_at "ev") => `(tactic| first
  | exact ec_i | exact ec_b | exact ec_s | exact ec_n
  | (refine ei_var rfl ?_; walk_at "im")
  | (refine eo ?_ ?_ <;> walk_at "ev")
  | (refine eoB ?_ ?_ <;> walk_at "ev")
  | (refine e_eqI ?_ ?_ <;> walk_at "ev")
  | (refine e_neI ?_ ?_ <;> walk_at "ev")
  | (refine eu ?_ <;> walk_at "ev")
  | (refine e_not ?_ <;> walk_at "ev"))

section
variable {P : Program} {w : World} {K : PySem.W.Frag} {mg : Str → Option Value} {base : Heap} {c : Cs}
theorem ways1 : sortD ((waysU net1 pap1 [3] [1]).map wayD) = [[(1, 1)], [(5, 0)]].map wayD := by
  have e : waysU net1 pap1 [3] [1] = [[(5, 0)], [(1, 1)]] := by decide +kernel
  have le1 : dataLe false wayD [(5, 0)] [(1, 1)] = false := by decide +kernel
  rw [e, sortD_map]
  refine congrArg (List.map wayD) ?_
  simp [List.mergeSort, List.MergeSort.Internal.splitInTwo, List.merge, le1]
section
variable {h c : Addr} {ds : List Int} {n m : Nat} {H : Hp} {σ : L2.St} {te ta tb : TE} {K : PySem.W.Frag}
theorem eh_lst1 {t : Nat} (e : EvH h c ds m te σ H (fun v _ => v = vN t)) : EvH h c ds m (tLst (tCons te tNil)) σ H (vL [dN t]) := fun Q q => e _ fun v H1 k1 l1 p => by
  subst p
  exact ⟨by show 1 ≤ sizeLine; decide, fun a ha => q _ _ (k1.trans (Kx.of (Ex.new ha))) (l1.up (Ex.new ha)) ⟨a, _, rfl, upd_same, .cons (.int _) .nil⟩⟩
theorem r_eqW {ys : List (List (Nat × Nat))} {x y : V} {Q : VK} (p : Im H x (.tuple (ys.map wayD))) (q : Im H y (.tuple (ys.map wayD))) (k : ∀ H', Q (.bl true) H') : rEqD K x y H Q := by
  obtain ⟨v, e1, w, e2, r⟩ := e_eqW (K := K) (σ := [some x, some y]) (ta := tVar 0) (tb := tVar 1) rfl (ei_var rfl p) (ei_var rfl q) H (Ex.refl _) Q fun v H2 _ b => by cases Im.isBl b; exact k H2
  cases e1
  cases e2
  exact r
end
def sp_law0 (K : PySem.W.Frag) : Sp := fun vs H Q _ => ∃ (a : Addr) (ns : List Int), vs = [.ref a] ∧ SqL K H a (ns.map V.int) ∧ ∀ H', Q (.bl true) H'
/-! ### law -/
abbrev sp_law : Sp := sp_law0 K
theorem s_law_ok (T : Txt K mg c) : CalGS c.prog w K mg base 18 "law" "law" s_law ["_law_script"] (sp_law (K := K)) := by
  have c_Lots := c_Lots (w := w) (base := base) T
  have c_Net := c_Net (P := c.prog) (w := w) (base := base) T
  have c_law_any_of := c_law_any_of (P := c.prog) (w := w) (base := base) T
  have c_law_heap := c_law_heap (P := c.prog) (w := w) (base := base) T
  have c_law_parts := c_law_parts (w := w) (base := base) T
  have c_law_right := c_law_right (P := c.prog) (w := w) (base := base) T
  have c_law_sift := c_law_sift (P := c.prog) (w := w) (base := base) T
  have c_ways_to := c_ways_to (P := c.prog) (w := w) (base := base) T
  refine mkCalG T.d_law sc_law (fun _ _ _ _ _ _ us hl => match us, hl with | [_], _ => rfl) (fun vs H Q E h => ?_) (fun f cdv A outer s H vs Q E gd hr h => ?_)
  · obtain ⟨a, ns, rfl, _⟩ := h; rfl
  · have hu := hu_of hr
    obtain ⟨a, ns, rfl, hS, k⟩ := h
    refine ⟨_, pss_cons (ps_set (i := 1) sc_law.nd rfl (Or.inl rfl) (pe_c c_law_heap hr (by decide) (by rfl) (pa_cons (pv 0) (pa_nil))))
      (pss_cons (ps_for PassesOwn.never rfl (pi_range1 (by rfl) T.b_range (pa_cons (pe_int) (pa_nil))) (pg_name (i := 2) sc_law.nd rfl (Or.inl rfl))
      (pss_cons (ps_asg (pe_c c_law_parts hr (by decide) (by rfl) (pa_cons (pv 1) (pa_cons (pe_c c_law_any_of hr (by decide) (by rfl) (pa_cons (pv 1) (pa_cons (pe_lst (pa_cons (pe_int) (pa_cons (pe_int) (pa_cons (pe_int) (pa_cons (pe_int) (pa_nil)))))) (pa_nil)))) (pa_nil)))) (pg_tupK K (n := 3) rfl (pgs_cons (pg_name (i := 3) sc_law.nd rfl (Or.inl rfl)) (pgs_cons (pg_name (i := 4) sc_law.nd rfl (Or.inl rfl)) (pgs_cons (pg_name (i := 5) sc_law.nd rfl (Or.inl rfl)) (pgs_nil))))))
      (pss_one (ps_if (pt_not (pt_val (pe_cG c_law_right gd hr (by decide) (by rfl) (pa_cons (pv 1) (pa_cons (pv 3) (pa_cons (pv 4) (pa_cons (pv 5) (pa_nil)))))))) (pss_one (ps_ret (pe_bl))) (pss_nil)))))
      (pss_cons (ps_set (i := 6) sc_law.nd rfl (Or.inl rfl) (pe_mk c_Net hr (by decide) (by rfl) (pa_cons (pe_int) (pa_cons (pe_lst (pa_nil)) (pa_cons (pe_lst (pa_nil)) (pa_cons (pe_lst (pa_cons (pe_int) (pa_nil))) (pa_cons (pe_lst (pa_nil)) (pa_nil))))))))
      (pss_one (ps_ret (pe_cmpR (op_eqDK K hr.units) (pe_c c_ways_to hr (by decide) (by rfl) (pa_cons (pv 6) (pa_cons (pe_mkR c_Lots hr (by decide) (by rfl) (pa_cons (pe_lst (pa_nil)) (pa_cons (pe_lst (pa_nil)) (pa_nil)))) (pa_cons (pe_lst (pa_cons (pe_op op_add (pe_c c_law_sift hr (by decide) (by rfl) (pa_cons (pv 1) (pa_cons (pe_int) (pa_nil)))) (pe_int)) (pa_nil))) (pa_cons (pe_lst (pa_cons (pe_int) (pa_nil))) (pa_nil)))))) (pe_tupZ (pa_cons (pe_tupZ (pa_cons (pe_tupZ (pa_cons (pe_int) (pa_cons (pe_int) (pa_nil)))) (pa_nil))) (pa_cons (pe_tupZ (pa_cons (pe_tupZ (pa_cons (pe_int) (pa_cons (pe_int) (pa_nil)))) (pa_nil))) (pa_nil)))) (nomark _)))))), ?_⟩
    refine q_set (P := fun v H => ∃ h c, v = .ref h ∧ LH h c (ns.take 60) 0 H) (ep_callF ns (ea_1 (mLK _) (ep_var rfl (mLK _) ⟨a, _, rfl, hS, imInts ns⟩))) fun vh H1 e1 ph => ?_
    obtain ⟨h, cc, rfl, l1⟩ := ph
    generalize ns.take 60 = ds at l1
    refine q_forR (k := 3) (EvP.isI ec_i rfl) (by omega) fun H2 e2 => ⟨fun i σ' H' => ∃ o2 o3 o4 o5, σ' = [some (.ref a), some (.ref h), o2, o3, o4, o5, none] ∧ LH h cc ds (i * 2000) H', ⟨_, _, _, _, rfl, by rw [Nat.zero_mul]; exact l1.up e2⟩, ?_, ?_⟩
    · rintro i σ' H' hi ⟨o2, o3, o4, o5, rfl, lh⟩
      refine ⟨.ref h, rfl, .ref h, rfl, ep_lst (ds := [2, 3, 4, 4].map dN) (ea_cons ec_i (ea_cons ec_i (ea_cons ec_i (ea_cons ec_i ea_nil)))) (by show 4 ≤ 100000; omega) H' (Ex.refl _) _ fun vl H3 e3 pl => ⟨h, cc, ds, i * 2000, [2, 3, 4, 4], vl, rfl, lh.up e3, pl, by decide, by decide, by omega, fun t H4 mt k4 l4 => ?_⟩⟩
      have ht : 2 ≤ t ∧ t ≤ 4 := by
        simp at mt
        omega
      refine ⟨h, cc, ds, i * 2000 + 1, t, rfl, l4, ht.1, ht.2, by omega, fun x p v H5 g k5 l5 p5 => ?_⟩
      obtain ⟨q, y1, y2, y3, rfl, hl, h1, h2, h3⟩ := p5
      refine ⟨q, [y1, y2, y3], rfl, hl.sq, rfl, y1, _, rfl, y2, _, rfl, y3, _, rfl, rfl, ?_⟩
      refine ⟨.ref h, rfl, y1, rfl, y2, rfl, y3, rfl, h, cc, ds, i * 2000 + 1 + 1000, x, p, y1, y2, y3, rfl, l5, by omega, g, h1, h2, h3, fun H6 k6 l6 => ⟨true, rfl, ?_⟩⟩
      have fin : ∃ p2 p3 p4 p5, ([some (.ref a), some (.ref h), some (vN i), some y1, some y2, some y3, none] : L2.St) = [some (.ref a), some (.ref h), p2, p3, p4, p5, none] ∧ LH h cc ds ((i + 1) * 2000) H6 := ⟨_, _, _, _, rfl, l6.le (by omega)⟩
      exact fin
    · rintro σ' H' ⟨o2, o3, o4, o5, rfl, lh⟩
      refine q_set (P := vNet c net1) (e_net (x := net1) good1.ok (EvP.isI ec_i rfl) (EvP.imp ep_nilF fun v H1 _ p => vF_L p) (EvP.imp ep_nilF fun v H1 _ p => vF_L p) (ep_lst (ds := [dN 0]) (ea_cons ec_i ea_nil) (by show 1 ≤ 100000; omega)) (EvP.imp ep_nilF fun v H1 _ p => vF_L p)) fun vn H3 e3 pn => ?_
      refine ⟨vn, rfl, ep_mkR (PyData.list [], PyData.list []) ⟨okD_list (Nat.zero_le _) (fun d m => nomatch m), okD_list (Nat.zero_le _) (fun d m => nomatch m)⟩ (ea1 (mM _) (ep_lstM ea_nilM (Nat.zero_le _)) (ea_1 (mM _) (ep_lstM ea_nilM (Nat.zero_le _)))) (a2mono (mM _) (mM _)) H3 (Ex.refl _) _ fun vp H4 e4 pp => ?_⟩
      have l4 := (lh.up e3).up e4
      have pp : vPap c pap1 vp H4 := by
        have p : vO c.lots (lotsF (.list [], .list [])) vp H4 := pp
        have z : fixD (.list []) = .tuple [] := by simp [fixD, fixD.fixDs]
        unfold lotsF at p
        dsimp only at p
        rw [z] at p
        exact p
      refine eh_lst1 (h := h) (c := cc) (ds := ds) (m := 3 * 2000 + 1) (t := 3) (eh_op (m := 3 * 2000 + 1) (P := vB 1) (R := vI (.int 3)) l4 (eh_sift (k := 1) l4 (by omega) (by omega) (by omega) (as_h1 rfl ec_i)) (lB 1) (fun H5 k5 l5 => .of l5 ec_i) fun x y H5 k5 l5 px py Q1 q1 => ?_) _ fun vt H5 k5 l5 pt => ?_
      · obtain ⟨r, hr, rfl⟩ := px
        cases Im.isInt py
        obtain rfl : r = 0 := by omega
        exact ⟨0, 3, rfl, rfl, q1 _ _ (Ex.refl _) rfl⟩
      · refine ep_lst (ds := [dN 1]) (ea_cons ec_i ea_nil) (by show 1 ≤ 100000; omega) H5 (Ex.refl _) _ fun vf H6 e6 pf => ?_
        refine ⟨(net1, pap1, [3], [1]), good1.ways rfl rfl (by decide) (by decide), ⟨_, _, rfl, mO _ _ _ _ _ e6 (lO _ _ l4 k5 (mO _ _ _ _ _ e4 pn)), _, _, rfl, mO _ _ _ _ _ e6 (lO _ _ l4 k5 pp), _, _, rfl, vS_L (mL _ _ _ _ e6 pt), _, _, rfl, vS_L pf, rfl⟩, fun vw H7 e7 pw => ?_⟩
        have pw : Im H7 vw (.tuple ([[(1, 1)], [(5, 0)]].map wayD)) := by
          rw [← ways1]
          exact pw
        exact ep_tup (ds := [wayD [(1, 1)], wayD [(5, 0)]]) (ea_cons (ep_tup (ds := [pD (1, 1)]) (ea_cons (ep_tup (ds := [dN 1, dN 1]) (ea_cons ec_i (ea_cons ec_i ea_nil)) (by show 2 ≤ 100000; omega)) ea_nil) (by show 1 ≤ 100000; omega)) (ea_cons (ep_tup (ds := [pD (5, 0)]) (ea_cons (ep_tup (ds := [dN 5, dN 0]) (ea_cons ec_i (ea_cons ec_i ea_nil)) (by show 2 ≤ 100000; omega)) ea_nil) (by show 1 ≤ 100000; omega)) ea_nil)) (by show 2 ≤ 100000; omega) H7 (Ex.refl _) _ fun y H8 e8 py => r_eqW (pw.up e8) py fun H' => k H'
theorem c_law (T : Txt K mg c) : CalG c.prog w K mg base 18 "law" (sp_law (K := K)) := (s_law_ok T).cal
end
end Lk
end

set_option Elab.async false
set_option linter.all false
set_option maxRecDepth 100000
set_option maxHeartbeats 0
/-! The end. -/
namespace Lk
open PySem PySem.Spec PyProof.Rows L2 Evl PySem.W C8
theorem law_end {K : PySem.W.Frag} {mg : Str → Option Value} {c : Cs} {fa : Addr} (T : Txt K mg c) (hm : mg "law" = some (.ref fa)) : ∃ fd : FuncData, (∀ (s : Shared) (u : Value), BindsTo s fd ⟨[u], []⟩ [("_law_script", u)]) ∧ ∀ (w : World) (base : Heap), FnG c.prog w K mg base 18 fa fd ["_law_script"] (sp_law0 K) := by
  obtain ⟨f, fd, F, m⟩ := T.d_law.ex
  cases m.symm.trans hm
  refine ⟨fd, fun s u => F.bindsA (ps := ["_law_script"]) (fun _ _ _ _ _ _ us hl => match us, hl with | [_], _ => rfl) s [u] rfl, fun w base => ?_⟩
  obtain ⟨f2, fd2, F2, m2, _, G⟩ := (s_law_ok (w := w) (base := base) T).ex
  cases m2.symm.trans m
  have e : fd2 = fd := by
    obtain ⟨_, _, _, _, _, _, _, _, _, _, _, lk, _⟩ := F.ex
    obtain ⟨_, _, _, _, _, _, _, _, _, _, _, lk2, _⟩ := F2.ex
    have z := lk2.symm.trans lk
    injection z with z
    injection z with _ _ z _
    injection z with z
  exact e ▸ G
end Lk
open PySem PySem.W PySem.Calls PyProof.Rows
theorem PySem.Challenge.cw_lookmade_k63_whole_nothing_to_learn_of_w_holds : PySem.Challenge.rw_lookmade_k63_whole_nothing_to_learn_of_w.Holds := by
  w_on; o_law
  refine HandSHeadRun.head_any (r := Lk.RowO) (q := view Lk.RowO.prog [104]) (H := Lk.hkZ) (ob := Lk.obZ) (M := 20000) (loose := Lk.looseN) (d := HandSHeadRun.topDef Lk.RowO.prog 104) (kwd := []) Lk.obZ_eq (by kernel_rfl) (fun s => by kernel_rfl) Lk.runZ (by kernel_rfl) (by kernel_rfl) (by kernel_rfl) (by rfl) (by first | assumption | decide +kernel) (by decide +kernel) ⟨rfl, rfl, rfl, rfl, rfl, by decide +kernel⟩ ?hw ?hc
  case hw => w_witness2
  case hc =>
    refine Lk.walk_ofG (l := PySem.Challenge.rw_lookmade_k63_whole_nothing_to_learn_of_w) (n := 63) (k := 18) (x := "_law_script") rfl (by decide) (by kernel_rfl) ⟨rfl, by decide, by decide⟩ ?F
    intro w mg fa h Y G hmg0
    obtain ⟨K, KX, c⟩ := Y
    have hmg : mg ("law" : PySem.Str) = some (.ref fa) := by
      have e : (HandSHeadRun.topDef Lk.RowO.prog 104).name = ("law" : PySem.Str) := by kernel_rfl
      rw [← e]
      exact hmg0
    obtain ⟨fd, hb, hF⟩ := Lk.law_end (Lk.txt_of KX G c) hmg
    exact ⟨K, fd, Lk.sp_law0 K, KX, hb, fun H a ns hl _ hS => ⟨a, ns, rfl, hS, fun _ => rfl⟩, fun base _ _ => hF w base⟩
