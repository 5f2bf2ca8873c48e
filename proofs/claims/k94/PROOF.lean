import PyProof.Rows.All
import Wide.All
import OpenK.AllK
import Wide.FinOn
import HandS.Base
import HandS.Call
import HandS.List
import HandS.Comp
import HandS.Deep
import HandS.Words
import KE.DataEq
import KE.DataAny
import KE.DataFind
import KE.DataCmp
import KE.DataIsa
import KE.DataMinMax
import KE.SortData
import HandS.Lambda
import HandS.TupAny
import HandS.TupMul
import HandS.Conv
import HandS.Wide
import HandS.Style
import HandS.Flow
import HandS.IsInst
import HandS.Iter
import HandS.Zip
import HandS.Defaults
import OpenK.KMore
import HandS.TryOnly
import KE.KNest
import HandS.Set
import HandS.SetFor
import PyProof.ReprReads
import PyProof.Rows.NestShow
import HandS.EndBits
import HandS.EndTab
import HandS.HeadHook4
import KE.KNestM
import HandS.Dict
import KE.GoesMore
import KE.GoesEnum
import PyProof.EnumMake
import HandS.ExcCtx
import HandS.SuiteRaise
import HandS.ExcIs
import HandS.TupSets
import PySem.Challenge.RW_pairsled_k94_whole_alike_papers
import HandS.Keys
import HandS.Head0
import HandS.Head1
import HandS.Head2
import HandS.HeadEnd
set_option Elab.async false
set_option linter.all false
set_option autoImplicit false
set_option maxRecDepth 100000
set_option maxHeartbeats 2000000
namespace Ev
open PySem PySem.Spec PyProof.Rows L2

/-! ### the monad of mirrors: a value, nothing, or a draw below n -/
inductive M (α : Type) where
  | ok (a : α)
  | err
  | draw (n : Int) (k : Int → M α)
namespace M
def bind {α β : Type} : M α → (α → M β) → M β
  | .ok a, f => f a
  | .err, _ => .err
  | .draw n k, f => .draw n fun d => (k d).bind f
instance : Monad M where
  pure := .ok
  bind := M.bind
def Sat {α : Type} : M α → (α → Prop) → Prop
  | .ok a, Q => Q a
  | .err, _ => False
  | .draw n k, Q => 0 < n ∧ ∀ d, 0 ≤ d → d < n → (k d).Sat Q
theorem sat_bind {α β : Type} {f : α → M β} {Q : β → Prop} : ∀ {m : M α}, (m.bind f).Sat Q ↔ m.Sat fun a => (f a).Sat Q
  | .ok _ => Iff.rfl
  | .err => Iff.rfl
  | .draw n k => by
    refine ⟨fun h => ⟨h.1, fun d h0 h1 => sat_bind.mp (h.2 d h0 h1)⟩, fun h => ⟨h.1, fun d h0 h1 => sat_bind.mpr (h.2 d h0 h1)⟩⟩
theorem Sat.mono {α : Type} {Q Q' : α → Prop} (h : ∀ a, Q a → Q' a) : ∀ {m : M α}, m.Sat Q → m.Sat Q'
  | .ok _, q => h _ q
  | .err, q => q
  | .draw _ _, q => ⟨q.1, fun d h0 h1 => Sat.mono h (q.2 d h0 h1)⟩
theorem bind_ok {α : Type} : ∀ m : M α, m.bind .ok = m
  | .ok _ => rfl
  | .err => rfl
  | .draw n k => by show M.draw n _ = _; congr 1; funext d; exact bind_ok (k d)
theorem bind_assoc {α β γ : Type} {f : α → M β} {g : β → M γ} : ∀ m : M α, (m.bind f).bind g = m.bind fun a => (f a).bind g
  | .ok _ => rfl
  | .err => rfl
  | .draw n k => by show M.draw n _ = M.draw n _; congr 1; funext d; exact bind_assoc (k d)
end M

/-! ### data in a part of the heap -/
def notTbl : HO → Prop
  | .tbl _ => False
  | _ => True
/-- h is kept in h' (tables may grow) -/
def Kp (h h' : Hp) : Prop := ∀ a o, h a = some o → notTbl o → h' a = some o
theorem Kp.refl (h : Hp) : Kp h h := fun _ _ e _ => e
theorem Kp.trans {h h1 h2 : Hp} (a : Kp h h1) (b : Kp h1 h2) : Kp h h2 := fun c o e n => b c o (a c o e n) n
section
variable {K : PySem.W.Frag} {h h' : Hp} {a : Addr} {xs : List V}
theorem kp_rd (k : Kp h h') {u : HO} (n : notTbl u) (r : Rd h a u) : Rd h' a u := by
  rcases r with r | ⟨o, r⟩
  · exact .inl (k _ _ r n)
  · exact .inr ⟨o, k _ _ r trivial⟩
theorem kp_sql (k : Kp h h') (r : SqL K h a xs) : SqL K h' a xs := by
  rcases r with r | r
  · exact .inl (kp_rd k trivial r)
  · exact .inr r
theorem kp_sqt (k : Kp h h') (r : SqT K h a xs) : SqT K h' a xs := by
  rcases r with r | r
  · exact .inl (kp_rd k trivial r)
  · exact .inr r
end
/-! ### data in a heap: lists are the call's own; tuples may be the module's; the empty dict -/
mutual
inductive Rp (K : PySem.W.Frag) (h : Hp) : V → PyData → Prop
  | non : Rp K h .non .none
  | bl (b : Bool) : Rp K h (.bl b) (.bool b)
  | int (i : Int) : Rp K h (.int i) (.int i)
  | str (x : Str) : Rp K h (.str x) (.str x)
  | lst {a : Addr} {xs : List V} {ds : List PyData} : h a = some (.lst xs) → RpAll K h xs ds → Rp K h (.ref a) (.list ds)
  | tup {a : Addr} {xs : List V} {ds : List PyData} : SqT K h a xs → RpAll K h xs ds → Rp K h (.ref a) (.tuple ds)
  | dk0 {a : Addr} : h a = some (.dK []) → Rp K h (.ref a) (.dict [])
inductive RpAll (K : PySem.W.Frag) (h : Hp) : List V → List PyData → Prop
  | nil : RpAll K h [] []
  | cons {v : V} {vs : List V} {d : PyData} {ds : List PyData} : Rp K h v d → RpAll K h vs ds → RpAll K h (v :: vs) (d :: ds)
end
section
variable {K : PySem.W.Frag} {h h' : Hp} {a : Addr} {xs : List V}
mutual
theorem rp_mono (k : Kp h h') : ∀ {v : V} {d : PyData}, Rp K h v d → Rp K h' v d
  | _, _, .non => .non
  | _, _, .bl b => .bl b
  | _, _, .int i => .int i
  | _, _, .str x => .str x
  | _, _, .lst q r => .lst (k _ _ q trivial) (rpAll_mono k r)
  | _, _, .tup q r => .tup (kp_sqt k q) (rpAll_mono k r)
  | _, _, .dk0 q => .dk0 (k _ _ q trivial)
theorem rpAll_mono (k : Kp h h') : ∀ {vs : List V} {ds : List PyData}, RpAll K h vs ds → RpAll K h' vs ds
  | _, _, .nil => .nil
  | _, _, .cons q r => .cons (rp_mono k q) (rpAll_mono k r)
end
mutual
theorem rp_dp (k : Kp h h') : ∀ {v : V} {d : PyData}, Rp K h v d → d.plain = true → Dp K h' v d
  | _, _, .non, _ => .non
  | _, _, .bl b, _ => .bl b
  | _, _, .int i, _ => .int i
  | _, _, .str x, _ => .str x
  | _, _, .lst q r, p => .lst (SqL.of (k _ _ q trivial)) (rpAll_dp k r p)
  | _, _, .tup q r, p => .tup (kp_sqt k q) (rpAll_dp k r p)
  | _, _, .dk0 q, p => by cases p
theorem rpAll_dp (k : Kp h h') : ∀ {vs : List V} {ds : List PyData}, RpAll K h vs ds → PyData.plainAll ds = true → DpAll K h' vs ds
  | _, _, .nil, _ => .nil
  | _, _, .cons q r, p => by
    obtain ⟨p1, p2⟩ := Bool.and_eq_true_iff.mp (show (PyData.plain _ && PyData.plainAll _) = true from p)
    exact .cons (rp_dp k q p1) (rpAll_dp k r p2)
end
theorem rpAll_length : ∀ {vs : List V} {ds : List PyData}, RpAll K h vs ds → vs.length = ds.length
  | _, _, .nil => rfl
  | _, _, .cons _ r => by rw [List.length_cons, List.length_cons, rpAll_length r]
theorem rpAll_append : ∀ {vs ws : List V} {ds es : List PyData}, RpAll K h vs ds → RpAll K h ws es → RpAll K h (vs ++ ws) (ds ++ es)
  | _, _, _, _, .nil, s => s
  | _, _, _, _, .cons q r, s => .cons q (rpAll_append r s)
theorem rpAll_get : ∀ {vs : List V} {ds : List PyData} {i : Nat} {v : V}, RpAll K h vs ds → vs[i]? = some v → ∃ d, ds[i]? = some d ∧ Rp K h v d
  | _, _, _, _, .nil, e => by simp at e
  | _, _, 0, _, .cons q _, e => by simp at e; subst e; exact ⟨_, rfl, q⟩
  | _, _, i + 1, _, .cons _ r, e => by
    obtain ⟨d, h1, h2⟩ := rpAll_get (i := i) r (by simpa using e)
    exact ⟨d, by simpa using h1, h2⟩
theorem rpAll_get' {vs : List V} {ds : List PyData} {i : Nat} {d : PyData} (r : RpAll K h vs ds) (e : ds[i]? = some d) : ∃ v, vs[i]? = some v ∧ Rp K h v d := by
  have hl := rpAll_length r
  have hi : i < vs.length := by rw [hl]; exact (List.getElem?_eq_some_iff.mp e).1
  obtain ⟨d', h1, h2⟩ := rpAll_get (i := i) (v := vs[i]) r (by simp [hi])
  rw [e] at h1; cases h1
  exact ⟨_, by simp [hi], h2⟩
theorem rpAll_set {v : V} {d : PyData} (q : Rp K h v d) : ∀ {vs : List V} {ds : List PyData} (i : Nat), RpAll K h vs ds → RpAll K h (vs.set i v) (ds.set i d)
  | _, _, _, .nil => .nil
  | _, _, 0, .cons _ r => .cons q r
  | _, _, i + 1, .cons p r => .cons p (rpAll_set q i r)
theorem rpAll_take : ∀ {vs : List V} {ds : List PyData} (n : Nat), RpAll K h vs ds → RpAll K h (vs.take n) (ds.take n)
  | _, _, 0, _ => .nil
  | _, _, _ + 1, .nil => .nil
  | _, _, n + 1, .cons q r => .cons q (rpAll_take n r)
theorem rpAll_drop : ∀ {vs : List V} {ds : List PyData} (n : Nat), RpAll K h vs ds → RpAll K h (vs.drop n) (ds.drop n)
  | _, _, 0, r => r
  | _, _, _ + 1, .nil => .nil
  | _, _, n + 1, .cons _ r => rpAll_drop n r
theorem rpAll_eraseIdx : ∀ {vs : List V} {ds : List PyData} (n : Nat), RpAll K h vs ds → RpAll K h (vs.eraseIdx n) (ds.eraseIdx n)
  | _, _, _, .nil => .nil
  | _, _, 0, .cons _ r => r
  | _, _, n + 1, .cons q r => .cons q (rpAll_eraseIdx n r)
end

/-! ### keys and values of a dict -/
def kD : Key → PyData
  | .inl i => .int i
  | .inr x => .str x
def RpKv (K : PySem.W.Frag) (h : Hp) : List (Key × V) → List (PyData × PyData) → Prop
  | [], [] => True
  | p :: r, q :: t => q.1 = kD p.1 ∧ Rp K h p.2 q.2 ∧ RpKv K h r t
  | _, _ => False
theorem rpKv_mono {K : PySem.W.Frag} {h h' : Hp} (k : Kp h h') : ∀ {kvs : List (Key × V)} {es : List (PyData × PyData)}, RpKv K h kvs es → RpKv K h' kvs es
  | [], [], _ => trivial
  | _ :: _, _ :: _, q => ⟨q.1, rp_mono k q.2.1, rpKv_mono k q.2.2⟩
  | [], _ :: _, q => q.elim
  | _ :: _, [], q => q.elim
/-! ### pots, what is protected -/
/-- a pot: a list of two ints -/
def PotAt (H : Hp) (a : Addr) : Prop := ∃ x y : Int, H a = some (.lst [.int x, .int y]) ∧ 0 ≤ x ∧ 0 ≤ y ∧ y < 4611686018427387904
/-- the heap without what is protected -/
def msk (O : List Addr) (H : Hp) : Hp := fun a => if a ∈ O then none else H a
theorem msk_in {O : List Addr} {H : Hp} {a : Addr} (h : a ∈ O) : msk O H a = none := if_pos h
theorem msk_out {O : List Addr} {H : Hp} {a : Addr} (h : a ∉ O) : msk O H a = H a := if_neg h
theorem msk_some {O : List Addr} {H : Hp} {a : Addr} {o : HO} (h : msk O H a = some o) : a ∉ O ∧ H a = some o := by
  unfold msk at h
  split at h
  · cases h
  · exact ⟨by assumption, h⟩
/-- nothing stands at a (a table of code objects may) -/
def Fr0 (H : Hp) (a : Addr) : Prop := ∀ o, H a = some o → ¬ notTbl o
theorem Fr0.of {H : Hp} {a : Addr} (h : H a = none) : Fr0 H a := fun o e => by rw [h] at e; cases e
theorem Fr0.ne {H : Hp} {a b : Addr} {o : HO} (h : Fr0 H a) (e : H b = some o) (t : notTbl o) : b ≠ a := fun z => h o (z ▸ e) t
/-- lists and dicts may be one's own -/
def OwnO : HO → Prop
  | .lst _ => True
  | .dK _ => True
  | .dT _ => True
  | _ => False
theorem ownO_tbl {o : HO} (h : OwnO o) : notTbl o := by
  cases o <;> first | trivial | exact h.elim
theorem tab_upd {H : Hp} {p a : Addr} {q : Str} {o : HO} (t : LamX.TabS H p q) (h : ∀ u, H a = some u → OwnO u) : LamX.TabS (upd H a o) p q := by
  obtain ⟨ps, h1, h2, h3⟩ := t
  have n1 : p ≠ a := fun e => by
    subst e
    exact (h _ h1).elim
  refine ⟨ps, by rw [upd_ne n1]; exact h1, h2, fun pos cv hc => ?_⟩
  obtain ⟨c, e1, e2⟩ := h3 pos cv hc
  refine ⟨c, e1, ?_⟩
  rw [upd_ne fun e => ?_]
  · exact e2
  · subst e
    have z := h _ e2
    unfold LamX.CodeO at z
    exact z.elim
/-- all is kept but what the pots P hold, which stay pots -/
structure Ext (T : List (Addr × Str)) (P : List Addr) (H H' : Hp) : Prop where
  keep : ∀ a o, H a = some o → a ∉ P → notTbl o → H' a = some o
  pots : ∀ a ∈ P, PotAt H a → PotAt H' a
  dom : ∀ a o, H a = some o → notTbl o → ∃ o', H' a = some o' ∧ notTbl o'
  tab : LamX.Tabs T H → LamX.Tabs T H'
section
variable {T : List (Addr × Str)} {P O : List Addr} {H H1 H2 : Hp}
theorem Ext.refl : Ext T P H H := ⟨fun _ _ e _ _ => e, fun _ _ e => e, fun _ o e t => ⟨o, e, t⟩, fun t => t⟩
theorem Ext.trans (a : Ext T P H H1) (b : Ext T P H1 H2) : Ext T P H H2 :=
  ⟨fun c o e n t => b.keep c o (a.keep c o e n t) n t, fun c m e => b.pots c m (a.pots c m e), fun c o e t => let ⟨_, e1, t1⟩ := a.dom c o e t; b.dom c _ e1 t1, fun t => b.tab (a.tab t)⟩
structure Wf (P O : List Addr) (H : Hp) : Prop where
  pots : ∀ a ∈ P, a ∈ O ∧ PotAt H a
  occ : ∀ a ∈ O, ∃ o, H a = some o ∧ OwnO o
theorem Wf.ext (w : Wf P O H) (e : Ext T P H H1) : Wf P O H1 :=
  ⟨fun a m => ⟨(w.pots a m).1, e.pots a m (w.pots a m).2⟩, fun a m => by
    by_cases hp : a ∈ P
    · obtain ⟨x, y, q, _⟩ := e.pots a hp (w.pots a hp).2
      exact ⟨_, q, trivial⟩
    · obtain ⟨xs, q, t⟩ := w.occ a m
      exact ⟨xs, e.keep a _ q hp (ownO_tbl t), t⟩⟩
theorem Wf.fresh (w : Wf P O H) {a : Addr} (h : H a = none) : a ∉ O := fun m => by
  obtain ⟨o, q, _⟩ := w.occ a m
  rw [h] at q; cases q
theorem Wf.freshF (w : Wf P O H) {a : Addr} (h : Fr0 H a) : a ∉ O := fun m => by
  obtain ⟨xs, q, t⟩ := w.occ a m
  exact h _ q (ownO_tbl t)
theorem Wf.freshP (w : Wf P O H) {a : Addr} (h : H a = none) : a ∉ P := fun m => w.fresh h (w.pots a m).1
theorem Ext.kp (w : Wf P O H) (e : Ext T P H H1) : Kp (msk O H) (msk O H1) := fun a o q t => by
  obtain ⟨h1, h2⟩ := msk_some q
  rw [msk_out h1]
  exact e.keep a o h2 (fun m => h1 (w.pots a m).1) t
/-- a new object -/
theorem Ext.new {a : Addr} {o : HO} (h : H a = none) : Ext T P H (upd H a o) :=
  ⟨fun b u e _ _ => by rw [upd_ne (ne_of_none e h)]; exact e, fun b _ e => by
    obtain ⟨x, y, q, r⟩ := e
    exact ⟨x, y, by rw [upd_ne (ne_of_none q h)]; exact q, r⟩, fun b u e t => ⟨u, by rw [upd_ne (ne_of_none e h)]; exact e, t⟩, fun t p m => tab_upd (t p m) fun u e => by rw [h] at e; cases e⟩
theorem msk_upd {a : Addr} {o : HO} (h : a ∉ O) : msk O (upd H a o) a = some o := by rw [msk_out h, upd_same]
end

/-! ### the static part -/
structure Glb where
  P : Program
  w : World
  K : PySem.W.Frag
  mg : Str → Option Value
  base : Heap
  T : List (Addr × Str)
/-- a lambda's object, callable wherever h is kept: data in, data out -/
def CloOk (G : Glb) (k : Nat) (h : Hp) (a : Addr) (f : List PyData → M PyData) : Prop :=
  (∃ (o : Obj) (u : HO) (fd : FuncData), h a = some (.frz o u) ∧ o.data = .func fd ∧ o.cls = .type "function") ∧
  ∀ (A : Around) (outer : List PySem.Env) (s : Shared) (H : Hp) (P O : List Addr) (us : List Value) (vs : List V) (ds : List PyData) (Q : VK),
    Room k A → A.guards = some [] → Env0 G.P G.w G.K G.mg G.base A outer s H → Wf P O H → LamX.Tabs G.T H → Kp h (msk O H) → Vals vs us → RpAll G.K (msk O H) vs ds →
    ((f ds).Sat fun d => ∀ v H', Ext G.T P H H' → Rp G.K (msk O H') v d → Q v H') →
    codeAny (model G.P G.w) A (.call (.ref a) ⟨us, []⟩) (CR CX0 outer G.P G.w H s Q E0) s
theorem CloOk.mono {G : Glb} {k : Nat} {h h' : Hp} {a : Addr} {f : List PyData → M PyData} (c : CloOk G k h a f) (e : Kp h h') : CloOk G k h' a f := by
  obtain ⟨⟨o, u, fd, h1, h2⟩, h3⟩ := c
  exact ⟨⟨o, u, fd, e _ _ h1 trivial, h2⟩, fun A outer s H P O us vs ds Q hr hgu he hw ht hk => h3 A outer s H P O us vs ds Q hr hgu he hw ht (e.trans hk)⟩

/-! ### slots -/
/-- values: data; a pot; the script; a lambda -/
inductive AV where
  | d (x : PyData)
  | p
  | s (ns : List Int)
  | c (k : Nat) (f : List PyData → M PyData)
/-- what is told of a slot: nothing; a value; a list of the frame's own -/
inductive Slot where
  | un
  | v (a : AV)
  | own (d : PyData)
abbrev Slot.ow (ds : List PyData) : Slot := .own (.list ds)
abbrev Slots := List Slot
abbrev dS (x : PyData) : Slot := .v (.d x)
def RelA (G : Glb) (P O : List Addr) (H : Hp) (v : V) : AV → Prop
  | .d x => Rp G.K (msk O H) v x
  | .p => ∃ a ∈ P, v = .ref a
  | .s ns => ∃ a, v = .ref a ∧ SqL G.K (msk O H) a (ns.map V.int)
  | .c k f => ∃ a, v = .ref a ∧ CloOk G k (msk O H) a f
def SlotOk (G : Glb) (P O : List Addr) (H : Hp) (v : Option (Option V)) : Slot → Prop
  | .un => True
  | .v a => ∃ x, v = some (some x) ∧ RelA G P O H x a
  | .own d => match d with
    | .list ds => ∃ a vs, v = some (some (.ref a)) ∧ a ∈ O ∧ a ∉ P ∧ H a = some (.lst vs) ∧ RpAll G.K (msk O H) vs ds
    | .dict es => ∃ a kvs, v = some (some (.ref a)) ∧ a ∈ O ∧ a ∉ P ∧ H a = some (.dK kvs) ∧ RpKv G.K (msk O H) kvs es
    | _ => False
/-- what an own slot's object holds -/
def OwnC (G : Glb) (O : List Addr) (H : Hp) (a : Addr) : PyData → Prop
  | .list ds => ∃ vs, H a = some (.lst vs) ∧ RpAll G.K (msk O H) vs ds
  | .dict es => ∃ kvs, H a = some (.dK kvs) ∧ RpKv G.K (msk O H) kvs es
  | _ => False
theorem ownC_slot {G : Glb} {P O : List Addr} {H : Hp} {v : Option (Option V)} {a : Addr} {d : PyData} (hv : v = some (some (.ref a))) (h1 : a ∈ O) (h2 : a ∉ P) (h : OwnC G O H a d) : SlotOk G P O H v (.own d) := by
  cases d with
  | list ds => obtain ⟨vs, h3, h4⟩ := h; exact ⟨a, vs, hv, h1, h2, h3, h4⟩
  | dict es => obtain ⟨vs, h3, h4⟩ := h; exact ⟨a, vs, hv, h1, h2, h3, h4⟩
  | _ => exact h.elim
theorem slot_ownC {G : Glb} {P O : List Addr} {H : Hp} {v : Option (Option V)} {d : PyData} (h : SlotOk G P O H v (.own d)) : ∃ a, v = some (some (.ref a)) ∧ a ∈ O ∧ a ∉ P ∧ OwnC G O H a d := by
  cases d with
  | list ds => obtain ⟨a, vs, hv, h1, h2, h3, h4⟩ := h; exact ⟨a, hv, h1, h2, vs, h3, h4⟩
  | dict es => obtain ⟨a, vs, hv, h1, h2, h3, h4⟩ := h; exact ⟨a, hv, h1, h2, vs, h3, h4⟩
  | _ => exact h.elim
theorem OwnC.obj {G : Glb} {O : List Addr} {H : Hp} {a : Addr} {d : PyData} (h : OwnC G O H a d) : ∃ o, H a = some o ∧ OwnO o := by
  cases d with
  | list ds => obtain ⟨vs, h3, h4⟩ := h; exact ⟨_, h3, trivial⟩
  | dict es => obtain ⟨vs, h3, h4⟩ := h; exact ⟨_, h3, trivial⟩
  | _ => exact h.elim
/-- the object stays, the heap around it is kept -/
theorem OwnC.kept {G : Glb} {O O' : List Addr} {H H' : Hp} {a : Addr} {d : PyData} (h : OwnC G O H a d) (k : Kp (msk O H) (msk O' H')) (e : ∀ o, H a = some o → OwnO o → H' a = some o) : OwnC G O' H' a d := by
  cases d with
  | list ds => obtain ⟨vs, h3, h4⟩ := h; exact ⟨vs, e _ h3 trivial, rpAll_mono k h4⟩
  | dict es => obtain ⟨vs, h3, h4⟩ := h; exact ⟨vs, e _ h3 trivial, rpKv_mono k h4⟩
  | _ => exact h.elim
structure R (G : Glb) (P O : List Addr) (env : Slots) (σ : L2.St) (H : Hp) : Prop where
  wf : Wf P O H
  tabs : LamX.Tabs G.T H
  at_ : ∀ (i : Nat) (sl : Slot), env[i]? = some sl → SlotOk G P O H (σ[i]?) sl
  len : σ.length = env.length
  dist : ∀ (i j : Nat) (ds es : PyData) (a : Addr), env[i]? = some (.own ds) → env[j]? = some (.own es) → σ[i]? = some (some (.ref a)) → σ[j]? = some (some (.ref a)) → i = j
section
variable {G : Glb} {P O : List Addr} {H H1 : Hp} {env : Slots} {σ : L2.St}
theorem RelA.ext (w : Wf P O H) (e : Ext G.T P H H1) {v : V} {a : AV} (r : RelA G P O H v a) : RelA G P O H1 v a := by
  cases a with
  | d x => exact rp_mono (e.kp w) r
  | p => exact r
  | s ns =>
    obtain ⟨a, h1, h2⟩ := r
    exact ⟨a, h1, kp_sql (e.kp w) h2⟩
  | c k f =>
    obtain ⟨a, h1, h2⟩ := r
    exact ⟨a, h1, h2.mono (e.kp w)⟩
theorem SlotOk.ext (w : Wf P O H) (e : Ext G.T P H H1) {v : Option (Option V)} {sl : Slot} (r : SlotOk G P O H v sl) : SlotOk G P O H1 v sl := by
  cases sl with
  | un => trivial
  | v a =>
    obtain ⟨x, h1, h2⟩ := r
    exact ⟨x, h1, h2.ext w e⟩
  | own d =>
    cases d with
    | list ds =>
      obtain ⟨a, vs, h1, h2, h3, h4, h5⟩ := r
      exact ⟨a, vs, h1, h2, h3, e.keep _ _ h4 h3 trivial, rpAll_mono (e.kp w) h5⟩
    | dict es =>
      obtain ⟨a, vs, h1, h2, h3, h4, h5⟩ := r
      exact ⟨a, vs, h1, h2, h3, e.keep _ _ h4 h3 trivial, rpKv_mono (e.kp w) h5⟩
    | _ => exact r.elim
theorem tabs_ext {T : List (Addr × Str)} (e : Ext T P H H1) (t : LamX.Tabs T H) : LamX.Tabs T H1 := e.tab t
theorem R.ext (r : R G P O env σ H) (e : Ext G.T P H H1) : R G P O env σ H1 :=
  ⟨r.wf.ext e, tabs_ext e r.tabs, fun i sl h => (r.at_ i sl h).ext r.wf e, r.len, r.dist⟩
end

/-- the level, and (a def that makes lambdas) its code object, that one's table, the names' opening -/
structure Lv where
  n : Nat
  me : Option (Addr × Addr × Str)
/-- within a comprehension -/
abbrev Lv.inn (k : Lv) : Lv := ⟨k.n, none⟩
structure XOk (G : Glb) (N : List Str) (sc : Scope) (k : Lv) (X : Cx) : Prop where
  nd : N.Nodup
  eN : X.N = N
  eSc : X.env.scope = sc
  calm : X.calm = true
  room : Room k.n X.A
  gu : X.A.guards = some []
  me : ∀ c P q, k.me = some (c, P, q) → X.env.code = .ref c ∧ X.env.qual = q ∧ ∀ x, X.fn x = true
  ePr : X.prog = G.P
  eW : X.w = G.w
  eK : X.K = G.K
  eMg : X.mg = G.mg
  eBs : X.base = G.base
  po : PassesOwn (model X.prog X.w) X.A X.env X.xe
def tE (G : Glb) (P O : List Addr) (env : Slots) (m : M PyData) : TE := fun σ H Q => R G P O env σ H ∧ m.Sat fun d => ∀ v H', Ext G.T P H H' → Rp G.K (msk O H') v d → Q v H'
def tT (G : Glb) (P O : List Addr) (env : Slots) (m : M Bool) : TT := fun σ H Q => R G P O env σ H ∧ m.Sat fun b => ∀ H', Ext G.T P H H' → Q b H'
def tA (G : Glb) (P O : List Addr) (env : Slots) (m : M (List PyData)) : TA := fun σ H Q => R G P O env σ H ∧ m.Sat fun ds => ∀ vs H', Ext G.T P H H' → RpAll G.K (msk O H') vs ds → Q vs H'
structure EvE (G : Glb) (N : List Str) (sc : Scope) (k : Lv) (env : Slots) (e : Expr) (m : M PyData) : Prop where
  run : ∀ X, XOk G N sc k X → ∀ P O, PE X e (tE G P O env m)
structure EvT (G : Glb) (N : List Str) (sc : Scope) (k : Lv) (env : Slots) (e : Expr) (m : M Bool) : Prop where
  run : ∀ X, XOk G N sc k X → ∀ P O, PT X e (tT G P O env m)
structure EvA (G : Glb) (N : List Str) (sc : Scope) (k : Lv) (env : Slots) (es : List Expr) (m : M (List PyData)) : Prop where
  run : ∀ X, XOk G N sc k X → ∀ P O, PA X es (tA G P O env m)
theorem PE_imp {X : Cx} {e : Expr} {t t' : TE} (h : PE X e t) (i : ∀ σ H Q, t' σ H Q → t σ H Q) : PE X e t' := ⟨fun pins s σ H Q I q => h.run pins s σ H Q I (i σ H Q q)⟩
theorem PT_imp {X : Cx} {e : Expr} {t t' : TT} (h : PT X e t) (i : ∀ σ H Q, t' σ H Q → t σ H Q) : PT X e t' := ⟨fun pins s σ H Q I q => h.run pins s σ H Q I (i σ H Q q)⟩
theorem PA_imp {X : Cx} {es : List Expr} {t t' : TA} (h : PA X es t) (i : ∀ σ H Q, t' σ H Q → t σ H Q) : PA X es t' := ⟨fun pos pins s σ H Q I q => h.run pos pins s σ H Q I (i σ H Q q)⟩

section
variable {G : Glb} {N : List Str} {sc : Scope} {k : Lv} {env : Slots} {pos : Pos}
/-! ### names, constants -/
theorem ev_var {x : Str} {d : PyData} (i : Nat) (hN : N[i]? = some x := by rfl) (hv : Vis sc x := by first | exact Or.inl rfl | exact Or.inr (Or.inl rfl) | exact Or.inr (Or.inr rfl)) (he : env[i]? = some (dS d) := by rfl)
    (hd : (x == ("__debug__" : Str)) = false := by decide) (hcd : (x == ("__classdict__" : Str)) = false := by decide) : EvE G N sc k env (.Name x pos) (.ok d) :=
  ⟨fun X hX P O => PE_imp (pe_var (i := i) (by rw [hX.eN]; exact hN) (by rw [hX.eSc]; exact hv) hd hcd) fun σ H Q ⟨r, q⟩ => by
    obtain ⟨v, h1, h2⟩ := r.at_ i _ he
    exact ⟨v, h1, q v H Ext.refl h2⟩⟩
/-- an own list read where it is not kept -/
theorem ev_int {i j} : EvE G N sc k env (.Constant (.int i) j pos) (.ok (.int i)) := ⟨fun X _ P O => PE_imp pe_int fun σ H Q ⟨_, q⟩ => q _ _ Ext.refl (.int i)⟩
theorem ev_bl {i j} : EvE G N sc k env (.Constant (.bool i) j pos) (.ok (.bool i)) := ⟨fun X _ P O => PE_imp pe_bl fun σ H Q ⟨_, q⟩ => q _ _ Ext.refl (.bl i)⟩
theorem ev_non {j} : EvE G N sc k env (.Constant .none j pos) (.ok .none) := ⟨fun X _ P O => PE_imp pe_non fun σ H Q ⟨_, q⟩ => q _ _ Ext.refl .non⟩
theorem ev_str {x j} : EvE G N sc k env (.Constant (.str x) j pos) (.ok (.str x)) := ⟨fun X _ P O => PE_imp pe_str fun σ H Q ⟨_, q⟩ => q _ _ Ext.refl (.str x)⟩

/-! ### argument lists, displays -/
def notStar : Expr → Bool
  | .Starred _ _ => false
  | _ => true
theorem star_no {e : Expr} {es : List Expr} {env : PySem.Env} (h : notStar e = true) : starEach (e :: es) env = (false, eval e env) :: starEach es env := by
  cases e <;> first | rfl | cases h
theorem ea_nil : EvA G N sc k env [] (.ok []) := ⟨fun X _ P O => PA_imp pa_nil fun σ H Q ⟨_, q⟩ => q [] H Ext.refl .nil⟩
theorem ea_cons {e : Expr} {es : List Expr} {m : M PyData} {ms : M (List PyData)} (he : EvE G N sc k env e m) (hs : EvA G N sc k env es ms) (hn : notStar e = true := by rfl) :
    EvA G N sc k env (e :: es) (m.bind fun d => ms.bind fun ds => .ok (d :: ds)) :=
  ⟨fun X hX P O => PA_imp (pa_cons (he.run X hX P O) (hs.run X hX P O) (star_no hn)) fun σ H Q ⟨r, q⟩ => by
    refine ⟨r, (M.sat_bind.mp q).mono fun d q1 v H1 e1 r1 => ⟨r.ext e1, (M.sat_bind.mp q1).mono fun ds q2 vs H2 e2 r2 => ?_⟩⟩
    exact q2 _ H2 (e1.trans e2) (.cons (rp_mono (e2.kp (r.wf.ext e1)) r1) r2)⟩
def mkTup (ds : List PyData) : M PyData := if ds.length ≤ sizeLine then .ok (.tuple ds) else .err
def mkLst (ds : List PyData) : M PyData := if ds.length ≤ sizeLine then .ok (.list ds) else .err
theorem sat_if {α : Type} {c : Prop} [Decidable c] {m : M α} {Q : α → Prop} (h : (if c then m else .err).Sat Q) : c ∧ m.Sat Q := by
  split at h
  · exact ⟨by assumption, h⟩
  · exact h.elim
theorem rp_new_tup {G : Glb} {P O : List Addr} {H : Hp} {p : Addr} {vs : List V} {ds : List PyData} (w : Wf P O H) (n : H p = none) (r : RpAll G.K (msk O H) vs ds) : Rp G.K (msk O (upd H p (.tup vs))) (.ref p) (.tuple ds) :=
  .tup (SqT.of (msk_upd (w.fresh n))) (rpAll_mono ((Ext.new (T := []) (P := P) n).kp w) r)
theorem rp_new_lst {G : Glb} {P O : List Addr} {H : Hp} {p : Addr} {vs : List V} {ds : List PyData} (w : Wf P O H) (n : H p = none) (r : RpAll G.K (msk O H) vs ds) : Rp G.K (msk O (upd H p (.lst vs))) (.ref p) (.list ds) :=
  .lst (msk_upd (w.fresh n)) (rpAll_mono ((Ext.new (T := []) (P := P) n).kp w) r)
theorem ev_tup {es : List Expr} {x1} {ms : M (List PyData)} (h : EvA G N sc k env es ms) : EvE G N sc k env (.Tuple es x1 pos) (ms.bind mkTup) :=
  ⟨fun X hX P O => PE_imp (pe_tup (h.run X hX P O)) fun σ H Q ⟨r, q⟩ => by
    refine ⟨r, (M.sat_bind.mp q).mono fun ds q1 vs H1 e1 r1 => ?_⟩
    obtain ⟨hl, q1⟩ := sat_if q1
    exact ⟨by rw [rpAll_length r1]; exact hl, fun p n => q1 _ _ (e1.trans (Ext.new n)) (rp_new_tup (r.wf.ext e1) n r1)⟩⟩
theorem ev_lst {es : List Expr} {ms : M (List PyData)} (h : EvA G N sc k env es ms) : EvE G N sc k env (.List es pos) (ms.bind mkLst) :=
  ⟨fun X hX P O => PE_imp (pe_lst (h.run X hX P O)) fun σ H Q ⟨r, q⟩ => by
    refine ⟨r, (M.sat_bind.mp q).mono fun ds q1 vs H1 e1 r1 => ?_⟩
    obtain ⟨hl, q1⟩ := sat_if q1
    exact ⟨by rw [rpAll_length r1]; exact hl, fun p n => q1 _ _ (e1.trans (Ext.new n)) (rp_new_lst (r.wf.ext e1) n r1)⟩⟩
end
end Ev

set_option Elab.async false
set_option linter.all false
set_option autoImplicit false
set_option maxRecDepth 100000
set_option maxHeartbeats 2000000
namespace Ev
open PySem PySem.Spec PyProof.Rows L2

/-! ### data reads off the heap -/
section
variable {X : Cx} {pins : List (Addr × Obj)} {σ : L2.St} {H : Hp} {s : Shared}
mutual
theorem rp_reads (I : Inv X pins σ H s) : ∀ {d : PyData} {v : V} {u : Value}, Rp X.K H v d → RelV v u → ∃ as, Reads s.heap u d as
  | .none, _, _, h, r => by cases h; cases r; exact ⟨_, Reads.none⟩
  | .bool b, _, _, h, r => by cases h; cases r; exact ⟨_, Reads.bool b⟩
  | .int i, _, _, h, r => by cases h; obtain ⟨t, rfl⟩ := r; exact ⟨_, Reads.int i t⟩
  | .str x, _, _, h, r => by cases h; obtain ⟨t, rfl⟩ := r; exact ⟨_, Reads.str x t⟩
  | .list ds, _, _, h, r => by
    cases h with
    | lst hs ha =>
      cases r
      obtain ⟨its, rv, ⟨o, n, ho, hc, _, hd⟩, _⟩ := I.list (SqL.of hs)
      obtain ⟨as, hr⟩ := rpAll_reads I ha rv
      exact ⟨_, Reads.list ho hc hd hr⟩
  | .tuple ds, _, _, h, r => by
    cases h with
    | tup hs ha =>
      cases r
      obtain ⟨its, rv, ⟨o, ho, hc, n, hd⟩, _⟩ := I.tuple hs
      obtain ⟨as, hr⟩ := rpAll_reads I ha rv
      exact ⟨_, Reads.tuple ho hc hd hr⟩
  | .dict _, _, _, h, r => by
    cases h with
    | dk0 hs =>
      cases r
      obtain ⟨_, _, vs, kv, o, es, ep, ho, hex, hda, hk⟩ := I.hok _ _ hs
      cases kv
      have e : es.toList = [] := by
        obtain ⟨_, hp, _⟩ := hk
        generalize es.toList = l at hp
        cases hp
        rfl
      have e2 : es = #[] := by
        apply Array.toList_inj.mp
        rw [e]
      exact ⟨_, Reads.dict ho hex.1 hda (by rw [e2]; exact .nil) (by rw [e2]; exact .nil)⟩
theorem rpAll_reads (I : Inv X pins σ H s) : ∀ {ds : List PyData} {vs : List V} {us : List Value}, RpAll X.K H vs ds → Vals vs us → ∃ as, ReadsAll s.heap us ds as
  | [], _, _, h, r => by cases h; cases r; exact ⟨_, ReadsAll.nil⟩
  | d :: ds, _, _, h, r => by
    cases h with
    | cons h1 h2 =>
      cases r with
      | cons r1 r2 =>
        obtain ⟨as, q1⟩ := rp_reads I h1 r1
        obtain ⟨bs, q2⟩ := rpAll_reads I h2 r2
        exact ⟨_, ReadsAll.cons q1 q2⟩
end
end

section
variable {P O : List Addr} {H : Hp}
theorem kp_msk : Kp (msk O H) H := fun _ _ e _ => (msk_some e).2
end
/-! ### two-place operations by data -/
def rD (G : Glb) (g : PyData → PyData → M PyData) : R2 := fun x y H Q => ∃ P O dx dy, Wf P O H ∧ Rp G.K (msk O H) x dx ∧ Rp G.K (msk O H) y dy ∧ (g dx dy).Sat fun d => ∀ v H', Ext G.T P H H' → Rp G.K (msk O H') v d → Q v H'
/-- f does g by data -/
def OpD (G : Glb) (k : Lv) (f : Value → Value → Sem Value) (g : PyData → PyData → M PyData) : Prop := ∀ N sc X, XOk G N sc k X → OpR X f (rD G g)
theorem opr_imp {X : Cx} {f : Value → Value → Sem Value} {r r' : R2} (h : OpR X f r) (i : ∀ x y H Q, r' x y H Q → r x y H Q) : OpR X f r' := fun pins s σ H x y v u Q I rx ry q => h pins s σ H x y v u Q I rx ry (i _ _ _ _ q)
section
variable {G : Glb} {N : List Str} {sc : Scope} {k : Lv} {env : Slots} {pos : Pos} {a b : Expr} {ma mb : M PyData} {g : PyData → PyData → M PyData}
theorem two {X : Cx} (ha : EvE G N sc k env a ma) (hb : EvE G N sc k env b mb) (hX : XOk G N sc k X) {P O : List Addr} {σ : L2.St} {H : Hp} {Q : VK}
    (h : tE G P O env (ma.bind fun x => mb.bind fun y => g x y) σ H Q) : tE G P O env ma σ H fun x H1 => tE G P O env mb σ H1 fun y H2 => rD G g x y H2 Q := by
  obtain ⟨r, q⟩ := h
  refine ⟨r, (M.sat_bind.mp q).mono fun dx q1 x H1 e1 r1 => ⟨r.ext e1, (M.sat_bind.mp q1).mono fun dy q2 y H2 e2 r2 => ?_⟩⟩
  exact ⟨P, O, dx, dy, (r.wf.ext e1).ext e2, rp_mono (e2.kp (r.wf.ext e1)) r1, r2, q2.mono fun d q3 v H' e3 r3 => q3 v H' ((e1.trans e2).trans e3) r3⟩
theorem ev_bin {op : Operator} (ho : OpD G k (binaryOp op) g) (ha : EvE G N sc k env a ma) (hb : EvE G N sc k env b mb) : EvE G N sc k env (.BinOp a op b pos) (ma.bind fun x => mb.bind fun y => g x y) :=
  ⟨fun X hX P O => PE_imp (pe_op (ho N sc X hX) (ha.run X hX P O) (hb.run X hX P O)) fun σ H Q h => two ha hb hX h⟩
def plainB : Expr → Bool
  | .Set _ _ _ => false
  | _ => true
theorem nomark' {b : Expr} {op : CmpOp} (h : plainB b = true) : behindInMarks op b = false := by
  cases b <;> first | rfl | cases h
theorem ev_cmp {op : CmpOp} (ho : OpD G k (compareOp op) g) (ha : EvE G N sc k env a ma) (hb : EvE G N sc k env b mb) (hp : plainB b = true := by rfl) : EvE G N sc k env (.Compare a [op] [b] pos) (ma.bind fun x => mb.bind fun y => g x y) :=
  ⟨fun X hX P O => PE_imp (pe_cmpR (ho N sc X hX) (ha.run X hX P O) (hb.run X hX P O) (nomark' hp)) fun σ H Q h => two ha hb hX h⟩
/-! ### truth: bools alone -/
def tru : PyData → M Bool
  | .bool b => .ok b
  | _ => .err
theorem tru_sat {d : PyData} {Q : Bool → Prop} (h : (tru d).Sat Q) : ∃ b, d = .bool b ∧ Q b := by
  cases d <;> first | exact ⟨_, rfl, h⟩ | exact h.elim
def plainT : Expr → Bool
  | .BoolOp _ _ _ => false
  | .UnaryOp .Not _ _ => false
  | .Compare _ _ _ _ => false
  | .NamedExpr _ _ _ => false
  | .IfExp _ _ _ _ => false
  | _ => true
theorem ev_test {m : M PyData} (h : EvE G N sc k env a m) (he : ∀ (e : PySem.Env) whole, isTrue a e whole = (do let v ← whole; standAt a.pos; holding [v] (truthy v)) := by intro _ _; rfl) : EvT G N sc k env a (m.bind tru) :=
  ⟨fun X hX P O => PT_imp (pt_val (h.run X hX P O) (he _)) fun σ H Q ⟨r, q⟩ => ⟨r, (M.sat_bind.mp q).mono fun d q1 v H1 e1 r1 => by
    obtain ⟨b, rfl, q2⟩ := tru_sat q1
    cases r1
    exact ⟨b, rfl, q2 H1 e1⟩⟩⟩
theorem et_cmp {op : CmpOp} (ho : OpD G k (compareOp op) g) (ha : EvE G N sc k env a ma) (hb : EvE G N sc k env b mb) (hp : plainB b = true := by rfl) : EvT G N sc k env (.Compare a [op] [b] pos) ((ma.bind fun x => mb.bind fun y => g x y).bind tru) :=
  ⟨fun X hX P O => PT_imp (pt_cmpR (ho N sc X hX) (ha.run X hX P O) (hb.run X hX P O) (nomark' hp)) fun σ H Q ⟨r, q⟩ => by
    have h : tE G P O env (ma.bind fun x => mb.bind fun y => g x y) σ H (fun x H' => ∃ k, x = .bl k ∧ Q k H') := ⟨r, (M.sat_bind.mp q).mono fun d q1 v H1 e1 r1 => by
      obtain ⟨b, rfl, q2⟩ := tru_sat q1
      cases r1
      exact ⟨b, rfl, q2 H1 e1⟩⟩
    exact two ha hb hX h⟩
end

/-! ### the operations by data -/
def pAdd : PyData → PyData → M PyData
  | .int a, .int b => .ok (.int (a + b))
  | .list xs, .list ys => if xs.length + ys.length ≤ sizeLine then .ok (.list (xs ++ ys)) else .err
  | .tuple xs, .tuple ys => if xs.length + ys.length ≤ sizeLine then .ok (.tuple (xs ++ ys)) else .err
  | .str x, .str y => if x.length + y.length ≤ sizeLine then .ok (.str (x ++ y)) else .err
  | _, _ => .err
def pSub : PyData → PyData → M PyData
  | .int a, .int b => .ok (.int (a - b))
  | _, _ => .err
def pMul : PyData → PyData → M PyData
  | .int a, .int b => if (-(2 ^ 64) < a ∧ a < 2 ^ 64) ∨ (-(2 ^ 64) < b ∧ b < 2 ^ 64) then .ok (.int (a * b)) else .err
  | .list xs, .int n => if n ≤ 16777216 ∧ -16777216 ≤ n ∧ xs.length * n.toNat ≤ sizeLine then .ok (.list (List.replicate n.toNat xs).flatten) else .err
  | .tuple xs, .int n => if xs ≠ [] ∧ 1 ≤ n ∧ n ≤ 1000 ∧ xs.length ≤ 1000 then .ok (.tuple (List.replicate n.toNat xs).flatten) else .err
  | _, _ => .err
def pDiv : PyData → PyData → M PyData
  | .int a, .int b => if b ≠ 0 ∧ b.natAbs < 1073741824 then .ok (.int (a.fdiv b)) else .err
  | _, _ => .err
def pMod : PyData → PyData → M PyData
  | .int a, .int b => if b ≠ 0 then .ok (.int (a.fmod b)) else .err
  | _, _ => .err
def pPow : PyData → PyData → M PyData
  | .int a, .int b => if 0 ≤ b ∧ b ≤ 1000000 ∧ a.natAbs < 2 ^ 64 then .ok (.int (a ^ b.toNat)) else .err
  | _, _ => .err
def pEq (a b : PyData) : M PyData := if (a.plain && b.plain && decide (min a.depth b.depth ≤ 60)) = true then .ok (.bool (PyData.eqv a b)) else .err
def pNe (a b : PyData) : M PyData := if (a.plain && b.plain && decide (min a.depth b.depth ≤ 60)) = true then .ok (.bool (!PyData.eqv a b)) else .err
def pIn (x c : PyData) : M PyData := match c with
  | .list ys | .tuple ys => if (x.plain && PyData.plainAll ys && decide (x.depth ≤ 60)) = true then .ok (.bool (ys.any fun y => PyData.eqv y x)) else .err
  | _ => .err
def pNotIn (x c : PyData) : M PyData := match c with
  | .list ys | .tuple ys => if (x.plain && PyData.plainAll ys && decide (x.depth ≤ 60)) = true then .ok (.bool (!ys.any fun y => PyData.eqv y x)) else .err
  | _ => .err
def cmpOk (a b : PyData) : Bool := W.alike a b && decide (min a.depth b.depth ≤ 60) && !(match a with | .none => true | _ => false)
def pLt (a b : PyData) : M PyData := match a, b with
  | .int i, .int j => .ok (.bool (decide (i < j)))
  | a, b => if cmpOk a b = true then .ok (.bool (W.dataLt a b)) else .err
def pGt (a b : PyData) : M PyData := match a, b with
  | .int i, .int j => .ok (.bool (decide (j < i)))
  | a, b => if cmpOk a b = true then .ok (.bool (W.dataLt b a)) else .err
def pLe (a b : PyData) : M PyData := match a, b with
  | .int i, .int j => .ok (.bool (decide (i ≤ j)))
  | a, b => if cmpOk a b = true then .ok (.bool (!W.dataLt b a)) else .err
def pGe (a b : PyData) : M PyData := match a, b with
  | .int i, .int j => .ok (.bool (decide (j ≤ i)))
  | a, b => if cmpOk a b = true then .ok (.bool (!W.dataLt a b)) else .err
def isNone : PyData → Bool
  | .none => true
  | _ => false
def pIs (a b : PyData) : M PyData := if isNone b = true then .ok (.bool (isNone a)) else .err
def pIsNot (a b : PyData) : M PyData := if isNone b = true then .ok (.bool (!isNone a)) else .err
section
variable {G : Glb} {k : Lv}
theorem od_add : OpD G k (binaryOp .Add) pAdd := fun N sc X hX => by
  refine opr_imp (((op_add.or op_cat).or op_catA).or op_add_str) fun x y H Q h => ?_
  obtain ⟨P, O, dx, dy, w, rx, ry, q⟩ := h
  cases rx with
  | int i => cases ry with
    | int j => exact .inl (.inl (.inl ⟨i, j, rfl, rfl, q _ H Ext.refl (.int _)⟩))
    | _ => exact q.elim
  | str i => cases ry with
    | str j =>
      obtain ⟨hl, q⟩ := sat_if q
      exact .inr ⟨i, j, rfl, rfl, hl, q _ H Ext.refl (.str _)⟩
    | _ => exact q.elim
  | lst h1 r1 => cases ry with
    | lst h2 r2 =>
      obtain ⟨hl, q⟩ := sat_if q
      refine .inl (.inl (.inr ⟨_, _, _, _, rfl, rfl, (msk_some h1).2, (msk_some h2).2, by rw [rpAll_length r1, rpAll_length r2]; exact hl, fun p n => ?_⟩))
      exact q _ _ (Ext.new n) (rp_new_lst w n (rpAll_append r1 r2))
    | _ => exact q.elim
  | tup h1 r1 => cases ry with
    | tup h2 r2 =>
      obtain ⟨hl, q⟩ := sat_if q
      rw [hX.eK]
      refine .inl (.inr ⟨_, _, _, _, rfl, rfl, kp_sqt kp_msk h1, kp_sqt kp_msk h2, by rw [rpAll_length r1, rpAll_length r2]; exact hl, fun e => ?_, fun _ e => ?_, fun _ _ p n => ?_⟩)
      · subst e; cases r1; exact q _ H Ext.refl (.tup h2 r2)
      · subst e; cases r2; exact q _ H Ext.refl (.tup h1 (by rw [List.append_nil]; exact r1))
      · exact q _ _ (Ext.new n) (rp_new_tup w n (rpAll_append r1 r2))
    | _ => exact q.elim
  | _ => exact q.elim
theorem od_sub : OpD G k (binaryOp .Sub) pSub := fun N sc X hX => opr_imp op_sub fun x y H Q h => by
  obtain ⟨P, O, dx, dy, w, rx, ry, q⟩ := h
  cases rx with
  | int i => cases ry with
    | int j => exact ⟨i, j, rfl, rfl, q _ H Ext.refl (.int _)⟩
    | _ => exact q.elim
  | _ => exact q.elim
theorem rpAll_rep {K : PySem.W.Frag} {h : Hp} {vs : List V} {ds : List PyData} (r : RpAll K h vs ds) : ∀ n : Nat, RpAll K h (List.replicate n vs).flatten (List.replicate n ds).flatten
  | 0 => .nil
  | n + 1 => by rw [List.replicate_succ, List.replicate_succ, List.flatten_cons, List.flatten_cons]; exact rpAll_append r (rpAll_rep r n)
/-- a tuple times one is itself -/
theorem tup_once (l : Addr) (items : Array Value) (n : Nat) (dd : Option Addr) (sl : Array (Option Value)) (u : Tok) :
    Meets (Builtin.«tuple.__mul__» ⟨[.ref l, .int 1 u], []⟩) (fun _ R s => s.heap.get? l = some { cls := .type "tuple", dict := dd, data := .seq items n, slots := sl } ∧ R (.ok (.ret (Value.ref l))) s) :=
  .of_wp fun prog w A R s h => by
    obtain ⟨hp, g, d, tk, os⟩ := s
    obtain ⟨hl, h⟩ := h
    have f1 := AutoSeq1.idx_int
    wp_walk using wpAny_loadPart' hl
    exact ⟨_, rfl, h⟩
def rOnce (K : PySem.W.Frag) : R2 := fun x y H Q => ∃ l xs, x = .ref l ∧ y = .int 1 ∧ SqT K H l xs ∧ Q (.ref l) H
theorem op_once {X : Cx} : OpR X (binaryOp .Mult) (rOnce X.K) := by
  intro pins s σ H x y v u Q I rx ry h
  obtain ⟨l, xs, rfl, rfl, hT, q⟩ := h
  cases rx
  obtain ⟨t, rfl⟩ := ry
  obtain ⟨its, r, ⟨⟨cls, dd, data, sl⟩, ho, hc, n, hd⟩, hs⟩ := I.tuple hT
  simp only at hc hd
  subst hc hd
  refine wpAny_binaryOp_repeat_ref (T := "tuple") (U := "int") (by decide) ⟨_, ho, rfl⟩ (fun s' => typeIs_int s' 1 t) noFill_tuple_mul F.fills_int_mul F.slot_int_rmul repeat_tuple F.slot_int_index.lookup ?_
  refine call_meets F.slot_int_rmul (typeIs_int s 1 t) F.entry_int_rmul (F.args_int_rmul_2 _ _) (int_rmul_tuple 1 t l its.toArray n dd sl) ⟨ho, rfl, ⟨_, ho, rfl⟩, ?_⟩
  exact call_meets F.slot_tuple_mul ⟨_, ho, rfl⟩ F.entry_tuple_mul (F.args_tuple_mul_2 _ _) (tup_once l its.toArray n dd sl t) ⟨ho, .ref l, H, I, rfl, q⟩
theorem od_mul : OpD G k (binaryOp .Mult) pMul := fun N sc X hX => opr_imp (((op_mul.or op_rep).or op_repT).or op_once) fun x y H Q h => by
  obtain ⟨P, O, dx, dy, w, rx, ry, q⟩ := h
  cases rx with
  | int i => cases ry with
    | int j =>
      obtain ⟨hc, q⟩ := sat_if q
      exact .inl (.inl (.inl ⟨i, j, rfl, rfl, hc, q _ H Ext.refl (.int _)⟩))
    | _ => exact q.elim
  | lst h1 r1 => cases ry with
    | int j =>
      obtain ⟨⟨hc1, hc2, hc3⟩, q⟩ := sat_if q
      refine .inl (.inl (.inr ⟨_, j, _, rfl, rfl, (msk_some h1).2, by omega, by omega, by rw [rpAll_length r1]; exact hc3, fun p n => ?_⟩))
      exact q _ _ (Ext.new n) (rp_new_lst w n (rpAll_rep r1 _))
    | _ => exact q.elim
  | tup h1 r1 => cases ry with
    | int j =>
      obtain ⟨⟨hc1, hc2, hc3, hc4⟩, q⟩ := sat_if q
      have hl := rpAll_length r1
      rw [hX.eK]
      by_cases h2 : 2 ≤ j
      case neg =>
        have e1 : j = 1 := by omega
        subst e1
        refine .inr ⟨_, _, rfl, rfl, kp_sqt kp_msk h1, q _ H Ext.refl ?_⟩
        rw [show (1 : Int).toNat = 1 from rfl, List.replicate_one, List.flatten_cons, List.flatten_nil, List.append_nil]
        exact .tup h1 r1
      refine .inl (.inr ⟨_, j, _, rfl, rfl, kp_sqt kp_msk h1, fun e => hc1 (by rw [e] at hl; exact List.eq_nil_of_length_eq_zero hl.symm), h2, hc3, by omega, fun p n => ?_⟩)
      exact q _ _ (Ext.new n) (rp_new_tup w n (rpAll_rep r1 _))
    | _ => exact q.elim
  | _ => exact q.elim
theorem od_div : OpD G k (binaryOp .FloorDiv) pDiv := fun N sc X hX => opr_imp op_fdivN fun x y H Q h => by
  obtain ⟨P, O, dx, dy, w, rx, ry, q⟩ := h
  cases rx with
  | int i => cases ry with
    | int j =>
      obtain ⟨hc, q⟩ := sat_if q
      exact ⟨i, j, rfl, rfl, hc, q _ H Ext.refl (.int _)⟩
    | _ => exact q.elim
  | _ => exact q.elim
theorem od_mod : OpD G k (binaryOp .Mod) pMod := fun N sc X hX => opr_imp op_modN fun x y H Q h => by
  obtain ⟨P, O, dx, dy, w, rx, ry, q⟩ := h
  cases rx with
  | int i => cases ry with
    | int j =>
      obtain ⟨hc, q⟩ := sat_if q
      exact ⟨i, j, rfl, rfl, hc, q _ H Ext.refl (.int _)⟩
    | _ => exact q.elim
  | _ => exact q.elim
theorem od_pow : OpD G k (binaryOp .Pow) pPow := fun N sc X hX => opr_imp op_pow fun x y H Q h => by
  obtain ⟨P, O, dx, dy, w, rx, ry, q⟩ := h
  cases rx with
  | int i => cases ry with
    | int j =>
      obtain ⟨hc, q⟩ := sat_if q
      exact ⟨i, j, rfl, rfl, hc, q _ H Ext.refl (.int _)⟩
    | _ => exact q.elim
  | _ => exact q.elim
theorem room60 {N sc} {X : Cx} (hX : XOk G N sc k X) {n : Nat} (h : n ≤ 60) : X.A.units + 2 + n < cLine := by
  have := hX.room.un
  omega
theorem rp_up {X : Cx} {N sc} (hX : XOk G N sc k X) {O : List Addr} {H : Hp} {x : V} {d : PyData} (r : Rp G.K (msk O H) x d) : Rp X.K H x d := by rw [hX.eK]; exact rp_mono kp_msk r
theorem b3 {a b c : Bool} (h : (a && b && c) = true) : a = true ∧ b = true ∧ c = true := by simpa [and_assoc] using h
theorem od_eq : OpD G k (compareOp .Eq) pEq := fun N sc X hX pins s σ H x y v u Q I rx ry h => by
  obtain ⟨P, O, dx, dy, w, r1, r2, q⟩ := h
  obtain ⟨hc, q⟩ := sat_if q
  obtain ⟨c1, c2, c3⟩ := b3 hc
  obtain ⟨as, a1⟩ := rp_reads I (rp_up hX r1) rx
  obtain ⟨bs, a2⟩ := rp_reads I (rp_up hX r2) ry
  exact SeqAt.eq_plain a1 a2 c1 c2 (by have := room60 hX (of_decide_eq_true c3); omega) ⟨.bl _, H, I, rfl, q _ H Ext.refl (.bl _)⟩
theorem od_ne : OpD G k (compareOp .NotEq) pNe := fun N sc X hX pins s σ H x y v u Q I rx ry h => by
  obtain ⟨P, O, dx, dy, w, r1, r2, q⟩ := h
  obtain ⟨hc, q⟩ := sat_if q
  obtain ⟨c1, c2, c3⟩ := b3 hc
  obtain ⟨as, a1⟩ := rp_reads I (rp_up hX r1) rx
  obtain ⟨bs, a2⟩ := rp_reads I (rp_up hX r2) ry
  exact SeqAt.ne_plain a1 a2 c1 c2 (by have := room60 hX (of_decide_eq_true c3); omega) ⟨.bl _, H, I, rfl, q _ H Ext.refl (.bl _)⟩
theorem od_in : OpD G k (compareOp .In) pIn := fun N sc X hX pins s σ H x y v u Q I rx ry h => by
  obtain ⟨P, O, dx, dy, w, r1, r2, q⟩ := h
  cases dy <;> first
    | exact q.elim
    | (obtain ⟨hc, q⟩ := sat_if q
       obtain ⟨c1, c2, c3⟩ := b3 hc
       obtain ⟨as, a1⟩ := rp_reads I (rp_up hX r1) rx
       obtain ⟨bs, a2⟩ := rp_reads I (rp_up hX r2) ry
       have hu : X.A.units + 1 + min (PyData.depthAll (by assumption)) dx.depth < cLine := by have := room60 hX (of_decide_eq_true c3); omega
       first
         | exact SeqAt.in_list_data a2 a1 c2 c1 hu ⟨.bl _, H, I, rfl, q _ H Ext.refl (.bl _)⟩
         | exact SeqAt.in_tuple_data a2 a1 c2 c1 hu ⟨.bl _, H, I, rfl, q _ H Ext.refl (.bl _)⟩)
theorem od_notin : OpD G k (compareOp .NotIn) pNotIn := fun N sc X hX pins s σ H x y v u Q I rx ry h => by
  obtain ⟨P, O, dx, dy, w, r1, r2, q⟩ := h
  cases dy <;> first
    | exact q.elim
    | (obtain ⟨hc, q⟩ := sat_if q
       obtain ⟨c1, c2, c3⟩ := b3 hc
       obtain ⟨as, a1⟩ := rp_reads I (rp_up hX r1) rx
       obtain ⟨bs, a2⟩ := rp_reads I (rp_up hX r2) ry
       have hu : X.A.units + 1 + min (PyData.depthAll (by assumption)) dx.depth < cLine := by have := room60 hX (of_decide_eq_true c3); omega
       first
         | exact SeqAt.notIn_list_data a2 a1 c2 c1 hu ⟨.bl _, H, I, rfl, q _ H Ext.refl (.bl _)⟩
         | exact SeqAt.notIn_tuple_data a2 a1 c2 c1 hu ⟨.bl _, H, I, rfl, q _ H Ext.refl (.bl _)⟩)
end
end Ev

set_option Elab.async false
set_option linter.all false
set_option autoImplicit false
set_option maxRecDepth 100000
set_option maxHeartbeats 2000000
namespace Ev
open PySem PySem.Spec PyProof.Rows L2
section
variable {G : Glb} {k : Lv}
theorem b3' {a b c : Bool} (h : (a && b && !c) = true) : a = true ∧ b = true ∧ c = false := by simpa [and_assoc] using h
theorem ne_none_of {d : PyData} (h : (match d with | .none => true | _ => false) = false) : d ≠ .none := fun e => by subst e; cases h
theorem ord_of {op : CmpOp} {fi : Int → Int → Bool} {fd : PyData → PyData → Bool} {g : PyData → PyData → M PyData} (hg : ∀ a b, g a b = match a, b with | .int i, .int j => .ok (.bool (fi i j)) | a, b => if cmpOk a b = true then .ok (.bool (fd a b)) else .err)
    (hi : ∀ X : Cx, OpR X (compareOp op) (rI0 fun i j => .bl (fi i j)))
    (hd : ∀ {prog : Program} {w : World} {A : Around} {E : Value → Shared → Prop} {s : Shared} {a b : Value} {da db : PyData} {as bs : List Addr} {Q : Value → Shared → Prop}, Reads s.heap a da as → Reads s.heap b db bs → W.alike da db = true → da ≠ .none → A.units + min da.depth db.depth < cLine → Q (.bool (fd da db)) s → wpAny (model prog w) A (compareOp op a b) Q E s) :
    OpD G k (compareOp op) g := fun N sc X hX pins s σ H x y v u Q I rx ry h => by
  obtain ⟨P, O, dx, dy, w, r1, r2, q⟩ := h
  rw [hg] at q
  have gen : ((if cmpOk dx dy = true then M.ok (PyData.bool (fd dx dy)) else .err).Sat fun d => ∀ v H', Ext G.T P H H' → Rp G.K (msk O H') v d → Q v H') → wpAny (model X.prog X.w) X.A (compareOp op v u) (EP X pins σ Q) X.xe s := fun q => by
    obtain ⟨hc, q⟩ := sat_if q
    obtain ⟨c1, c2, c3⟩ := b3' hc
    obtain ⟨as, a1⟩ := rp_reads I (rp_up hX r1) rx
    obtain ⟨bs, a2⟩ := rp_reads I (rp_up hX r2) ry
    exact hd a1 a2 c1 (ne_none_of c3) (by have := room60 hX (of_decide_eq_true c2); omega) ⟨.bl _, H, I, rfl, q _ H Ext.refl (.bl _)⟩
  cases r1 with
  | int i => cases r2 with
    | int j => exact hi X pins s σ H _ _ v u Q I rx ry ⟨i, j, rfl, rfl, q _ H Ext.refl (.bl _)⟩
    | non => exact gen q
    | bl => exact gen q
    | str => exact gen q
    | lst => exact gen q
    | tup => exact gen q
    | dk0 => exact gen q
  | non => exact gen q
  | bl => exact gen q
  | str => exact gen q
  | lst => exact gen q
  | tup => exact gen q
  | dk0 => exact gen q
theorem od_lt : OpD G k (compareOp .Lt) pLt := ord_of (fun a b => by unfold pLt; rfl) (fun _ => op_lt) W.lt_data
theorem od_gt : OpD G k (compareOp .Gt) pGt := ord_of (fun a b => by unfold pGt; rfl) (fun _ => op_gt) W.gt_data
theorem od_le : OpD G k (compareOp .LtE) pLe := ord_of (fun a b => by unfold pLe; rfl) (fun _ => op_le) W.le_data
theorem od_ge : OpD G k (compareOp .GtE) pGe := ord_of (fun a b => by unfold pGe; rfl) (fun _ => op_ge) W.ge_data
/-- is: with None; of two bools -/
def qIs (a b : PyData) : M PyData := match a, b with
  | .bool x, .bool y => .ok (.bool (decide (x = y)))
  | a, .none => .ok (.bool (isNone a))
  | _, _ => .err
def qIsNot (a b : PyData) : M PyData := match a, b with
  | .bool x, .bool y => .ok (.bool (!decide (x = y)))
  | a, .none => .ok (.bool (!isNone a))
  | _, _ => .err
theorem rp_isNone {K : PySem.W.Frag} {h : Hp} {x : V} {d : PyData} (r : Rp K h x d) : decide (x = .non) = isNone d := by
  cases r <;> first | rfl | exact decide_eq_false (fun e => nomatch e)
theorem od_is : OpD G k (compareOp .Is) qIs := fun N sc X hX => opr_imp (op_isN.or op_isBl) fun x y H Q h => by
  obtain ⟨P, O, dx, dy, w, r1, r2, q⟩ := h
  cases r2 with
  | non =>
    refine .inl ⟨rfl, ?_⟩
    rw [rp_isNone r1]
    cases r1 <;> exact q _ H Ext.refl (.bl _)
  | bl b => cases r1 with
    | bl a => exact .inr ⟨a, b, rfl, rfl, q _ H Ext.refl (.bl _)⟩
    | _ => exact q.elim
  | _ => cases r1 <;> exact q.elim
theorem od_isnot : OpD G k (compareOp .IsNot) qIsNot := fun N sc X hX => opr_imp (op_notN.or op_notBl) fun x y H Q h => by
  obtain ⟨P, O, dx, dy, w, r1, r2, q⟩ := h
  cases r2 with
  | non =>
    refine .inl ⟨rfl, ?_⟩
    rw [rp_isNone r1]
    cases r1 <;> exact q _ H Ext.refl (.bl _)
  | bl b => cases r1 with
    | bl a => exact .inr ⟨a, b, rfl, rfl, q _ H Ext.refl (.bl _)⟩
    | _ => exact q.elim
  | _ => cases r1 <;> exact q.elim
end
section
variable {G : Glb} {N : List Str} {sc : Scope} {k : Lv} {env : Slots} {pos : Pos} {a b c : Expr} {ma mb mc : M PyData} {g g' : PyData → PyData → M PyData}
/-! ### chains -/
/-- a op b op' c -/
def chn (g g' : PyData → PyData → M PyData) (ma mb mc : M PyData) : M PyData := ma.bind fun x => mb.bind fun y => (g x y).bind fun z => (tru z).bind fun t => if t then mc.bind fun w => g' y w else .ok (.bool false)
theorem chain_read {X : Cx} (hX : XOk G N sc k X) (ha : EvE G N sc k env a ma) (hb : EvE G N sc k env b mb) (hc : EvE G N sc k env c mc) {P O : List Addr} {σ : L2.St} {H : Hp} {Q : VK} (h : tE G P O env (chn g g' ma mb mc) σ H Q) :
    tChain (rD G g) (rD G g') (tE G P O env ma) (tE G P O env mb) (tE G P O env mc) σ H Q := by
  obtain ⟨r, q⟩ := h
  refine ⟨r, (M.sat_bind.mp q).mono fun dx q1 x H1 e1 r1 => ⟨r.ext e1, (M.sat_bind.mp q1).mono fun dy q2 y H2 e2 r2 => ?_⟩⟩
  have w2 := (r.wf.ext e1).ext e2
  refine ⟨P, O, dx, dy, w2, rp_mono (e2.kp (r.wf.ext e1)) r1, r2, (M.sat_bind.mp q2).mono fun d q3 v H3 e3 r3 => ?_⟩
  obtain ⟨t, rfl, q4⟩ := tru_sat (Q := fun t => M.Sat (if t then mc.bind fun w => g' dy w else .ok (.bool false)) fun d => ∀ v H', Ext G.T P H H' → Rp G.K (msk O H') v d → Q v H') (M.sat_bind.mp q3)
  cases r3
  refine ⟨t, rfl, ?_⟩
  have e13 := (e1.trans e2).trans e3
  cases t with
  | false => exact q4 _ _ e13 (.bl _)
  | true => exact ⟨r.ext e13, (M.sat_bind.mp q4).mono fun dw q5 w' H4 e4 r4 => ⟨P, O, dy, dw, w2.ext (e3.trans e4), rp_mono ((e3.trans e4).kp w2) r2, r4, q5.mono fun d q6 v H5 e5 r5 => q6 v H5 ((e13.trans e4).trans e5) r5⟩⟩
theorem ev_chain {op op' : CmpOp} (ho : OpD G k (compareOp op) g) (ho' : OpD G k (compareOp op') g') (ha : EvE G N sc k env a ma) (hb : EvE G N sc k env b mb) (hc : EvE G N sc k env c mc) (hm : lastMarks [op, op'] [b, c] = false := by with_unfolding_all rfl) :
    EvE G N sc k env (.Compare a [op, op'] [b, c] pos) (chn g g' ma mb mc) :=
  ⟨fun X hX P O => PE_imp (pe_chain (ho N sc X hX) (ho' N sc X hX) (ha.run X hX P O) (hb.run X hX P O) (hc.run X hX P O) hm) fun σ H Q h => chain_read hX ha hb hc h⟩
theorem et_chain {op op' : CmpOp} (ho : OpD G k (compareOp op) g) (ho' : OpD G k (compareOp op') g') (ha : EvE G N sc k env a ma) (hb : EvE G N sc k env b mb) (hc : EvE G N sc k env c mc) (hm : lastMarks [op, op'] [b, c] = false := by with_unfolding_all rfl) :
    EvT G N sc k env (.Compare a [op, op'] [b, c] pos) ((chn g g' ma mb mc).bind tru) :=
  ⟨fun X hX P O => PT_imp (pt_chain (ho N sc X hX) (ho' N sc X hX) (ha.run X hX P O) (hb.run X hX P O) (hc.run X hX P O) hm) fun σ H Q ⟨r, q⟩ => by
    have h : tE G P O env (chn g g' ma mb mc) σ H (fun x H' => ∃ k, x = .bl k ∧ Q k H') := ⟨r, (M.sat_bind.mp q).mono fun d q1 v H1 e1 r1 => by
      obtain ⟨b, rfl, q2⟩ := tru_sat q1
      cases r1
      exact ⟨b, rfl, q2 H1 e1⟩⟩
    exact chain_read hX ha hb hc h⟩

/-! ### and, or, not, if: of bools -/
variable {ta tb tc : M Bool} {rest : List Expr}
structure EvW (G : Glb) (N : List Str) (sc : Scope) (k : Lv) (env : Slots) (e : Expr) (m : M Bool) : Prop where
  run : ∀ X, XOk G N sc k X → ∀ P O, PW X e (tT G P O env m)
theorem PW_imp {X : Cx} {e : Expr} {t t' : TT} (h : PW X e t) (i : ∀ σ H Q, t' σ H Q → t σ H Q) : PW X e t' := ⟨fun wh pins s σ H Q I q => h.run wh pins s σ H Q I (i σ H Q q)⟩
theorem ew_and1 (ha : EvT G N sc k env a ta) : EvW G N sc k env (.BoolOp .And [a] pos) ta := ⟨fun X hX P O => pw_and1 (ha.run X hX P O)⟩
theorem ew_or1 (ha : EvT G N sc k env a ta) : EvW G N sc k env (.BoolOp .Or [a] pos) ta := ⟨fun X hX P O => pw_or1 (ha.run X hX P O)⟩
def mAnd (a b : M Bool) : M Bool := a.bind fun t => if t then b else .ok false
def mOr (a b : M Bool) : M Bool := a.bind fun t => if t then .ok true else b
theorem ew_and (ha : EvT G N sc k env a ta) (hb : EvW G N sc k env (.BoolOp .And (b :: rest) pos) tb) : EvW G N sc k env (.BoolOp .And (a :: b :: rest) pos) (mAnd ta tb) :=
  ⟨fun X hX P O => PW_imp (pw_and (ha.run X hX P O) (hb.run X hX P O)) fun σ H Q ⟨r, q⟩ => ⟨r, (M.sat_bind.mp q).mono fun t q1 H1 e1 => by
    cases t with
    | true => exact ⟨r.ext e1, q1.mono fun d q2 H2 e2 => q2 H2 (e1.trans e2)⟩
    | false => exact q1 H1 e1⟩⟩
theorem ew_or (ha : EvT G N sc k env a ta) (hb : EvW G N sc k env (.BoolOp .Or (b :: rest) pos) tb) : EvW G N sc k env (.BoolOp .Or (a :: b :: rest) pos) (mOr ta tb) :=
  ⟨fun X hX P O => PW_imp (pw_or (ha.run X hX P O) (hb.run X hX P O)) fun σ H Q ⟨r, q⟩ => ⟨r, (M.sat_bind.mp q).mono fun t q1 H1 e1 => by
    cases t with
    | false => exact ⟨r.ext e1, q1.mono fun d q2 H2 e2 => q2 H2 (e1.trans e2)⟩
    | true => exact q1 H1 e1⟩⟩
theorem et_w (h : EvW G N sc k env a ta) : EvT G N sc k env a ta := ⟨fun X hX P O => (h.run X hX P O).pt⟩
def mNot (a : M Bool) : M Bool := a.bind fun t => .ok (!t)
theorem et_not (ha : EvT G N sc k env a ta) : EvT G N sc k env (.UnaryOp .Not a pos) (mNot ta) :=
  ⟨fun X hX P O => PT_imp (pt_not (ha.run X hX P O)) fun σ H Q ⟨r, q⟩ => ⟨r, (M.sat_bind.mp q).mono fun t q1 H1 e1 => q1 H1 e1⟩⟩
/-- as values -/
def bAnd (a b : M PyData) : M PyData := a.bind fun x => (tru x).bind fun t => if t then b else .ok (.bool false)
def bOr (a b : M PyData) : M PyData := a.bind fun x => (tru x).bind fun t => if t then .ok (.bool true) else b
def bNot (a : M PyData) : M PyData := a.bind fun x => (tru x).bind fun t => .ok (.bool (!t))
theorem ev_one {op} (h : EvE G N sc k env a ma) : EvE G N sc k env (.BoolOp op [a] pos) ma := ⟨fun X hX P O => pe_one (h.run X hX P O)⟩
theorem ev_and (ha : EvE G N sc k env a ma) (hb : EvE G N sc k env (.BoolOp .And (b :: rest) pos) mb) : EvE G N sc k env (.BoolOp .And (a :: b :: rest) pos) (bAnd ma mb) :=
  ⟨fun X hX P O => PE_imp (pe_and (ha.run X hX P O) (hb.run X hX P O)) fun σ H Q ⟨r, q⟩ => ⟨r, (M.sat_bind.mp q).mono fun d q1 v H1 e1 r1 => by
    obtain ⟨t, rfl, q2⟩ := tru_sat (Q := fun t => M.Sat (if t then mb else .ok (.bool false)) fun d => ∀ v H', Ext G.T P H H' → Rp G.K (msk O H') v d → Q v H') (M.sat_bind.mp q1)
    cases r1
    refine ⟨t, rfl, ?_⟩
    cases t with
    | true => exact ⟨r.ext e1, q2.mono fun d q3 v H2 e2 r2 => q3 v H2 (e1.trans e2) r2⟩
    | false => exact q2 _ H1 e1 (.bl _)⟩⟩
theorem ev_or (ha : EvE G N sc k env a ma) (hb : EvE G N sc k env (.BoolOp .Or (b :: rest) pos) mb) : EvE G N sc k env (.BoolOp .Or (a :: b :: rest) pos) (bOr ma mb) :=
  ⟨fun X hX P O => PE_imp (pe_or (ha.run X hX P O) (hb.run X hX P O)) fun σ H Q ⟨r, q⟩ => ⟨r, (M.sat_bind.mp q).mono fun d q1 v H1 e1 r1 => by
    obtain ⟨t, rfl, q2⟩ := tru_sat (Q := fun t => M.Sat (if t then .ok (.bool true) else mb) fun d => ∀ v H', Ext G.T P H H' → Rp G.K (msk O H') v d → Q v H') (M.sat_bind.mp q1)
    cases r1
    refine ⟨t, rfl, ?_⟩
    cases t with
    | false => exact ⟨r.ext e1, q2.mono fun d q3 v H2 e2 r2 => q3 v H2 (e1.trans e2) r2⟩
    | true => exact q2 _ H1 e1 (.bl _)⟩⟩
theorem ev_not (ha : EvE G N sc k env a ma) : EvE G N sc k env (.UnaryOp .Not a pos) (bNot ma) :=
  ⟨fun X hX P O => PE_imp (pe_not (ha.run X hX P O)) fun σ H Q ⟨r, q⟩ => ⟨r, (M.sat_bind.mp q).mono fun d q1 v H1 e1 r1 => by
    obtain ⟨t, rfl, q2⟩ := tru_sat (Q := fun t => ∀ v H', Ext G.T P H H' → Rp G.K (msk O H') v (.bool !t) → Q v H') (M.sat_bind.mp q1)
    cases r1
    exact ⟨t, rfl, q2 _ H1 e1 (.bl _)⟩⟩⟩
def mIf {α : Type} (c : M Bool) (a b : M α) : M α := c.bind fun t => if t then a else b
theorem ev_if (hc : EvT G N sc k env c tc) (ha : EvE G N sc k env a ma) (hb : EvE G N sc k env b mb) : EvE G N sc k env (.IfExp c a b pos) (mIf tc ma mb) :=
  ⟨fun X hX P O => PE_imp (pe_ifExp (hc.run X hX P O) (ha.run X hX P O) (hb.run X hX P O)) fun σ H Q ⟨r, q⟩ => ⟨r, (M.sat_bind.mp q).mono fun t q1 H1 e1 => by
    cases t with
    | true => exact ⟨r.ext e1, q1.mono fun d q3 v H2 e2 r2 => q3 v H2 (e1.trans e2) r2⟩
    | false => exact ⟨r.ext e1, q1.mono fun d q3 v H2 e2 r2 => q3 v H2 (e1.trans e2) r2⟩⟩⟩
def pNeg : PyData → M PyData
  | .int i => .ok (.int (-i))
  | _ => .err
theorem ev_neg (ha : EvE G N sc k env a ma) : EvE G N sc k env (.UnaryOp .USub a pos) (ma.bind pNeg) :=
  ⟨fun X hX P O => PE_imp (pe_un un_neg (ha.run X hX P O)) fun σ H Q ⟨r, q⟩ => ⟨r, (M.sat_bind.mp q).mono fun d q1 v H1 e1 r1 => by
    cases r1 with
    | int i => exact ⟨i, rfl, q1 _ H1 e1 (.int _)⟩
    | _ => exact q1.elim⟩⟩

/-! ### subscripts -/
def pIdx : PyData → PyData → M PyData
  | .list ds, .int i | .tuple ds, .int i => match atI ds i with
    | some d => .ok d
    | none => .err
  | .str z, .int i => if z.length ≤ sizeLine then match atI z.cps.toList i with
    | some c => .ok (.str ⟨#[c]⟩)
    | none => .err
    else .err
  | _, _ => .err
theorem atI_rp {K : PySem.W.Frag} {h : Hp} {vs : List V} {ds : List PyData} (r : RpAll K h vs ds) {i : Int} {d : PyData} (e : atI ds i = some d) : ∃ v, atI vs i = some v ∧ Rp K h v d := by
  unfold atI at e ⊢
  rw [rpAll_length r]
  cases q : ixN ds.length i with
  | none => rw [q] at e; cases e
  | some j =>
    rw [q] at e
    exact rpAll_get' r e
def plainIxB : Expr → Bool
  | .Slice _ _ _ _ => false
  | _ => true
theorem plainIx {b : Expr} (h : plainIxB b = true) : PlainIx b := fun o i => by
  cases b <;> first | rfl | cases h
theorem ev_idx (ha : EvE G N sc k env a ma) (hb : EvE G N sc k env b mb) (hp : plainIxB b = true := by rfl) : EvE G N sc k env (.Subscript a b pos) (ma.bind fun x => mb.bind fun y => pIdx x y) :=
  ⟨fun X hX P O => PE_imp (pe_ix ix_seq (ha.run X hX P O) (hb.run X hX P O) (plainIx hp)) fun σ H Q h => by
    obtain ⟨r, q⟩ := two ha hb hX h
    refine ⟨r, q.mono fun dx q1 x H1 e1 r1 => ?_⟩
    obtain ⟨r', q2⟩ := q1 x H1 e1 r1
    refine ⟨r', q2.mono fun dy q3 y H2 e2 r2 => ?_⟩
    obtain ⟨P', O', dx', dy', w, rx, ry, q4⟩ := q3 y H2 e2 r2
    rw [hX.eK]
    cases rx with
    | lst h1 a1 => cases ry with
      | int i =>
        unfold pIdx at q4
        dsimp only at q4
        cases e : atI _ i with
        | none => rw [e] at q4; exact q4.elim
        | some d =>
          rw [e] at q4
          obtain ⟨v, e', rv⟩ := atI_rp a1 e
          exact .inl ⟨_, _, i, v, rfl, rfl, SqL.of (msk_some h1).2, e', q4 _ H2 Ext.refl rv⟩
      | _ => exact q4.elim
    | tup h1 a1 => cases ry with
      | int i =>
        unfold pIdx at q4
        dsimp only at q4
        cases e : atI _ i with
        | none => rw [e] at q4; exact q4.elim
        | some d =>
          rw [e] at q4
          obtain ⟨v, e', rv⟩ := atI_rp a1 e
          exact .inr (.inl ⟨_, _, i, v, rfl, rfl, kp_sqt kp_msk h1, e', q4 _ H2 Ext.refl rv⟩)
      | _ => exact q4.elim
    | str z => cases ry with
      | int i =>
        unfold pIdx at q4
        dsimp only at q4
        obtain ⟨hz, q4⟩ := sat_if q4
        cases e : atI z.cps.toList i with
        | none => rw [e] at q4; exact q4.elim
        | some c =>
          rw [e] at q4
          exact .inr (.inr ⟨z, i, c, rfl, rfl, hz, e, q4 _ H2 Ext.refl (.str _)⟩)
      | _ => exact q4.elim
    | _ => cases ry <;> exact q4.elim⟩
end
end Ev

set_option Elab.async false
set_option linter.all false
set_option autoImplicit false
set_option maxRecDepth 100000
set_option maxHeartbeats 2000000
namespace Ev
open PySem PySem.Spec PyProof.Rows L2
section
variable {G : Glb} {N : List Str} {sc : Scope} {k : Lv} {env : Slots} {pos p : Pos} {a b c e : Expr} {es : List Expr} {ma mb mc : M PyData} {ms : M (List PyData)}
/-! ### slices -/
structure EvO (G : Glb) (N : List Str) (sc : Scope) (k : Lv) (env : Slots) (e : Option Expr) (m : M (Option Int)) : Prop where
  run : ∀ X, XOk G N sc k X → ∀ P O, PO X e fun σ H Q => R G P O env σ H ∧ m.Sat fun i => ∀ H', Ext G.T P H H' → Q i H'
theorem PO_imp {X : Cx} {e : Option Expr} {t t' : TO} (h : PO X e t) (i : ∀ σ H Q, t' σ H Q → t σ H Q) : PO X e t' := ⟨fun pins s σ H Q I q => h.run pins s σ H Q I (i σ H Q q)⟩
def toI : PyData → M (Option Int)
  | .int i => .ok (some i)
  | _ => .err
theorem eo_none : EvO G N sc k env none (.ok none) := ⟨fun X hX P O => PO_imp po_none fun σ H Q ⟨r, q⟩ => q H Ext.refl⟩
theorem eo_some (h : EvE G N sc k env e ma) : EvO G N sc k env (some e) (ma.bind toI) := ⟨fun X hX P O => PO_imp (po_some (h.run X hX P O)) fun σ H Q ⟨r, q⟩ => ⟨r, (M.sat_bind.mp q).mono fun d q1 v H1 e1 r1 => by
  cases r1 with
  | int i => exact ⟨i, rfl, q1 H1 e1⟩
  | _ => exact q1.elim⟩⟩
def cutD {α : Type} (xs : List α) (lo hi : Option Int) : List α := (xs.drop (HT.sIx xs.length 0 lo)).take (HT.sIx xs.length xs.length hi - HT.sIx xs.length 0 lo)
def pSlice (x : PyData) (lo hi : Option Int) : M PyData := match x with
  | .list ds => .ok (.list (cutD ds lo hi))
  | .tuple ds => .ok (.tuple (cutD ds lo hi))
  | _ => .err
theorem cut_rp {K : PySem.W.Frag} {h : Hp} {vs : List V} {ds : List PyData} (r : RpAll K h vs ds) (lo hi : Option Int) : RpAll K h (cutV vs lo hi) (cutD ds lo hi) := by
  unfold cutV cutD
  rw [rpAll_length r]
  exact rpAll_take _ (rpAll_drop _ r)
theorem ev_slice {lo hi : Option Expr} {ml mh : M (Option Int)} {p2 : Pos} (ha : EvE G N sc k env a ma) (hl : EvO G N sc k env lo ml) (hh : EvO G N sc k env hi mh) :
    EvE G N sc k env (.Subscript a (.Slice lo hi none p2) pos) (ma.bind fun x => ml.bind fun l => mh.bind fun h => pSlice x l h) :=
  ⟨fun X hX P O => PE_imp (pe_slice (sl_list.or sl_tupA) (ha.run X hX P O) (hl.run X hX P O) (hh.run X hX P O)) fun σ H Q ⟨r, q⟩ => by
    refine ⟨r, (M.sat_bind.mp q).mono fun dx q1 x H1 e1 r1 => ⟨r.ext e1, (M.sat_bind.mp q1).mono fun l q2 H2 e2 => ⟨r.ext (e1.trans e2), (M.sat_bind.mp q2).mono fun h q3 H3 e3 => ?_⟩⟩⟩
    have w3 := r.wf.ext ((e1.trans e2).trans e3)
    have rx := rp_mono ((e2.trans e3).kp (r.wf.ext e1)) r1
    have e13 := (e1.trans e2).trans e3
    rw [hX.eK]
    cases rx with
    | lst h1 a1 => exact .inl ⟨_, _, rfl, SqL.of (msk_some h1).2, fun p n => q3 _ _ (e13.trans (Ext.new n)) (rp_new_lst w3 n (cut_rp a1 l h))⟩
    | tup h1 a1 =>
      refine .inr ⟨_, _, rfl, kp_sqt kp_msk h1, fun hw => q3 _ _ e13 (.tup h1 ?_), fun _ p n => q3 _ _ (e13.trans (Ext.new n)) (rp_new_tup w3 n (cut_rp a1 l h))⟩
      have z := cut_rp a1 l h
      have e : cutV _ l h = _ := show (List.take _ (List.drop _ _)) = _ by
        rw [hw.1, hw.2, List.drop_zero, Nat.sub_zero, List.take_length]
      rw [e] at z
      exact z
    | _ => exact q3.elim⟩
/-- list[::-1] -/
def pRevL : PyData → M PyData
  | .list ds => .ok (.list ds.reverse)
  | _ => .err
theorem rpAll_reverse {K : PySem.W.Frag} {h : Hp} : ∀ {vs : List V} {ds : List PyData}, RpAll K h vs ds → RpAll K h vs.reverse ds.reverse
  | _, _, .nil => .nil
  | _, _, .cons q r => by rw [List.reverse_cons, List.reverse_cons]; exact rpAll_append (rpAll_reverse r) (.cons q .nil)
theorem ev_revL {k' : Nat} {p1 p2 p3 : Pos} (ha : EvE G N sc k env a ma) : EvE G N sc k env (.Subscript a (.Slice none none (some (.UnaryOp .USub (.Constant (.int 1) k' p1) p2)) p3) pos) (ma.bind pRevL) :=
  ⟨fun X hX P O => PE_imp (pe_revL (ha.run X hX P O)) fun σ H Q ⟨r, q⟩ => ⟨r, (M.sat_bind.mp q).mono fun d q1 v H1 e1 r1 => by
    cases r1 with
    | lst h1 a1 => exact ⟨_, _, rfl, SqL.of (msk_some h1).2, fun p n => q1 _ _ (e1.trans (Ext.new n)) (rp_new_lst (r.wf.ext e1) n (rpAll_reverse a1))⟩
    | _ => exact q1.elim⟩⟩

/-! ### calls of built-ins, by data -/
def rCD (G : Glb) (g : List PyData → M PyData) : List V → Hp → VK → Prop := fun vs H Q => ∃ P O ds, Wf P O H ∧ RpAll G.K (msk O H) vs ds ∧ (g ds).Sat fun d => ∀ v H', Ext G.T P H H' → Rp G.K (msk O H') v d → Q v H'
def CalD (G : Glb) (k : Lv) (f : Value) (g : List PyData → M PyData) : Prop := ∀ N sc X, XOk G N sc k X → CallR X f (rCD G g)
theorem callr_imp {X : Cx} {f : Value} {r r' : List V → Hp → VK → Prop} (h : CallR X f r) (i : ∀ vs H Q, r' vs H Q → r vs H Q) : CallR X f r' := fun pins s σ H vs us Q I rv q => h pins s σ H vs us Q I rv (i _ _ _ q)
theorem args_read {X : Cx} {P O : List Addr} {g : List PyData → M PyData} {σ : L2.St} {H : Hp} {Q : VK} (h : tE G P O env (ms.bind g) σ H Q) : tA G P O env ms σ H fun vs H1 => rCD G g vs H1 Q := by
  obtain ⟨r, q⟩ := h
  exact ⟨r, (M.sat_bind.mp q).mono fun ds q1 vs H1 e1 r1 => ⟨P, O, ds, r.wf.ext e1, r1, q1.mono fun d q2 v H' e2 r2 => q2 v H' (e1.trans e2) r2⟩⟩
theorem noStars {es : List Expr} {X : PySem.Env} {pos : Pos} (h : es.all notStar = true) : (backTo pos (starEach es X)).any (·.1) = false := by
  have z : ∀ es : List Expr, es.all notStar = true → (starEach es X).any (·.1) = false := fun es => by
    induction es with
    | nil => intro _; rfl
    | cons e r ih =>
      intro h
      obtain ⟨h1, h2⟩ := Bool.and_eq_true_iff.mp (show (notStar e && r.all notStar) = true from h)
      rw [star_no h1, List.any_cons, ih h2]
      rfl
  have q := z es h
  first
    | exact q
    | (unfold backTo; simpa [List.any_map] using q)
    | (cases es with
       | nil => rfl
       | cons e r => simpa [backTo, List.any_map] using q)
theorem ev_callB {x : Str} {id : String} {g : List PyData → M PyData} (hc : CalD G k (.builtin id) g) (ha : EvA G N sc k env (e :: es) ms) (hm : G.mg x = none) (hv : bootBuiltins x = some (.builtin id) := by decide +kernel) (hg : sc.names.lookup x = some .globalImplicit := by rfl)
    (hn : x ≠ "__name__" := by decide) (hdb : (x == ("__debug__" : Str)) = false := by decide) (h1 : notStar e = true := by rfl) (h2 : es.all notStar = true := by rfl) :
    EvE G N sc k env (.Call (.Name x p) (e :: es) [] pos) (ms.bind g) :=
  ⟨fun X hX P O => PE_imp (pe_callB (hc N sc X hX) (by show X.env.scope.names.lookup x = _; rw [hX.eSc]; exact hg) (by rw [hX.eMg]; exact hm) hv (ha.run X hX P O) hn hdb (star_no h1) (noStars h2)) fun σ H Q h => args_read (X := X) h⟩
theorem ev_callTy {x : Str} {T : String} {g : List PyData → M PyData} (hc : CalD G k (.type T) g) (ha : EvA G N sc k env (e :: es) ms) (hm : G.mg x = none) (hv : bootBuiltins x = some (.type T) := by decide +kernel) (hg : sc.names.lookup x = some .globalImplicit := by rfl)
    (hn : x ≠ "__name__" := by decide) (hdb : (x == ("__debug__" : Str)) = false := by decide) (h1 : notStar e = true := by rfl) (h2 : es.all notStar = true := by rfl) :
    EvE G N sc k env (.Call (.Name x p) (e :: es) [] pos) (ms.bind g) :=
  ⟨fun X hX P O => PE_imp (pe_callTy (hc N sc X hX) (by show X.env.scope.names.lookup x = _; rw [hX.eSc]; exact hg) (by rw [hX.eMg]; exact hm) hv (ha.run X hX P O) hn hdb (star_no h1) (noStars h2)) fun σ H Q h => args_read (X := X) h⟩
end
/-! ### the built-ins -/
def bLen : List PyData → M PyData
  | [.list ds] => .ok (.int ds.length)
  | [.tuple ds] => .ok (.int ds.length)
  | [.str z] => if z.length ≤ sizeLine then .ok (.int z.length) else .err
  | _ => .err
def bList : List PyData → M PyData
  | [.list ds] => .ok (.list ds)
  | [.tuple ds] => .ok (.list ds)
  | _ => .err
def bTuple : List PyData → M PyData
  | [.list ds] => .ok (.tuple ds)
  | [.tuple ds] => .ok (.tuple ds)
  | _ => .err
def boolsOf : List PyData → Option (List Bool)
  | [] => some []
  | .bool b :: r => (boolsOf r).map (b :: ·)
  | _ => none
def intsOf : List PyData → Option (List Int)
  | [] => some []
  | .int b :: r => (intsOf r).map (b :: ·)
  | _ => none
def bAll : List PyData → M PyData
  | [.list ds] => match boolsOf ds with
    | some bs => .ok (.bool (bs.all id))
    | none => .err
  | _ => .err
def bAny : List PyData → M PyData
  | [.list ds] => match boolsOf ds with
    | some bs => .ok (.bool (bs.any id))
    | none => .err
  | _ => .err
def bSum : List PyData → M PyData
  | [.list ds] => match intsOf ds with
    | some ns => .ok (.int ns.sum)
    | none => .err
  | _ => .err
def bAbs : List PyData → M PyData
  | [.int i] => .ok (.int (if i < 0 then -i else i))
  | _ => .err
def bInt : List PyData → M PyData
  | [.int i] => .ok (.int i)
  | [.bool b] => .ok (.int (if b then 1 else 0))
  | _ => .err
def bDivmod : List PyData → M PyData
  | [.int i, .int j] => if 0 < j ∧ j < 1073741824 then .ok (.tuple [.int (i / j), .int (i % j)]) else .err
  | _ => .err
section
variable {G : Glb} {k : Lv}
theorem rp1 {K : PySem.W.Frag} {h : Hp} {vs : List V} {d : PyData} (r : RpAll K h vs [d]) : ∃ v, vs = [v] ∧ Rp K h v d := by
  cases r with
  | cons q r => cases r; exact ⟨_, rfl, q⟩
theorem rp2 {K : PySem.W.Frag} {h : Hp} {vs : List V} {d e : PyData} (r : RpAll K h vs [d, e]) : ∃ v w, vs = [v, w] ∧ Rp K h v d ∧ Rp K h w e := by
  cases r with
  | cons q r =>
    obtain ⟨w, rfl, q2⟩ := rp1 r
    exact ⟨_, _, rfl, q, q2⟩
theorem bools_rp {K : PySem.W.Frag} {h : Hp} : ∀ {ds : List PyData} {vs : List V} {bs : List Bool}, RpAll K h vs ds → boolsOf ds = some bs → vs = bs.map V.bl
  | [], _, _, .nil, e => by cases e; rfl
  | d :: ds, _, bs, .cons q r, e => by
    cases d <;> try (cases e; done)
    rename_i b
    cases q
    unfold boolsOf at e
    cases h2 : boolsOf ds with
    | none => rw [h2] at e; cases e
    | some cs =>
      rw [h2] at e
      cases e
      rw [bools_rp r h2]
      rfl
theorem ints_rp {K : PySem.W.Frag} {h : Hp} : ∀ {ds : List PyData} {vs : List V} {bs : List Int}, RpAll K h vs ds → intsOf ds = some bs → vs = bs.map V.int
  | [], _, _, .nil, e => by cases e; rfl
  | d :: ds, _, bs, .cons q r, e => by
    cases d <;> try (cases e; done)
    rename_i b
    cases q
    unfold intsOf at e
    cases h2 : intsOf ds with
    | none => rw [h2] at e; cases e
    | some cs =>
      rw [h2] at e
      cases e
      rw [ints_rp r h2]
      rfl
theorem cd_len : CalD G k (.builtin "len") bLen := fun N sc X hX => callr_imp (call_len_seq.or call_len_str) fun vs H Q h => by
  obtain ⟨P, O, ds, w, r, q⟩ := h
  match ds, r, q with
  | [.list xs], r, q =>
    obtain ⟨v, rfl, r1⟩ := rp1 r
    cases r1 with
    | lst h1 a1 =>
      refine .inl ⟨_, _, rfl, .inl (SqL.of (msk_some h1).2), ?_⟩
      rw [rpAll_length a1]
      exact q _ H Ext.refl (.int _)
  | [.tuple xs], r, q =>
    obtain ⟨v, rfl, r1⟩ := rp1 r
    cases r1 with
    | tup h1 a1 =>
      rw [hX.eK]
      refine .inl ⟨_, _, rfl, .inr (kp_sqt kp_msk h1), ?_⟩
      rw [rpAll_length a1]
      exact q _ H Ext.refl (.int _)
  | [.str z], r, q =>
    obtain ⟨v, rfl, r1⟩ := rp1 r
    cases r1
    obtain ⟨hz, q⟩ := sat_if q
    exact .inr ⟨z, rfl, hz, q _ H Ext.refl (.int _)⟩
theorem cd_list : CalD G k (.type "list") bList := fun N sc X hX => callr_imp call_list_of fun vs H Q h => by
  obtain ⟨P, O, ds, w, r, q⟩ := h
  rw [hX.eK]
  match ds, r, q with
  | [.list xs], r, q =>
    obtain ⟨v, rfl, r1⟩ := rp1 r
    cases r1 with
    | lst h1 a1 => exact ⟨_, _, rfl, .inl (SqL.of (msk_some h1).2), fun p n => q _ _ (Ext.new n) (rp_new_lst w n a1)⟩
  | [.tuple xs], r, q =>
    obtain ⟨v, rfl, r1⟩ := rp1 r
    cases r1 with
    | tup h1 a1 => exact ⟨_, _, rfl, .inr (kp_sqt kp_msk h1), fun p n => q _ _ (Ext.new n) (rp_new_lst w n a1)⟩
theorem cd_tuple : CalD G k (.type "tuple") bTuple := fun N sc X hX => by
  intro pins s σ H vs us Q I rv h
  obtain ⟨P, O, ds, w, r, q⟩ := h
  match ds, r, q with
  | [.list xs], r, q =>
    obtain ⟨v, rfl, r1⟩ := rp1 r
    obtain ⟨u, rfl, ru⟩ := vals1 rv
    cases r1 with
    | lst h1 a1 => exact rl_tuple pins s σ H _ u Q I ru (.inl ⟨_, _, rfl, SqL.of (msk_some h1).2, fun p n => q _ _ (Ext.new n) (rp_new_tup w n a1)⟩)
  | [.tuple xs], r, q =>
    obtain ⟨v, rfl, r1⟩ := rp1 r
    obtain ⟨u, rfl, ru⟩ := vals1 rv
    cases r1 with
    | tup h1 a1 => exact rl_tuple pins s σ H _ u Q I ru (.inr ⟨_, _, rfl, by rw [hX.eK]; exact kp_sqt kp_msk h1, q _ _ Ext.refl (.tup h1 a1)⟩)
theorem cd_all : CalD G k (.builtin "all") bAll := fun N sc X hX => callr_imp (cr_all hX.calm) fun vs H Q h => by
  obtain ⟨P, O, ds, w, r, q⟩ := h
  match ds, r, q with
  | [.list xs], r, q =>
    obtain ⟨v, rfl, r1⟩ := rp1 r
    cases r1 with
    | lst h1 a1 =>
      unfold bAll at q
      dsimp only at q
      cases e : boolsOf xs with
      | none => rw [e] at q; exact q.elim
      | some bs =>
        rw [e] at q
        have z := bools_rp a1 e
        subst z
        exact ⟨_, bs, rfl, SqL.of (msk_some h1).2, q _ H Ext.refl (.bl _)⟩
theorem cd_any : CalD G k (.builtin "any") bAny := fun N sc X hX => callr_imp (cr_any hX.calm) fun vs H Q h => by
  obtain ⟨P, O, ds, w, r, q⟩ := h
  match ds, r, q with
  | [.list xs], r, q =>
    obtain ⟨v, rfl, r1⟩ := rp1 r
    cases r1 with
    | lst h1 a1 =>
      unfold bAny at q
      dsimp only at q
      cases e : boolsOf xs with
      | none => rw [e] at q; exact q.elim
      | some bs =>
        rw [e] at q
        have z := bools_rp a1 e
        subst z
        exact ⟨_, bs, rfl, SqL.of (msk_some h1).2, q _ H Ext.refl (.bl _)⟩
theorem cd_sum : CalD G k (.builtin "sum") bSum := fun N sc X hX => callr_imp (cr_sum hX.calm) fun vs H Q h => by
  obtain ⟨P, O, ds, w, r, q⟩ := h
  match ds, r, q with
  | [.list xs], r, q =>
    obtain ⟨v, rfl, r1⟩ := rp1 r
    cases r1 with
    | lst h1 a1 =>
      unfold bSum at q
      dsimp only at q
      cases e : intsOf xs with
      | none => rw [e] at q; exact q.elim
      | some bs =>
        rw [e] at q
        have z := ints_rp a1 e
        subst z
        exact ⟨_, bs, rfl, SqL.of (msk_some h1).2, q _ H Ext.refl (.int _)⟩
theorem cd_abs : CalD G k (.builtin "abs") bAbs := fun N sc X hX => callr_imp call_abs fun vs H Q h => by
  obtain ⟨P, O, ds, w, r, q⟩ := h
  match ds, r, q with
  | [.int i], r, q =>
    obtain ⟨v, rfl, r1⟩ := rp1 r
    cases r1
    exact ⟨i, rfl, q _ H Ext.refl (.int _)⟩
theorem cd_int : CalD G k (.type "int") bInt := fun N sc X hX => callr_imp call_int1 fun vs H Q h => by
  obtain ⟨P, O, ds, w, r, q⟩ := h
  match ds, r, q with
  | [.int i], r, q =>
    obtain ⟨v, rfl, r1⟩ := rp1 r
    cases r1
    exact .inl ⟨i, rfl, q _ H Ext.refl (.int _)⟩
  | [.bool i], r, q =>
    obtain ⟨v, rfl, r1⟩ := rp1 r
    cases r1
    exact .inr ⟨i, rfl, q _ H Ext.refl (.int _)⟩
theorem cd_divmod : CalD G k (.builtin "divmod") bDivmod := fun N sc X hX => callr_imp call_divmod fun vs H Q h => by
  obtain ⟨P, O, ds, w, r, q⟩ := h
  match ds, r, q with
  | [.int i, .int j], r, q =>
    obtain ⟨v, w', rfl, r1, r2⟩ := rp2 r
    cases r1
    cases r2
    obtain ⟨hc, q⟩ := sat_if q
    exact ⟨i, j, rfl, hc, fun p n => q _ _ (Ext.new n) (rp_new_tup w n (.cons (.int _) (.cons (.int _) .nil)))⟩
end
end Ev

set_option Elab.async false
set_option linter.all false
set_option autoImplicit false
set_option maxRecDepth 100000
set_option maxHeartbeats 2000000
namespace Ev
open PySem PySem.Spec PyProof.Rows L2

theorem M.Sat.ex {α : Type} {Q : α → Prop} : ∀ {m : M α}, m.Sat Q → ∃ a, Q a
  | .ok a, h => ⟨a, h⟩
  | .err, h => h.elim
  | .draw n k, h => M.Sat.ex (h.2 0 (Int.le_refl 0) h.1)

/-! ### slots set, slots forgotten -/
theorem RelA.same {G : Glb} {P O O' : List Addr} {H H' : Hp} (k : Kp (msk O H) (msk O' H')) {v : V} {a : AV} (r : RelA G P O H v a) : RelA G P O' H' v a := by
  cases a with
  | d x => exact rp_mono k r
  | p => exact r
  | s ns =>
    obtain ⟨a, h1, h2⟩ := r
    exact ⟨a, h1, kp_sql k h2⟩
  | c n f =>
    obtain ⟨a, h1, h2⟩ := r
    exact ⟨a, h1, h2.mono k⟩
section
variable {G : Glb} {P O : List Addr} {H H1 H2 : Hp} {env : Slots} {σ : L2.St}
theorem R.set (r : R G P O env σ H) {i : Nat} {v : V} {a : AV} (ha : RelA G P O H v a) (hi : i < env.length) : R G P O (env.set i (.v a)) (σ.set i (some v)) H := by
  refine ⟨r.wf, r.tabs, fun j sl h => ?_, by rw [List.length_set, List.length_set, r.len], fun p q ds es b h1 h2 h3 h4 => ?_⟩
  · by_cases hj : i = j
    · subst hj
      rw [List.getElem?_set_self hi] at h
      cases h
      exact ⟨v, List.getElem?_set_self (by rw [r.len]; exact hi), ha⟩
    · rw [List.getElem?_set_ne hj] at h
      have z := r.at_ j sl h
      rw [List.getElem?_set_ne hj]
      exact z
  · have n1 : i ≠ p := fun e => by subst e; rw [List.getElem?_set_self hi] at h1; cases h1
    have n2 : i ≠ q := fun e => by subst e; rw [List.getElem?_set_self hi] at h2; cases h2
    rw [List.getElem?_set_ne n1] at h1 h3
    rw [List.getElem?_set_ne n2] at h2 h4
    exact r.dist p q ds es b h1 h2 h3 h4
/-- env' tells no more than env -/
def SlotLe : Slot → Slot → Prop := fun a b => b = .un ∨ a = b
def EnvLe (env env' : Slots) : Prop := env.length = env'.length ∧ ∀ (i : Nat) (sl : Slot), env'[i]? = some sl → sl = Slot.un ∨ env[i]? = some sl
theorem R.le (r : R G P O env σ H) {env' : Slots} (h : EnvLe env env') : R G P O env' σ H := by
  refine ⟨r.wf, r.tabs, fun i sl e => ?_, by rw [r.len, h.1], fun p q ds es b h1 h2 h3 h4 => ?_⟩
  · rcases h.2 i sl e with z | z
    · subst z; trivial
    · exact r.at_ i sl z
  · rcases h.2 p _ h1 with z | z1
    · cases z
    rcases h.2 q _ h2 with z | z2
    · cases z
    exact r.dist p q ds es b z1 z2 h3 h4
def wipeE (env : Slots) : List Nat → Slots
  | [] => env
  | v :: vs => (wipeE env vs).set v .un
theorem wipeE_length (env : Slots) : ∀ vs, (wipeE env vs).length = env.length
  | [] => rfl
  | v :: vs => by unfold wipeE; rw [List.length_set, wipeE_length env vs]
theorem wipeE_le {env : Slots} : ∀ (vs : List Nat), EnvLe env (wipeE env vs) ∧ ∀ (i : Nat) (sl : Slot), (wipeE env vs)[i]? = some sl → sl = Slot.un ∨ i ∉ vs
  | [] => ⟨⟨rfl, fun i sl h => .inr h⟩, fun i sl h => .inr (by simp)⟩
  | v :: vs => by
    obtain ⟨⟨h1, h2⟩, h3⟩ := wipeE_le (env := env) vs
    refine ⟨⟨(wipeE_length env (v :: vs)).symm, fun i sl h => ?_⟩, fun i sl h => ?_⟩
    · unfold wipeE at h
      by_cases hi : v = i
      · subst hi
        rw [List.getElem?_set] at h
        split at h
        · split at h
          · cases h; exact .inl rfl
          · cases h
        · exact h2 _ _ h
      · rw [List.getElem?_set_ne hi] at h
        exact h2 i sl h
    · unfold wipeE at h
      by_cases hi : v = i
      · subst hi
        rw [List.getElem?_set] at h
        split at h
        · split at h
          · cases h; exact .inl rfl
          · cases h
        · rename_i hh; exact absurd rfl hh
      · rw [List.getElem?_set_ne hi] at h
        rcases h3 i sl h with z | z
        · exact .inl z
        · exact .inr (by simp only [List.mem_cons, not_or]; exact ⟨fun e => hi e.symm, z⟩)
theorem R.wipe (r : R G P O env σ H) (vs : List Nat) : R G P O (wipeE env vs) (wipe σ vs) H := by
  have q := wipeE_le (env := env) vs
  have r1 := r.le q.1
  refine ⟨r.wf, r.tabs, fun i sl e => ?_, by rw [wipe_length, wipeE_length, r.len], fun p q' ds es b h1 h2 h3 h4 => r1.dist p q' ds es b h1 h2 (wipe_some h3).1 (wipe_some h4).1⟩
  have z := r1.at_ i sl e
  rcases q.2 i sl e with y | y
  · subst y; trivial
  · rw [wipe_out y]; exact z
theorem wipe_set {v : Option V} {i : Nat} : ∀ {vs : List Nat}, i ∈ vs → wipe (σ.set i v) vs = wipe σ vs
  | [], h => by cases h
  | w :: vs, h => by
    unfold wipe
    by_cases hi : i = w
    · subst hi
      have z : ∀ vs : List Nat, (wipe (σ.set i v) vs).set i none = (wipe σ vs).set i none := fun vs => by
        induction vs with
        | nil => show (σ.set i v).set i none = σ.set i none; rw [List.set_set]
        | cons w vs ih =>
          show ((wipe (σ.set i v) vs).set w none).set i none = ((wipe σ vs).set w none).set i none
          by_cases e : w = i
          · subst e; rw [List.set_set, List.set_set, ih]
          · rw [List.set_comm _ _ e, ih, List.set_comm _ _ e]
      exact z vs
    · have h' : i ∈ vs := by
        rcases List.mem_cons.mp h with e | e
        · exact absurd e hi
        · exact e
      rw [wipe_set h']
/-- a new object is put among what is protected -/
theorem kp_more {T : List (Addr × Str)} (w : Wf P O H) (e : Ext T P H H1) {D : Addr} (hD : Fr0 H D) : Kp (msk O H) (msk (D :: O) H1) := fun a o q t => by
  obtain ⟨h1, h2⟩ := msk_some q
  have n : a ∉ D :: O := fun m => by
    rcases List.mem_cons.mp m with z | z
    · subst z; exact hD _ h2 t
    · exact h1 z
  rw [msk_out n]
  exact e.keep a o h2 (fun m => h1 (w.pots a m).1) t
theorem R.more (r : R G P O env σ H) (e : Ext G.T P H H1) {D : Addr} (hD : Fr0 H D) (ho : ∃ o, H1 D = some o ∧ OwnO o) : R G P (D :: O) env σ H1 := by
  have k := kp_more r.wf e hD
  have w1 := r.wf.ext e
  refine ⟨⟨fun a m => ⟨List.mem_cons_of_mem _ (w1.pots a m).1, (w1.pots a m).2⟩, fun a m => ?_⟩, tabs_ext e r.tabs, fun i sl h => ?_, r.len, r.dist⟩
  · rcases List.mem_cons.mp m with z | z
    · subst z; exact ho
    · exact w1.occ a z
  · have z := (r.ext e).at_ i sl h
    have z0 := r.at_ i sl h
    cases sl with
    | un => trivial
    | v a =>
      obtain ⟨x, h1, h2⟩ := z0
      exact ⟨x, h1, h2.same k⟩
    | own d =>
      cases d with
      | list ds =>
        obtain ⟨a, vs, h1, h2, h3, h4, h5⟩ := z0
        exact ⟨a, vs, h1, List.mem_cons_of_mem _ h2, h3, e.keep a _ h4 h3 trivial, rpAll_mono k h5⟩
      | dict es =>
        obtain ⟨a, vs, h1, h2, h3, h4, h5⟩ := z0
        exact ⟨a, vs, h1, List.mem_cons_of_mem _ h2, h3, e.keep a _ h4 h3 trivial, rpKv_mono k h5⟩
      | _ => exact z0.elim
end
theorem msk_same {D : Addr} {O : List Addr} {H : Hp} {o : HO} : msk (D :: O) (upd H D o) = msk (D :: O) H := by
  funext a
  unfold msk
  split
  · rfl
  · rename_i h
    have : a ≠ D := fun e => h (by rw [e]; exact List.mem_cons_self)
    exact upd_ne this

/-! ### what is walked -/
structure WkOk (G : Glb) (O : List Addr) (J : It) (ds : List PyData) (H1 : Hp) : Prop where
  goes : ∀ (i : Nat) (H : Hp) (O2 : List Addr), i < ds.length → Kp (msk O H1) (msk O2 H) → J.go i H
  stops : ∀ (H : Hp) (O2 : List Addr), Kp (msk O H1) (msk O2 H) → J.stop ds.length H
  yields : ∀ (i : Nat) (H : Hp) (O2 : List Addr) (x : V) (H' : Hp), i < ds.length → Kp (msk O H1) (msk O2 H) → (∀ a ∈ O2, ∃ o, H a = some o) → J.yld i H x H' →
    (∀ P, Ext G.T P H H') ∧ ∃ d, ds[i]? = some d ∧ Rp G.K (msk O2 H') x d
structure EvI (G : Glb) (N : List Str) (sc : Scope) (k : Lv) (env : Slots) (tg iter : Expr) (m : M (List PyData)) : Prop where
  run : ∀ X, XOk G N sc k X → ∀ P O, PI X tg iter fun σ H R' => R G P O env σ H ∧ m.Sat fun ds => ∀ J H', Ext G.T P H H' → WkOk G O J ds H' → R' J H'
theorem PI_imp {X : Cx} {tg iter : Expr} {t t' : TI} (h : PI X tg iter t) (i : ∀ σ H R, t' σ H R → t σ H R) : PI X tg iter t' := ⟨fun pins s σ H Q I q => h.run pins s σ H Q I (i σ H Q q)⟩
section
variable {X : Cx} {tg : Expr}
def iSeq (K : PySem.W.Frag) (tl : TE) : TI := fun σ H R => tl σ H fun x H1 => ∃ a, x = .ref a ∧ (((∃ xs, SqL K H1 a xs) ∧ R (Itl K a) H1) ∨ ((∃ xs, SqT K H1 a xs) ∧ R (Itt K a) H1))
theorem pi_seq {l : Expr} {tl : TE} (hl : PE X l tl) : PI X tg l (iSeq X.K tl) := by
  refine ⟨fun pins s σ H R I h => ?_⟩
  refine thn (hl.run pins s σ H _ I h) fun v s1 ⟨x, H1, I1, r1, q1⟩ => ?_
  obtain ⟨a, e, q1⟩ := q1
  subst e
  cases r1
  rcases q1 with ⟨⟨xs, hq⟩, q⟩ | ⟨⟨xs, hq⟩, q⟩
  · obtain ⟨its, rv, p, hz⟩ := I1.list hq
    refine wpAny_pyIter_list p.isList ?_
    refine ⟨s1.heap.objs.size, [s1.heap.objs.size], _, _, H1, rfl, I1.kept (t' := s1.toks) fun b o e => Heap.get?_push_of_some _ e, turn_list a _, ⟨_, Heap.get?_push_size _ rfl, rfl, rfl⟩, fun b hb => ?_, q⟩
    have e : b = s1.heap.objs.size := by simpa using hb
    subst e
    exact I1.fpOk (Nat.le_refl _) (I1.hok.fresh (Nat.le_refl _))
  · obtain ⟨its, rv, p, hz⟩ := I1.tuple hq
    refine wpAny_pyIter_tuple (show s1.heap.IsTuple a its.toArray from p) ?_
    refine ⟨s1.heap.objs.size, [s1.heap.objs.size], _, _, H1, rfl, I1.kept (t' := s1.toks) fun b o e => Heap.get?_push_of_some _ e, turn_tuple a _, ⟨_, Heap.get?_push_size _ rfl, rfl, rfl⟩, fun b hb => ?_, q⟩
    have e : b = s1.heap.objs.size := by simpa using hb
    subst e
    exact I1.fpOk (Nat.le_refl _) (I1.hok.fresh (Nat.le_refl _))
end
def items : PyData → M (List PyData)
  | .list ds => .ok ds
  | .tuple ds => .ok ds
  | _ => .err
theorem getx {α : Type} {xs : List α} {i : Nat} (h : i < xs.length) : ∃ x, xs[i]? = some x := ⟨xs[i], by simp [h]⟩
section
variable {G : Glb} {N : List Str} {sc : Scope} {k : Lv} {env : Slots} {pos p tpos : Pos} {tg e e2 : Expr} {m : M PyData} {O : List Addr} {H1 : Hp} {a b : Addr} {vs ws : List V} {ds es : List PyData}
theorem wk_list (h : H1 a = some (.lst vs)) (ha : a ∉ O) (r : RpAll G.K (msk O H1) vs ds) : WkOk G O (Itl G.K a) ds H1 := by
  have hl := rpAll_length r
  have st : ∀ {H : Hp} {O2 : List Addr}, Kp (msk O H1) (msk O2 H) → SqL G.K H a vs := fun kp => SqL.of (msk_some (kp a (.lst vs) ((msk_out ha).trans h) trivial)).2
  refine ⟨fun i H O2 hi kp => ?_, fun H O2 kp => ⟨vs, st kp, by omega⟩, fun i H O2 x H' hi kp ho y => ?_⟩
  · obtain ⟨x, hx⟩ := getx (xs := vs) (i := i) (by omega)
    exact ⟨vs, x, st kp, hx⟩
  · obtain ⟨y1, y2⟩ := y
    subst y1
    obtain ⟨d, h1, h2⟩ := rpAll_get r (y2 vs (st kp))
    exact ⟨fun P => Ext.refl, d, h1, rp_mono kp h2⟩
theorem wk_tup (h : SqT G.K (msk O H1) a vs) (r : RpAll G.K (msk O H1) vs ds) : WkOk G O (Itt G.K a) ds H1 := by
  have hl := rpAll_length r
  have st : ∀ {H : Hp} {O2 : List Addr}, Kp (msk O H1) (msk O2 H) → SqT G.K H a vs := fun kp => kp_sqt kp_msk (kp_sqt kp h)
  refine ⟨fun i H O2 hi kp => ?_, fun H O2 kp => ⟨vs, st kp, by omega⟩, fun i H O2 x H' hi kp ho y => ?_⟩
  · obtain ⟨x, hx⟩ := getx (xs := vs) (i := i) (by omega)
    exact ⟨vs, x, st kp, hx⟩
  · obtain ⟨y1, y2⟩ := y
    subst y1
    obtain ⟨d, h1, h2⟩ := rpAll_get r (y2 vs (st kp))
    exact ⟨fun P => Ext.refl, d, h1, rp_mono kp h2⟩
theorem ei_val (he : EvE G N sc k env e m) : EvI G N sc k env tg e (m.bind items) :=
  ⟨fun X hX P O => PI_imp (pi_seq (he.run X hX P O)) fun σ H R' ⟨r, q⟩ => ⟨r, (M.sat_bind.mp q).mono fun d q1 v H1 e1 r1 => by
    rw [hX.eK]
    cases r1 with
    | lst h1 a1 => exact ⟨_, rfl, .inl ⟨⟨_, SqL.of (msk_some h1).2⟩, q1 _ _ e1 (wk_list (msk_some h1).2 (msk_some h1).1 a1)⟩⟩
    | tup h1 a1 => exact ⟨_, rfl, .inr ⟨⟨_, kp_sqt kp_msk h1⟩, q1 _ _ e1 (wk_tup h1 a1)⟩⟩
    | _ => exact q1.elim⟩⟩
/-- a list of the frame's own walked (it is not changed meanwhile) -/
def rangeD (lo : Int) (n : Nat) : List PyData := (List.range n).map fun i => .int (lo + (i : Nat))
theorem wk_range {lo : Int} {n : Nat} : WkOk G O (Itr lo n) (rangeD lo n) H1 := by
  have hl : (rangeD lo n).length = n := by simp [rangeD]
  refine ⟨fun i H O2 hi kp => by rw [hl] at hi; exact hi, fun H O2 kp => by rw [hl]; exact Nat.le_refl n, fun i H O2 x H' hi kp ho y => ?_⟩
  obtain ⟨y1, y2⟩ := y
  subst y1 y2
  rw [hl] at hi
  exact ⟨fun P => Ext.refl, _, by simp [rangeD, hi], .int _⟩
def rng1 : List PyData → M (List PyData)
  | [.int j] => if -(2 ^ 62) ≤ j ∧ j < 2 ^ 62 then .ok (rangeD 0 j.toNat) else .err
  | _ => .err
def rng2 : List PyData → M (List PyData)
  | [.int i, .int j] => if -(2 ^ 62) ≤ i ∧ i < 2 ^ 62 ∧ -(2 ^ 62) ≤ j ∧ j < 2 ^ 62 then .ok (rangeD i (j - i).toNat) else .err
  | _ => .err
theorem ei_rng1 {ms : M (List PyData)} (ha : EvA G N sc k env [e] ms) (hm : G.mg "range" = none) (hg : sc.names.lookup ("range" : Str) = some .globalImplicit := by rfl) (h1 : notStar e = true := by rfl) :
    EvI G N sc k env tg (.Call (.Name "range" p) [e] [] pos) (ms.bind rng1) :=
  ⟨fun X hX P O => PI_imp (pi_range1 (by show X.env.scope.names.lookup _ = _; rw [hX.eSc]; exact hg) (by rw [hX.eMg]; exact hm) (ha.run X hX P O) (star_no h1)) fun σ H R' ⟨r, q⟩ => ⟨r, (M.sat_bind.mp q).mono fun ds q1 vs H1 e1 r1 => by
    match ds, r1, q1 with
    | [.int j], r1, q1 =>
      obtain ⟨v, rfl, r2⟩ := rp1 r1
      cases r2
      obtain ⟨hc, q2⟩ := sat_if q1
      exact ⟨j, rfl, hc.1, hc.2, q2 _ _ e1 wk_range⟩⟩⟩
theorem ei_rng2 {ms : M (List PyData)} (ha : EvA G N sc k env [e, e2] ms) (hm : G.mg "range" = none) (hg : sc.names.lookup ("range" : Str) = some .globalImplicit := by rfl) (h1 : notStar e = true := by rfl) (h2 : notStar e2 = true := by rfl) :
    EvI G N sc k env tg (.Call (.Name "range" p) [e, e2] [] pos) (ms.bind rng2) :=
  ⟨fun X hX P O => PI_imp (pi_range2 (by show X.env.scope.names.lookup _ = _; rw [hX.eSc]; exact hg) (by rw [hX.eMg]; exact hm) (ha.run X hX P O) (by rw [star_no h1, star_no h2]; rfl) (star_no h2)) fun σ H R' ⟨r, q⟩ => ⟨r, (M.sat_bind.mp q).mono fun ds q1 vs H1 e1 r1 => by
    match ds, r1, q1 with
    | [.int i, .int j], r1, q1 =>
      obtain ⟨v, w, rfl, r2, r3⟩ := rp2 r1
      cases r2
      cases r3
      obtain ⟨hc, q2⟩ := sat_if q1
      exact ⟨i, j, rfl, hc, q2 _ _ e1 wk_range⟩⟩⟩
/-- pairs -/
def enumD (ds : List PyData) : List PyData := ds.zipIdx.map fun (d, i) => .tuple [.int ((i : Nat) : Int), d]
theorem enumD_get {i : Nat} {d : PyData} (h : ds[i]? = some d) : (enumD ds)[i]? = some (.tuple [.int ((i : Nat) : Int), d]) := by
  simp [enumD, h]
theorem fresh_in {O2 : List Addr} {H : Hp} {T : Addr} (ho : ∀ a ∈ O2, ∃ o, H a = some o) (hT : H T = none) : T ∉ O2 := fun m => by
  obtain ⟨o, q⟩ := ho T m
  rw [hT] at q; cases q
theorem kp_new {O2 : List Addr} {H : Hp} {T : Addr} {o : HO} (hT : H T = none) : Kp (msk O2 H) (msk O2 (upd H T o)) := fun a u q t => by
  obtain ⟨h1, h2⟩ := msk_some q
  rw [msk_out h1, upd_ne (ne_of_none h2 hT)]
  exact h2
theorem wk_enum (h : H1 a = some (.lst vs)) (ha : a ∉ O) (r : RpAll G.K (msk O H1) vs ds) : WkOk G O (Ite G.K a) (enumD ds) H1 := by
  have hl := rpAll_length r
  have hle : (enumD ds).length = ds.length := by simp [enumD]
  have st : ∀ {H : Hp} {O2 : List Addr}, Kp (msk O H1) (msk O2 H) → SqL G.K H a vs := fun kp => SqL.of (msk_some (kp a (.lst vs) ((msk_out ha).trans h) trivial)).2
  refine ⟨fun i H O2 hi kp => ?_, fun H O2 kp => ⟨vs, st kp, by omega⟩, fun i H O2 x H' hi kp ho y => ?_⟩
  · obtain ⟨x, hx⟩ := getx (xs := vs) (i := i) (by omega)
    exact ⟨vs, x, st kp, hx⟩
  · obtain ⟨T, z, rfl, hT, rfl, y2⟩ := y
    obtain ⟨d, h1, h2⟩ := rpAll_get r (y2 vs (st kp))
    exact ⟨fun P => Ext.new hT, _, enumD_get h1, .tup (SqT.of (msk_upd (fresh_in ho hT))) (.cons (.int _) (.cons (rp_mono (kp_new hT) (rp_mono kp h2)) .nil))⟩
def enumL : List PyData → M (List PyData)
  | [.list ds] => .ok (enumD ds)
  | _ => .err
theorem ei_enum {ms : M (List PyData)} {elts : List Expr} {kk : Nat} (ha : EvA G N sc k env [e] ms) (hm : G.mg "enumerate" = none) (hg : sc.names.lookup ("enumerate" : Str) = some .globalImplicit := by rfl) (h1 : notStar e = true := by rfl) :
    EvI G N sc k env (.Tuple elts kk tpos) (.Call (.Name "enumerate" p) [e] [] pos) (ms.bind enumL) :=
  ⟨fun X hX P O => PI_imp (pi_enum (by show X.env.scope.names.lookup _ = _; rw [hX.eSc]; exact hg) (by rw [hX.eMg]; exact hm) (ha.run X hX P O) (star_no h1)) fun σ H R' ⟨r, q⟩ => ⟨r, (M.sat_bind.mp q).mono fun ds q1 vs H1 e1 r1 => by
    match ds, r1, q1 with
    | [.list xs], r1, q1 =>
      obtain ⟨v, rfl, r2⟩ := rp1 r1
      rw [hX.eK]
      cases r2 with
      | lst h1 a1 => exact ⟨_, _, rfl, SqL.of (msk_some h1).2, q1 _ _ e1 (wk_enum (msk_some h1).2 (msk_some h1).1 a1)⟩⟩⟩
def zipD (ds es : List PyData) : List PyData := (ds.zip es).map fun (d, e) => .tuple [d, e]
theorem zipD_get {i : Nat} {d e : PyData} (h : ds[i]? = some d) (h2 : es[i]? = some e) : (zipD ds es)[i]? = some (.tuple [d, e]) := by
  have z : (ds.zip es)[i]? = some (d, e) := List.getElem?_zip_eq_some.mpr ⟨h, h2⟩
  simp [zipD, z]
theorem zipD_len : (zipD ds es).length = min ds.length es.length := by simp [zipD]
theorem wk_zip (h : H1 a = some (.lst vs)) (ha : a ∉ O) (r : RpAll G.K (msk O H1) vs ds) (h' : H1 b = some (.lst ws)) (hb : b ∉ O) (r' : RpAll G.K (msk O H1) ws es) : WkOk G O (Itz G.K a b) (zipD ds es) H1 := by
  have hl := rpAll_length r
  have hl' := rpAll_length r'
  have hz := zipD_len (ds := ds) (es := es)
  have st : ∀ {H : Hp} {O2 : List Addr}, Kp (msk O H1) (msk O2 H) → SqL G.K H a vs := fun kp => SqL.of (msk_some (kp a (.lst vs) ((msk_out ha).trans h) trivial)).2
  have st' : ∀ {H : Hp} {O2 : List Addr}, Kp (msk O H1) (msk O2 H) → SqL G.K H b ws := fun kp => SqL.of (msk_some (kp b (.lst ws) ((msk_out hb).trans h') trivial)).2
  refine ⟨fun i H O2 hi kp => ?_, fun H O2 kp => ⟨vs, ws, st kp, st' kp, by omega⟩, fun i H O2 x H' hi kp ho y => ?_⟩
  · obtain ⟨x, hx⟩ := getx (xs := vs) (i := i) (by omega)
    obtain ⟨y, hy⟩ := getx (xs := ws) (i := i) (by omega)
    exact ⟨vs, ws, x, y, st kp, st' kp, hx, hy⟩
  · obtain ⟨T, z, z', rfl, hT, rfl, y2, y3⟩ := y
    obtain ⟨d, h1, h2⟩ := rpAll_get r (y2 vs (st kp))
    obtain ⟨d', h1', h2'⟩ := rpAll_get r' (y3 ws (st' kp))
    exact ⟨fun P => Ext.new hT, _, zipD_get h1 h1', .tup (SqT.of (msk_upd (fresh_in ho hT))) (.cons (rp_mono (kp_new hT) (rp_mono kp h2)) (.cons (rp_mono (kp_new hT) (rp_mono kp h2')) .nil))⟩
theorem wk_zipT (h : SqT G.K (msk O H1) a vs) (r : RpAll G.K (msk O H1) vs ds) (h' : SqT G.K (msk O H1) b ws) (r' : RpAll G.K (msk O H1) ws es) : WkOk G O (RZ.ItzT G.K a b) (zipD ds es) H1 := by
  have hl := rpAll_length r
  have hl' := rpAll_length r'
  have hz := zipD_len (ds := ds) (es := es)
  have st : ∀ {H : Hp} {O2 : List Addr}, Kp (msk O H1) (msk O2 H) → SqT G.K H a vs := fun kp => kp_sqt kp_msk (kp_sqt kp h)
  have st' : ∀ {H : Hp} {O2 : List Addr}, Kp (msk O H1) (msk O2 H) → SqT G.K H b ws := fun kp => kp_sqt kp_msk (kp_sqt kp h')
  refine ⟨fun i H O2 hi kp => ?_, fun H O2 kp => ⟨vs, ws, st kp, st' kp, by omega⟩, fun i H O2 x H' hi kp ho y => ?_⟩
  · obtain ⟨x, hx⟩ := getx (xs := vs) (i := i) (by omega)
    obtain ⟨y, hy⟩ := getx (xs := ws) (i := i) (by omega)
    exact ⟨vs, ws, x, y, st kp, st' kp, hx, hy⟩
  · obtain ⟨T, z, z', rfl, hT, rfl, y2, y3⟩ := y
    obtain ⟨d, h1, h2⟩ := rpAll_get r (y2 vs (st kp))
    obtain ⟨d', h1', h2'⟩ := rpAll_get r' (y3 ws (st' kp))
    exact ⟨fun P => Ext.new hT, _, zipD_get h1 h1', .tup (SqT.of (msk_upd (fresh_in ho hT))) (.cons (rp_mono (kp_new hT) (rp_mono kp h2)) (.cons (rp_mono (kp_new hT) (rp_mono kp h2')) .nil))⟩
def zipL : List PyData → M (List PyData)
  | [.list ds, .list es] => .ok (zipD ds es)
  | [.tuple ds, .tuple es] => .ok (zipD ds es)
  | _ => .err
theorem ei_zip {ms : M (List PyData)} {elts : List Expr} {kk : Nat} (ha : EvA G N sc k env [e, e2] ms) (hm : G.mg "zip" = none) (hg : sc.names.lookup ("zip" : Str) = some .globalImplicit := by rfl) (h1 : notStar e = true := by rfl) (h2 : notStar e2 = true := by rfl) :
    EvI G N sc k env (.Tuple elts kk tpos) (.Call (.Name "zip" p) [e, e2] [] pos) (ms.bind zipL) :=
  ⟨fun X hX P O => PI_imp (RZ.pi_zipA (by show X.env.scope.names.lookup _ = _; rw [hX.eSc]; exact hg) (by rw [hX.eMg]; exact hm) (ha.run X hX P O) (star_no h1) (noStars (by simp [h2]))) fun σ H R' ⟨r, q⟩ => ⟨r, (M.sat_bind.mp q).mono fun ds q1 vs H1 e1 r1 => by
    rw [hX.eK]
    match ds, r1, q1 with
    | [.list xs, .list ys], r1, q1 =>
      obtain ⟨v, w, rfl, r2, r3⟩ := rp2 r1
      cases r2 with
      | lst h1 a1 => cases r3 with
        | lst h2 a2 => exact ⟨_, _, _, _, rfl, .inl ⟨SqL.of (msk_some h1).2, SqL.of (msk_some h2).2, q1 _ _ e1 (wk_zip (msk_some h1).2 (msk_some h1).1 a1 (msk_some h2).2 (msk_some h2).1 a2)⟩⟩
    | [.tuple xs, .tuple ys], r1, q1 =>
      obtain ⟨v, w, rfl, r2, r3⟩ := rp2 r1
      cases r2 with
      | tup h1 a1 => cases r3 with
        | tup h2 a2 => exact ⟨_, _, _, _, rfl, .inr ⟨kp_sqt kp_msk h1, kp_sqt kp_msk h2, q1 _ _ e1 (wk_zipT h1 a1 h2 a2)⟩⟩⟩⟩
end
end Ev

set_option Elab.async false
set_option linter.all false
set_option autoImplicit false
set_option maxRecDepth 100000
set_option maxHeartbeats 2000000
namespace Ev
open PySem PySem.Spec PyProof.Rows L2

/-! ### targets -/
/-- the frame's own lists are none of O0 -/
def OwOut (O0 : List Addr) (env : Slots) (σ : L2.St) : Prop := ∀ (i : Nat) (ds : PyData) (a : Addr), env[i]? = some (.own ds) → σ[i]? = some (some (.ref a)) → a ∉ O0
theorem OwOut.set {O0 : List Addr} {env : Slots} {σ : L2.St} (h : OwOut O0 env σ) {i : Nat} {sl : Slot} {v : Option V} (hs : (match sl with | .own _ => false | _ => true) = true) (hi : i < env.length) : OwOut O0 (env.set i sl) (σ.set i v) := fun j ds a h1 h2 => by
  by_cases hj : i = j
  · subst hj
    rw [List.getElem?_set_self hi] at h1
    cases h1; cases hs
  · rw [List.getElem?_set_ne hj] at h1 h2
    exact h j ds a h1 h2
theorem OwOut.put {O0 : List Addr} {env : Slots} {σ : L2.St} (h : OwOut O0 env σ) {i : Nat} {sl : Slot} (hs : (match sl with | .own _ => false | _ => true) = true) (hi : i < env.length) : OwOut O0 (env.set i sl) σ := fun j ds a h1 h2 => by
  by_cases hj : i = j
  · subst hj
    rw [List.getElem?_set_self hi] at h1
    cases h1; cases hs
  · rw [List.getElem?_set_ne hj] at h1
    exact h j ds a h1 h2
theorem OwOut.own {O0 : List Addr} {env : Slots} {σ : L2.St} (h : OwOut O0 env σ) {i : Nat} {ds : PyData} {l : Addr} (hl : l ∉ O0) (hi : i < env.length) (hiσ : i < σ.length) : OwOut O0 (env.set i (.own ds)) (σ.set i (some (.ref l))) := fun j es a h1 h2 => by
  by_cases hj : i = j
  · subst hj
    rw [List.getElem?_set_self hiσ] at h2
    cases h2
    exact hl
  · rw [List.getElem?_set_ne hj] at h1 h2
    exact h j es a h1 h2
theorem OwOut.re {O0 : List Addr} {env : Slots} {σ : L2.St} (h : OwOut O0 env σ) {i : Nat} {ds ds' : PyData} (he : env[i]? = some (.own ds)) : OwOut O0 (env.set i (.own ds')) σ := fun j es a h1 h2 => by
  by_cases hj : i = j
  · subst hj
    exact h i ds a he h2
  · rw [List.getElem?_set_ne hj] at h1
    exact h j es a h1 h2
theorem OwOut.le {O0 : List Addr} {env env' : Slots} {σ : L2.St} (h : OwOut O0 env σ) (le : EnvLe env env') : OwOut O0 env' σ := fun j es a h1 h2 => by
  rcases le.2 j _ h1 with z | z
  · cases z
  · exact h j es a z h2

/-- what a target binds -/
inductive TgK where
  | one (i : Nat)
  | two (i j : Nat)
  | three (i j l : Nat)
def TgK.ixs : TgK → List Nat
  | .one i => [i]
  | .two i j => [i, j]
  | .three i j l => [i, j, l]
def TgK.put (env : Slots) : TgK → PyData → Option Slots
  | .one i, d => some (env.set i (dS d))
  | .two i j, .tuple [a, b] => some ((env.set i (dS a)).set j (dS b))
  | .three i j l, .tuple [a, b, c] => some (((env.set i (dS a)).set j (dS b)).set l (dS c))
  | _, _ => none
structure EvG (G : Glb) (N : List Str) (scope sc : Scope) (k : Lv) (tg : Expr) (t : TgK) : Prop where
  run : ∀ X, XOk G N (relS scope sc) k X → (∀ x, scope.names.lookup x = some .cell → X.fn x = true) → PG X tg fun v σ H Q => ∃ P O env d e', R G P O env σ H ∧ (∀ i ∈ t.ixs, i < env.length) ∧ Rp G.K (msk O H) v d ∧ t.put env d = some e' ∧ ∀ σ', R G P O e' σ' H → (∀ vs : List Nat, (∀ i ∈ t.ixs, i ∈ vs) → wipe σ' vs = wipe σ vs) → (∀ O0, OwOut O0 env σ → OwOut O0 e' σ') → Q σ' H
theorem PG_imp {X : Cx} {tg : Expr} {t t' : TG} (h : PG X tg t) (i : ∀ v σ H Q, t' v σ H Q → t v σ H Q) : PG X tg t' := ⟨fun pins s σ H v u Q I r q => h.run pins s σ H v u Q I r (i _ _ _ _ q)⟩
section
variable {G : Glb} {N : List Str} {sc : Scope} {k : Lv} {env : Slots} {pos pos' p1 p2 p3 : Pos} {e : Expr}
theorem fn_of {scope : Scope} {X : Cx} (hX : XOk G N (relS scope sc) k X) (hf : ∀ x, scope.names.lookup x = some .cell → X.fn x = true) {x : Str} (hl : Loc scope x) : Loc X.env.scope x ∧ (X.fn x = true ∨ X.env.scope.names.lookup x = some .local) := by
  rw [hX.eSc]
  rcases hl with h | h
  · have z := lookup_relS_keep (sc := sc) (k := .local) (fun e => nomatch e) h
    exact ⟨.inl z, .inr z⟩
  · exact ⟨.inr (lookup_relS_keep (sc := sc) (k := .cell) (fun e => nomatch e) h), .inl (hf x h)⟩
theorem eg_one {scope : Scope} {x : Str} (i : Nat) (hN : N[i]? = some x := by rfl) (hl : Loc scope x := by first | exact Or.inl rfl | exact Or.inr rfl) : EvG G N scope sc k (.Name x pos) (.one i) :=
  ⟨fun X hX hf => PG_imp (pg_name (by rw [hX.eN]; exact hX.nd) (by rw [hX.eN]; exact hN) (fn_of hX hf hl).1 (fn_of hX hf hl).2) fun v σ H Q ⟨P, O, env, d, e', r, hi, rv, he, q⟩ => by
    cases he
    exact q _ (r.set rv (hi i (by simp [TgK.ixs]))) (fun vs h => wipe_set (h i (by simp [TgK.ixs]))) fun O0 h => h.set rfl (hi i (by simp [TgK.ixs]))⟩
theorem eg_two {scope : Scope} {x y : Str} (i j : Nat) {kk : Nat} (hN : N[i]? = some x := by rfl) (hl : Loc scope x := by first | exact Or.inl rfl | exact Or.inr rfl) (hN2 : N[j]? = some y := by rfl) (hl2 : Loc scope y := by first | exact Or.inl rfl | exact Or.inr rfl) (hij : i ≠ j := by decide) : EvG G N scope sc k (.Tuple [.Name x p1, .Name y p2] kk pos) (.two i j) :=
  ⟨fun X hX hf => PG_imp (pg_tup hX.calm (pgs_cons (pg_name (by rw [hX.eN]; exact hX.nd) (by rw [hX.eN]; exact hN) (fn_of hX hf hl).1 (fn_of hX hf hl).2) (pgs_cons (pg_name (by rw [hX.eN]; exact hX.nd) (by rw [hX.eN]; exact hN2) (fn_of hX hf hl2).1 (fn_of hX hf hl2).2) pgs_nil))) fun v σ H Q ⟨P, O, env, d, e', r, hi, rv, he, q⟩ => by
    have h1 := hi i (by simp [TgK.ixs])
    have h2 := hi j (by simp [TgK.ixs])
    match d, rv, he with
    | .tuple [a, b], rv, he =>
      cases he
      cases rv with
      | tup hs ha =>
        obtain ⟨x, y, rfl, r1, r2⟩ := rp2 ha
        rw [hX.eK]
        refine ⟨_, _, rfl, kp_sqt kp_msk hs, rfl, _, _, rfl, ⟨_, _, rfl, ⟨rfl, ?_⟩⟩⟩
        refine q _ (R.set (a := .d b) (R.set (a := .d a) r r1 h1) r2 (by rw [List.length_set]; exact h2)) (fun vs h => ?_) fun O0 h => (h.set rfl h1).set rfl (by rw [List.length_set]; exact h2)
        rw [wipe_set (h j (by simp [TgK.ixs])), wipe_set (h i (by simp [TgK.ixs]))]⟩
end

/-! ### new lists -/
def tL (G : Glb) (P O : List Addr) (env : Slots) (m : M PyData) : TE := fun σ H Q => R G P O env σ H ∧ m.Sat fun d => ∀ a vs ds H', d = .list ds → Ext G.T P H H' → Fr0 H a → H' a = some (.lst vs) → RpAll G.K (msk (a :: O) H') vs ds → Q (.ref a) H'
structure EvL (G : Glb) (N : List Str) (sc : Scope) (k : Lv) (env : Slots) (e : Expr) (m : M PyData) : Prop where
  run : ∀ X, XOk G N sc k X → ∀ P O, PE X e (tL G P O env m)
theorem kp_less {D : Addr} {O : List Addr} {H : Hp} : Kp (msk (D :: O) H) (msk O H) := fun a o q t => by
  obtain ⟨h1, h2⟩ := msk_some q
  rw [msk_out fun m => h1 (List.mem_cons_of_mem _ m)]
  exact h2
/-! ### tests of a clause -/
structure EvTs (G : Glb) (N : List Str) (sc : Scope) (k : Lv) (env : Slots) (ifs : List Expr) (m : M Bool) : Prop where
  run : ∀ X, XOk G N sc k X → ∀ P O, PTs X ifs (tT G P O env m)
theorem PTs_imp {X : Cx} {e : List Expr} {t t' : TT} (h : PTs X e t) (i : ∀ σ H Q, t' σ H Q → t σ H Q) : PTs X e t' := ⟨fun pins s σ H Q I q => h.run pins s σ H Q I (i σ H Q q)⟩
/-- as the blocks want it: for some values -/
theorem PE_some {X : Cx} {e : Expr} {ι : Type} {t : ι → TE} (h : ∀ i, PE X e (t i)) : PE X e fun σ H Q => ∃ i, t i σ H Q := ⟨fun pins s σ H Q I ⟨i, q⟩ => (h i).run pins s σ H Q I q⟩
theorem PTs_some {X : Cx} {e : List Expr} {ι : Type} {t : ι → TT} (h : ∀ i, PTs X e (t i)) : PTs X e fun σ H Q => ∃ i, t i σ H Q := ⟨fun pins s σ H Q I ⟨i, q⟩ => (h i).run pins s σ H Q I q⟩

theorem PI_some {X : Cx} {tg iter : Expr} {ι : Type} {t : ι → TI} (h : ∀ i, PI X tg iter (t i)) : PI X tg iter fun σ H Q => ∃ i, t i σ H Q := ⟨fun pins s σ H Q I ⟨i, q⟩ => (h i).run pins s σ H Q I q⟩
theorem Ext.backF {T : List (Addr × Str)} {P : List Addr} {H H1 : Hp} (e : Ext T P H H1) {a : Addr} (h : Fr0 H1 a) : Fr0 H a := fun o q t => by
  obtain ⟨o', z, t'⟩ := e.dom a o q t
  exact h o' z t'
theorem Ext.back {T : List (Addr × Str)} {P : List Addr} {H H1 : Hp} (e : Ext T P H H1) {a : Addr} (h : H1 a = none) : Fr0 H a := e.backF (.of h)
/-- a comprehension, as its block wants it -/
structure EvC (G : Glb) (N : List Str) (sc : Scope) (k : Lv) (env : Slots) (elt tg iter : Expr) (ifs : List Expr) (scope : Scope) (m : M PyData) : Prop where
  gen : ∀ X, XOk G N sc k X → ∃ wi g tt te own, PI X tg iter wi ∧ BlkOk X.N X.env.scope scope own ∧ (∀ (s : Shared) (H : Hp) (C : Addr) (cl : List (Str × Addr)) (fp : List Addr), PG (X.blk s H scope (compEnvC scope cl C X.env) fp) tg g) ∧
    (∀ (s : Shared) (H : Hp) (C : Addr) (cl : List (Str × Addr)) (fp : List Addr), PTs (X.blk s H scope (compEnvC scope cl C X.env) fp) ifs tt) ∧ (∀ (s : Shared) (H : Hp) (C : Addr) (cl : List (Str × Addr)) (fp : List Addr), PE (X.blk s H scope (compEnvC scope cl C X.env) fp) elt te) ∧
    ∀ σ H Q, (∃ P O, tL G P O env m σ H Q) → tLc wi g tt te (own.map (·.2)) σ H Q
  hs : ∀ env x, foldedSetIterable iter env x = pure x

/-! ### the mirror of a comprehension -/
def compL (ds : List PyData) (c : PyData → M Bool) (f : PyData → M PyData) : M (List PyData) := match ds with
  | [] => .ok []
  | d :: r => (c d).bind fun b => if b = true then (f d).bind fun y => (compL r c f).bind fun ys => .ok (y :: ys) else compL r c f
def un2 {α : Type} (d : PyData) (f : PyData → PyData → M α) : M α := match d with
  | .tuple [a, b] => f a b
  | _ => .err
section
variable {G : Glb} {N : List Str} {sc : Scope} {k : Lv} {env : Slots} {pos pos' p1 p2 p3 : Pos} {tg iter elt e : Expr} {ifs : List Expr} {scope : Scope} {t : TgK} {mi : M (List PyData)} {c : PyData → M Bool} {f : PyData → M PyData}
theorem ets_nil : EvTs G N sc k env [] (.ok true) := ⟨fun X hX P O => PTs_imp pts_nil fun σ H Q ⟨r, q⟩ => q H Ext.refl⟩
theorem ets_one {m : M Bool} (h : EvT G N sc k env e m) : EvTs G N sc k env [e] m := ⟨fun X hX P O => pts_one (h.run X hX P O)⟩
theorem xok_blk {X : Cx} (hX : XOk G N sc k X) (s : Shared) (H : Hp) (C : Addr) (cl : List (Str × Addr)) (fp : List Addr) : XOk G N (relS scope sc) k.inn (X.blk s H scope (compEnvC scope cl C X.env) fp) :=
  ⟨hX.nd, hX.eN, by rw [← hX.eSc]; rfl, hX.calm, hX.room, hX.gu, (fun _ _ _ e => nomatch e), hX.ePr, hX.eW, hX.eK, hX.eMg, hX.eBs, PassesOwn.never⟩
theorem ec_lc (own : List (Str × Nat)) (hi : EvI G N sc k env tg iter mi) (hb : blkC N sc scope own = true) (hg : EvG G N scope sc k.inn tg t) (hix : ∀ i ∈ t.ixs, i ∈ own.map (·.2)) (hln : ∀ i ∈ t.ixs, i < env.length)
    (hc : ∀ d e', t.put (wipeE env (own.map (·.2))) d = some e' → EvTs G N (relS scope sc) k.inn e' ifs (c d)) (he : ∀ d e', t.put (wipeE env (own.map (·.2))) d = some e' → EvE G N (relS scope sc) k.inn e' elt (f d))
    (hbad : ∀ d, t.put (wipeE env (own.map (·.2))) d = none → c d = .err) (hs : ∀ env x, foldedSetIterable iter env x = pure x := by intro _ _; rfl) :
    EvC G N sc k env elt tg iter ifs scope (mi.bind fun ds => (compL ds c f).bind mkLst) :=
  ⟨fun X hX => by
    have blk : BlkOk X.N X.env.scope scope own := by rw [hX.eN, hX.eSc]; exact blkOk_by hb
    let ι := (_ : List Addr) × (_ : List Addr) × { q : PyData × Slots // t.put (wipeE env (own.map (·.2))) q.1 = some q.2 }
    refine ⟨fun σ H R' => ∃ q : List Addr × List Addr, R G q.1 q.2 env σ H ∧ mi.Sat fun ds => ∀ J H', Ext G.T q.1 H H' → WkOk G q.2 J ds H' → R' J H', _, fun σ H Q => ∃ i : ι, tT G i.1 i.2.1 i.2.2.1.2 (c i.2.2.1.1) σ H Q, fun σ H Q => ∃ i : ι, tE G i.1 i.2.1 i.2.2.1.2 (f i.2.2.1.1) σ H Q, own, PI_some fun q => hi.run X hX q.1 q.2, blk, fun s H C cl fp => hg.run _ (xok_blk hX s H C cl fp) fun x h => by
        show (scope.names.lookup x == some NameKind.cell) = true
        rw [h]
        rfl,
      fun s H C cl fp => PTs_some fun i => (hc _ _ i.2.2.2).run _ (xok_blk hX s H C cl fp) _ _, fun s H C cl fp => PE_some fun i => (he _ _ i.2.2.2).run _ (xok_blk hX s H C cl fp) _ _, ?_⟩
    intro σ H Q ⟨P, O, r, q⟩
    refine ⟨(P, O), r, (M.sat_bind.mp q).mono fun ds q1 J H1 e1 wk D hD => ?_⟩
    have r1 := r.ext e1
    have hDO : D ∉ O := r1.wf.fresh hD
    have hDP : D ∉ P := r1.wf.freshP hD
    refine ⟨fun i m H2 => m = ds.length - i ∧ i ≤ ds.length ∧ ∃ vs acc, H2 D = some (.lst vs) ∧ RpAll G.K (msk (D :: O) H2) vs acc ∧ Ext G.T P H1 H2 ∧ (compL (ds.drop i) c f).Sat fun ys => (mkLst (acc ++ ys)).Sat fun d => ∀ a vs ds H', d = .list ds → Ext G.T P H H' → Fr0 H a → H' a = some (.lst vs) → RpAll G.K (msk (a :: O) H') vs ds → Q (.ref a) H',
      ⟨_, rfl, Nat.zero_le _, [], [], upd_same, .nil, Ext.new hD, by simpa using M.sat_bind.mp q1⟩, ?_⟩
    rintro i m H2 ⟨rfl, hil, vs, acc, hv, ha, e2, q2⟩
    have kp := kp_more r1.wf e2 (.of hD)
    have rD := r1.more e2 (.of hD) ⟨_, hv, trivial⟩
    by_cases hlt : i < ds.length
    · obtain ⟨d0, hd0⟩ := getx hlt
      refine .inr ⟨wk.goes i H2 (D :: O) hlt kp, fun H3 => ∃ vs acc, H3 D = some (.lst vs) ∧ RpAll G.K (msk (D :: O) H3) vs acc ∧ Ext G.T P H1 H3 ∧ (compL (ds.drop (i + 1)) c f).Sat fun ys => (mkLst (acc ++ ys)).Sat fun d => ∀ a vs ds H', d = .list ds → Ext G.T P H H' → Fr0 H a → H' a = some (.lst vs) → RpAll G.K (msk (a :: O) H') vs ds → Q (.ref a) H',
        fun H3 h3 => ⟨_, by omega, rfl, hlt, h3⟩, fun x H3 y => ?_⟩
      obtain ⟨eY, d, hd, rx⟩ := wk.yields i H2 (D :: O) x H3 hlt kp (fun a m => let ⟨_, z, _⟩ := rD.wf.occ a m; ⟨_, z⟩) y
      rw [hd0] at hd; cases hd
      rw [List.drop_eq_getElem_cons hlt, (List.getElem?_eq_some_iff.mp hd0).2] at q2
      unfold compL at q2
      have r3 := (rD.ext (eY P)).wipe (own.map (·.2))
      cases ht : t.put (wipeE env (own.map (·.2))) d0 with
      | none => rw [hbad _ ht] at q2; exact q2.elim
      | some e' =>
      refine ⟨P, D :: O, _, d0, e', r3, fun i m => by rw [wipeE_length]; exact hln i m, rx, ht, fun σ' r4 hw _ => ⟨?_, ?_⟩⟩
      · rw [hw _ hix]
        have z : ∀ vs : List Nat, wipe (wipe σ vs) vs = wipe σ vs := fun vs => by
          apply List.ext_getElem?
          intro j
          by_cases hj : j ∈ vs
          · have z1 : ∀ (τ : L2.St) , τ.length = σ.length → (wipe τ vs)[j]? = if j < σ.length then some none else none := fun τ hτ => by
              have hl : (wipe τ vs).length = σ.length := by rw [wipe_length, hτ]
              split
              · rename_i hh
                cases e5 : (wipe τ vs)[j]? with
                | none => rw [List.getElem?_eq_none_iff] at e5; omega
                | some u => cases u with
                  | none => rfl
                  | some u => exact absurd hj (wipe_some e5).2
              · rw [List.getElem?_eq_none_iff]; omega
            rw [z1 _ (wipe_length _ _), z1 _ rfl]
          · rw [wipe_out hj]
        exact z _
      · refine ⟨⟨P, D :: O, ⟨(d0, e'), ht⟩⟩, r4, (M.sat_bind.mp q2).mono fun b q3 H4 e4 => ?_⟩
        have e24 := e2.trans ((eY P).trans e4)
        have hv4 : H4 D = some (.lst vs) := e4.keep _ _ ((eY P).keep _ _ hv hDP trivial) hDP trivial
        have a4 := rpAll_mono (((eY P).trans e4).kp rD.wf) ha
        cases b with
        | false => exact ⟨vs, acc, hv4, a4, e24, q3⟩
        | true =>
          rw [if_pos rfl] at q3
          dsimp only
          rw [if_pos rfl]
          have r5 := r4.ext e4
          refine ⟨⟨P, D :: O, ⟨(d0, e'), ht⟩⟩, r5, (M.sat_bind.mp q3).mono fun y q4 w H5 e5 rw5 => ?_⟩
          have hv5 : H5 D = some (.lst vs) := e5.keep _ _ hv4 hDP trivial
          have a5 := rpAll_mono (e5.kp r5.wf) a4
          have q5 := M.sat_bind.mp q4
          refine ⟨vs, hv5, ?_, vs ++ [w], acc ++ [y], upd_same, ?_, ?_, ?_⟩
          · obtain ⟨ys, hys⟩ := q5.ex
            obtain ⟨hl, _⟩ := sat_if hys
            rw [rpAll_length a5]
            simp at hl
            omega
          · rw [msk_same]
            exact rpAll_append a5 (.cons rw5 .nil)
          · have e25 := e24.trans e5
            refine ⟨fun a o h1 h2 h3 => ?_, fun a m h => ?_, fun a o h t => ?_, fun t p m => ?_⟩
            · rw [upd_ne (ne_of_none h1 hD)]; exact e25.keep a o h1 h2 h3
            · obtain ⟨x, y, z, zz⟩ := e25.pots a m h
              exact ⟨x, y, by rw [upd_ne (fun e : a = D => hDP (by rw [← e]; exact m))]; exact z, zz⟩
            · obtain ⟨o', h', t'⟩ := e25.dom a o h t
              by_cases ha : a = D
              · subst ha; exact ⟨_, upd_same, trivial⟩
              · exact ⟨o', by rw [upd_ne ha]; exact h', t'⟩
            · exact tab_upd (e25.tab t p m) fun u e => by rw [hv5] at e; cases e; trivial
          · refine q5.mono fun ys h => ?_
            rw [List.append_assoc]
            exact h
    · have hi : i = ds.length := by omega
      subst hi
      refine .inl ⟨wk.stops H2 (D :: O) kp, ?_⟩
      rw [List.drop_length] at q2
      have q2' : (mkLst (acc ++ [])).Sat _ := q2
      rw [List.append_nil] at q2'
      obtain ⟨_, q3⟩ := sat_if q2'
      exact q3 D vs acc H2 rfl (e1.trans e2) (e1.back hD) hv ha, hs⟩
/-- one name -/
theorem ec_lc1 {x : Str} (i : Nat) (hi : EvI G N sc k env (.Name x p1) iter mi) (hb : blkC N sc scope [(x, i)] = true) (hN : N[i]? = some x := by rfl) (hl : Loc scope x := by first | exact Or.inl rfl | exact Or.inr rfl) (hln : i < env.length := by exact Nat.le_of_ble_eq_true rfl)
    (hc : ∀ d, EvTs G N (relS scope sc) k.inn (env.set i (dS d)) ifs (c d)) (he : ∀ d, EvE G N (relS scope sc) k.inn (env.set i (dS d)) elt (f d)) (hs : ∀ env x, foldedSetIterable iter env x = pure x := by intro _ _; rfl) :
    EvC G N sc k env elt (.Name x p1) iter ifs scope (mi.bind fun ds => (compL ds c f).bind mkLst) := by
  have z : ∀ d, (wipeE env ([(x, i)].map (·.2))).set i (dS d) = env.set i (dS d) := fun d => by
    show (env.set i Slot.un).set i (dS d) = _
    rw [List.set_set]
  refine ec_lc [(x, i)] hi hb (eg_one i hN hl) (by simp [TgK.ixs]) (by simpa [TgK.ixs] using hln) (fun d e' h => ?_) (fun d e' h => ?_) (fun d h => nomatch h) hs
  · cases h; rw [z]; exact hc d
  · cases h; rw [z]; exact he d
/-- two names -/
theorem ec_lc2 {x y : Str} (i j : Nat) {kk : Nat} {c2 : PyData → PyData → M Bool} {f2 : PyData → PyData → M PyData} (hi : EvI G N sc k env (.Tuple [.Name x p1, .Name y p2] kk p3) iter mi) (hb : blkC N sc scope [(x, i), (y, j)] = true) (hN : N[i]? = some x := by rfl) (hl : Loc scope x := by first | exact Or.inl rfl | exact Or.inr rfl) (hln : i < env.length := by exact Nat.le_of_ble_eq_true rfl)
    (hN2 : N[j]? = some y := by rfl) (hl2 : Loc scope y := by first | exact Or.inl rfl | exact Or.inr rfl) (hln2 : j < env.length := by exact Nat.le_of_ble_eq_true rfl) (hij : i ≠ j := by decide)
    (hc : ∀ a b, EvTs G N (relS scope sc) k.inn ((env.set i (dS a)).set j (dS b)) ifs (c2 a b)) (he : ∀ a b, EvE G N (relS scope sc) k.inn ((env.set i (dS a)).set j (dS b)) elt (f2 a b)) (hs : ∀ env x, foldedSetIterable iter env x = pure x := by intro _ _; rfl) :
    EvC G N sc k env elt (.Tuple [.Name x p1, .Name y p2] kk p3) iter ifs scope (mi.bind fun ds => (compL ds (fun d => un2 d c2) fun d => un2 d f2).bind mkLst) := by
  have z : ∀ a b, ((wipeE env ([(x, i), (y, j)].map (·.2))).set i (dS a)).set j (dS b) = (env.set i (dS a)).set j (dS b) := fun a b => by
    show (((env.set j Slot.un).set i Slot.un).set i (dS a)).set j (dS b) = _
    rw [List.set_set, List.set_comm _ _ (Ne.symm hij), List.set_set]
  refine ec_lc [(x, i), (y, j)] hi hb (eg_two i j hN hl hN2 hl2 hij) (by simp [TgK.ixs]) (by simp [TgK.ixs, hln, hln2]) (fun d e' h => ?_) (fun d e' h => ?_) (fun d h => ?_) hs
  · match d, h with
    | .tuple [a, b], h => cases h; rw [z]; exact hc a b
  · match d, h with
    | .tuple [a, b], h => cases h; rw [z]; exact he a b
  · unfold un2
    split
    · cases h
    · rfl
theorem el_lc {m : M PyData} (h : EvC G N sc k env elt tg iter ifs scope m) : EvL G N sc k env (.ListComp elt [⟨tg, iter, ifs, 0⟩] scope pos) m :=
  ⟨fun X hX P O => by
    obtain ⟨wi, g, tt, te, own, h1, h2, h3, h4, h5, h6⟩ := h.gen X hX
    exact PE_imp (pe_lc hX.calm (by rw [hX.eN]; exact hX.nd) h1 h2 h3 h4 h5 (h.hs _)) fun σ H Q q => h6 σ H Q ⟨P, O, q⟩⟩
end
end Ev

set_option Elab.async false
set_option linter.all false
set_option autoImplicit false
set_option maxRecDepth 100000
set_option maxHeartbeats 2000000
namespace Ev
open PySem PySem.Spec PyProof.Rows L2

section
variable {G : Glb} {N : List Str} {sc : Scope} {k : Lv} {env : Slots} {pos : Pos} {e : Expr} {es : List Expr} {m : M PyData} {ms : M (List PyData)}
theorem tL_of {P O : List Addr} {σ : L2.St} {H : Hp} {Q : VK} (h : tE G P O env m σ H Q) : tL G P O env m σ H Q :=
  ⟨h.1, h.2.mono fun d q a vs ds H' hd e hn ha r => by
    subst hd
    exact q _ H' e (.lst ((msk_out (h.1.wf.freshF hn)).trans ha) (rpAll_mono kp_less r))⟩
theorem EvL.toE (h : EvL G N sc k env e m) : EvE G N sc k env e m := ⟨fun X hX P O => PE_imp (h.run X hX P O) fun σ H Q q => tL_of q⟩
theorem fresh_els {P O : List Addr} {H H1 : Hp} {p : Addr} {vs : List V} {ds : List PyData} (w : Wf P O H) (hn : H p = none) (r : RpAll G.K (msk O H) vs ds) (o : HO) : RpAll G.K (msk (p :: O) (upd H p o)) vs ds :=
  rpAll_mono (kp_more w (Ext.new (T := []) hn) (.of hn)) r
theorem el_lst (h : EvA G N sc k env es ms) : EvL G N sc k env (.List es pos) (ms.bind mkLst) :=
  ⟨fun X hX P O => PE_imp (pe_lst (h.run X hX P O)) fun σ H Q ⟨r, q⟩ => by
    refine ⟨r, (M.sat_bind.mp q).mono fun ds q1 vs H1 e1 r1 => ?_⟩
    obtain ⟨hl, q1⟩ := sat_if q1
    exact ⟨by rw [rpAll_length r1]; exact hl, fun p n => q1 p vs ds _ rfl (e1.trans (Ext.new n)) (e1.back n) upd_same (fresh_els (H1 := H1) (r.wf.ext e1) n r1 _)⟩⟩
/-- list(..) -/
theorem el_list {x : Str} {p : Pos} (ha : EvA G N sc k env [e] ms) (hm : G.mg x = none) (hv : bootBuiltins x = some (.type "list") := by decide +kernel) (hg : sc.names.lookup x = some .globalImplicit := by rfl)
    (hn : x ≠ "__name__" := by decide) (hdb : (x == ("__debug__" : Str)) = false := by decide) (h1 : notStar e = true := by rfl) : EvL G N sc k env (.Call (.Name x p) [e] [] pos) (ms.bind bList) :=
  ⟨fun X hX P O => PE_imp (pe_callTy call_list_of (by show X.env.scope.names.lookup x = _; rw [hX.eSc]; exact hg) (by rw [hX.eMg]; exact hm) hv (ha.run X hX P O) hn hdb (star_no h1) (noStars rfl)) fun σ H Q ⟨r, q⟩ => by
    refine ⟨r, (M.sat_bind.mp q).mono fun ds q1 vs H1 e1 r1 => ?_⟩
    have w := r.wf.ext e1
    rw [hX.eK]
    match ds, r1, q1 with
    | [.list xs], r1, q1 =>
      obtain ⟨v, rfl, r2⟩ := rp1 r1
      cases r2 with
      | lst h1 a1 => exact ⟨_, _, rfl, .inl (SqL.of (msk_some h1).2), fun p n => q1 p _ _ _ rfl (e1.trans (Ext.new n)) (e1.back n) upd_same (fresh_els (H1 := H1) w n a1 _)⟩
    | [.tuple xs], r1, q1 =>
      obtain ⟨v, rfl, r2⟩ := rp1 r1
      cases r2 with
      | tup h1 a1 => exact ⟨_, _, rfl, .inr (kp_sqt kp_msk h1), fun p n => q1 p _ _ _ rfl (e1.trans (Ext.new n)) (e1.back n) upd_same (fresh_els (H1 := H1) w n a1 _)⟩⟩
end

/-! ### ends -/
inductive Outc where
  | nx (e : Slots)
  | rt (d : PyData)
  | fn (d : PyData)
  | lp (e : Slots)
  | bk (e : Slots)
  | ct (e : Slots)
  | fl (d : PyData)
  | fd (d : PyData)
  | bad
/-- of a block that is not fallen through -/
def Outc.inner : Outc → Outc
  | .nx _ => .bad
  | .fn d => .rt d
  | .lp e => .ct e
  | o => o
/-- a frame that stands at base P0 O0 H0 Kx -/
structure At (G : Glb) (P0 O0 : List Addr) (H0 Kx : Hp) (P O : List Addr) (env : Slots) (σ : L2.St) (H : Hp) : Prop where
  w0 : Wf P0 O0 H0
  p0 : ∀ a ∈ P0, a ∈ P
  o0 : ∀ a ∈ O0, a ∈ O
  pn : ∀ a ∈ P, a ∈ P0 ∨ Fr0 H0 a
  on : ∀ a ∈ O, a ∈ O0 ∨ Fr0 H0 a
  e0 : Ext G.T P0 H0 H
  kx : Kp Kx (msk O H)
  ow : OwOut O0 env σ
  r : R G P O env σ H
def Stt (G : Glb) (P0 O0 : List Addr) (H0 Kx : Hp) (env : Slots) (σ : L2.St) (H : Hp) : Prop := ∃ P O, At G P0 O0 H0 Kx P O env σ H
def Fin (G : Glb) (P0 O0 : List Addr) (H0 Kx : Hp) (D : Ends) : Outc → Prop
  | .nx e => ∀ σ' H', Stt G P0 O0 H0 Kx e σ' H' → D.nx σ' H'
  | .rt d => ∀ v H', Ext G.T P0 H0 H' → Rp G.K (msk O0 H') v d → D.rt v H'
  | .fn d => (∀ v H', Ext G.T P0 H0 H' → Rp G.K (msk O0 H') v d → D.rt v H') ∧ (d = .none → ∀ σ' H', Ext G.T P0 H0 H' → D.nx σ' H')
  | .fl d => ∀ a vs ds H', d = .list ds → Ext G.T P0 H0 H' → Fr0 H0 a → H' a = some (.lst vs) → RpAll G.K (msk (a :: O0) H') vs ds → D.rt (.ref a) H'
  | .fd d => ∀ a H', Ext G.T P0 H0 H' → Fr0 H0 a → OwnC G (a :: O0) H' a d → D.rt (.ref a) H'
  | .lp e => (∀ σ' H', Stt G P0 O0 H0 Kx e σ' H' → D.nx σ' H') ∧ (∀ σ' H', Stt G P0 O0 H0 Kx e σ' H' → D.ct σ' H')
  | .bk e => ∀ σ' H', Stt G P0 O0 H0 Kx e σ' H' → D.bk σ' H'
  | .ct e => ∀ σ' H', Stt G P0 O0 H0 Kx e σ' H' → D.ct σ' H'
  | .bad => True
structure XFn (G : Glb) (N : List Str) (sc : Scope) (k : Lv) (X : Cx) : Prop where
  ok : XOk G N sc k X
  fn : ∀ x, X.fn x = true
def tS (G : Glb) (P0 O0 : List Addr) (H0 Kx : Hp) (env : Slots) {ρ : Type} (m : M ρ) (I : ρ → Outc) : TS := fun D σ H => Stt G P0 O0 H0 Kx env σ H ∧ m.Sat fun r => Fin G P0 O0 H0 Kx D (I r)
structure EvS (G : Glb) (N : List Str) (sc : Scope) (k : Lv) (env : Slots) (sts : List Stmt) {ρ : Type} (m : M ρ) (I : ρ → Outc) : Prop where
  run : ∀ X, XFn G N sc k X → ∀ P0 O0 H0 Kx, PSs X sts (tS G P0 O0 H0 Kx env m I)
theorem PSs_imp {X : Cx} {e : List Stmt} {t t' : TS} (h : PSs X e t) (i : ∀ D σ H, t' D σ H → t D σ H) : PSs X e t' := ⟨fun pins s σ H D I q => h.run pins s σ H D I (i D σ H q)⟩
theorem PSs_some {X : Cx} {e : List Stmt} {ι : Type} {t : ι → TS} (h : ∀ i, PSs X e (t i)) : PSs X e fun D σ H => ∃ i, t i D σ H := ⟨fun pins s σ H D I ⟨i, q⟩ => (h i).run pins s σ H D I q⟩
/-- a statement, then the rest by what it leaves -/
theorem pss_step {X : Cx} {st : Stmt} {rest : List Stmt} {ι : Type} {t : TS} {u : ι → TS} {t' : TS} (h1 : PS X st t) (h2 : ∀ i, PSs X rest (u i))
    (h : ∀ D σ H, t' D σ H → t { D with nx := fun σ' H' => ∃ i, u i D σ' H' } σ H) : PSs X (st :: rest) t' := PSs_imp (pss_cons h1 (PSs_some h2)) fun D σ H q => h D σ H q
section
variable {G : Glb} {P0 O0 P O : List Addr} {H0 Kx Kx' H H1 : Hp} {env env' : Slots} {σ : L2.St} {D : Ends}
theorem ext_up (hp : ∀ a ∈ P, a ∈ P0 ∨ Fr0 H0 a) (hq : ∀ a ∈ P0, a ∈ P) (e0 : Ext G.T P0 H0 H) (e : Ext G.T P H H1) : Ext G.T P0 H0 H1 :=
  ⟨fun a o h1 h2 h3 => e.keep a o (e0.keep a o h1 h2 h3) (fun m => by
    rcases hp a m with z | z
    · exact h2 z
    · exact z _ h1 h3) h3, fun a m h => e.pots a (hq a m) (e0.pots a m h), fun a o h t => let ⟨_, z, t'⟩ := e0.dom a o h t; e.dom a _ z t', fun t => e.tab (e0.tab t)⟩
theorem kp_out (ho : ∀ a ∈ O0, a ∈ O) : Kp (msk O H) (msk O0 H) := fun a o q t => by
  obtain ⟨h1, h2⟩ := msk_some q
  rw [msk_out fun m => h1 (ho a m)]
  exact h2
theorem At.ext (s : At G P0 O0 H0 Kx P O env σ H) (e : Ext G.T P H H1) : At G P0 O0 H0 Kx P O env σ H1 := ⟨s.w0, s.p0, s.o0, s.pn, s.on, ext_up s.pn s.p0 s.e0 e, s.kx.trans (e.kp s.r.wf), s.ow, s.r.ext e⟩
theorem At.le (s : At G P0 O0 H0 Kx P O env σ H) (h : EnvLe env env') : At G P0 O0 H0 Kx P O env' σ H := ⟨s.w0, s.p0, s.o0, s.pn, s.on, s.e0, s.kx, s.ow.le h, s.r.le h⟩
theorem Stt.le (s : Stt G P0 O0 H0 Kx env σ H) (h : EnvLe env env') : Stt G P0 O0 H0 Kx env' σ H := let ⟨P, O, t⟩ := s; ⟨P, O, t.le h⟩
theorem At.set (s : At G P0 O0 H0 Kx P O env σ H) {i : Nat} {v : V} {a : AV} (ha : RelA G P O H v a) (hi : i < env.length) : At G P0 O0 H0 Kx P O (env.set i (.v a)) (σ.set i (some v)) H := ⟨s.w0, s.p0, s.o0, s.pn, s.on, s.e0, s.kx, s.ow.set rfl hi, s.r.set ha hi⟩
theorem At.fresh (s : At G P0 O0 H0 Kx P O env σ H) {a : Addr} (h : Fr0 H a) : Fr0 H0 a ∧ a ∉ O0 := ⟨s.e0.backF h, s.w0.freshF (s.e0.backF h)⟩
theorem At.reb (s : At G P0 O0 H0 Kx P O env σ H) (h : Kp Kx' (msk O H)) : At G P0 O0 H0 Kx' P O env σ H := ⟨s.w0, s.p0, s.o0, s.pn, s.on, s.e0, h, s.ow, s.r⟩
theorem Stt.reb (s : Stt G P0 O0 H0 Kx env σ H) (h : Kp Kx' Kx) : Stt G P0 O0 H0 Kx' env σ H := let ⟨P, O, t⟩ := s; ⟨P, O, t.reb (h.trans t.kx)⟩
theorem fin_kx {o : Outc} (k : Kp Kx Kx') (h : Fin G P0 O0 H0 Kx D o) : Fin G P0 O0 H0 Kx' D o := by
  cases o with
  | nx e => exact fun σ' H' s => h σ' H' (s.reb k)
  | rt d => exact h
  | fn d => exact h
  | lp e => exact ⟨fun σ' H' s => h.1 σ' H' (s.reb k), fun σ' H' s => h.2 σ' H' (s.reb k)⟩
  | bk e => exact fun σ' H' s => h σ' H' (s.reb k)
  | ct e => exact fun σ' H' s => h σ' H' (s.reb k)
  | fl d => exact h
  | fd d => exact h
  | bad => trivial
theorem fin_inner {o : Outc} {nx' : L2.St → Hp → Prop} (h : Fin G P0 O0 H0 Kx D o) : Fin G P0 O0 H0 Kx { D with nx := nx' } o.inner := by
  cases o with
  | nx e => trivial
  | rt d => exact h
  | fn d => exact h.1
  | lp e => exact h.2
  | bk e => exact h
  | ct e => exact h
  | fl d => exact h
  | fd d => exact h
  | bad => trivial
end

section
variable {G : Glb} {N : List Str} {sc : Scope} {k : Lv} {env env' : Slots} {pos p p2 : Pos} {e : Expr} {es : List Expr} {rest body b2 : List Stmt} {st : Stmt} {ρ : Type} {I : ρ → Outc} {m : M ρ} {me : M PyData} {kk : PyData → M ρ} {x : Str}
/-! ### the end of a block -/
theorem es_nx {r : ρ} (e' : Slots) (hI : I r = .nx e') (h : EnvLe env e') : EvS G N sc k env [] (.ok r) I := ⟨fun X hX P0 O0 H0 Kx => PSs_imp pss_nil fun D σ H ⟨s, q⟩ => by
  have q' : Fin G P0 O0 H0 Kx D (I r) := q
  rw [hI] at q'
  exact q' σ H (s.le h)⟩
theorem es_lp {r : ρ} (e' : Slots) (hI : I r = .lp e') (h : EnvLe env e') : EvS G N sc k env [] (.ok r) I := ⟨fun X hX P0 O0 H0 Kx => PSs_imp pss_nil fun D σ H ⟨s, q⟩ => by
  have q' : Fin G P0 O0 H0 Kx D (I r) := q
  rw [hI] at q'
  exact q'.1 σ H (s.le h)⟩
theorem es_fn {r : ρ} (hI : I r = .fn .none) : EvS G N sc k env [] (.ok r) I := ⟨fun X hX P0 O0 H0 Kx => PSs_imp pss_nil fun D σ H ⟨s, q⟩ => by
  have q' : Fin G P0 O0 H0 Kx D (I r) := q
  rw [hI] at q'
  obtain ⟨P, O, s⟩ := s
  exact q'.2 rfl σ H s.e0⟩
/-- less is told -/
theorem es_le (e' : Slots) (h : EnvLe env e') (hs : EvS G N sc k e' rest m I) : EvS G N sc k env rest m I := ⟨fun X hX P0 O0 H0 Kx => PSs_imp (hs.run X hX P0 O0 H0 Kx) fun D σ H ⟨s, q⟩ => ⟨s.le h, q⟩⟩
theorem es_map {ρ' : Type} {g : ρ → ρ'} {I' : ρ' → Outc} (h : EvS G N sc k env rest m fun r => I' (g r)) : EvS G N sc k env rest (m.bind fun r => .ok (g r)) I' := ⟨fun X hX P0 O0 H0 Kx => PSs_imp (h.run X hX P0 O0 H0 Kx) fun D σ H ⟨s, q⟩ => ⟨s, M.sat_bind.mp q⟩⟩
/-! ### x = e -/
theorem es_set (i : Nat) (he : EvE G N sc k env e me) (hr : ∀ d, EvS G N sc k (env.set i (dS d)) rest (kk d) I) (hN : N[i]? = some x := by rfl) (hl : Loc sc x := by first | exact Or.inl rfl | exact Or.inr rfl) (hi : i < env.length := by exact Nat.le_of_ble_eq_true rfl)
    (hs : ∀ env : PySem.Env, env.scope = sc → swapsWith e (some (.Name x p)) pos.line env = pure false := by intro _ _; rfl) : EvS G N sc k env (.Assign [.Name x p] e pos :: rest) (me.bind kk) I :=
  ⟨fun X hX P0 O0 H0 Kx => by
    have o := hX.ok
    refine pss_step (ps_set (i := i) (by rw [o.eN]; exact o.nd) (by rw [o.eN]; exact hN) (by rw [o.eSc]; exact hl) (PE_some fun q : List Addr × List Addr => he.run X o q.1 q.2) (hs _ o.eSc) (.inl (hX.fn x))) (fun d => (hr d).run X hX P0 O0 H0 Kx) fun D σ H ⟨s, q⟩ => ?_
    obtain ⟨P, O, s⟩ := s
    exact ⟨(P, O), s.r, (M.sat_bind.mp q).mono fun dd q1 v H1 e1 r1 => ⟨dd, ⟨P, O, (s.ext e1).set (a := .d dd) r1 hi⟩, q1⟩⟩⟩
theorem R.ownC {P O : List Addr} {σ : L2.St} {H H1 : Hp} {a : Addr} {d : PyData} {i : Nat} (r : R G P O env σ H) (e : Ext G.T P H H1) (hn : Fr0 H a) (hc : OwnC G (a :: O) H1 a d) (hi : i < env.length) : R G P (a :: O) (env.set i (.own d)) (σ.set i (some (.ref a))) H1 := by
  have r1 := r.more e hn hc.obj
  have old : ∀ (j : Nat) (es : PyData) (b : Addr), env[j]? = some (.own es) → σ[j]? = some (some (.ref b)) → b ≠ a := fun j es b h1 h2 hb => by
    obtain ⟨b', z1, z2, z3, z4⟩ := slot_ownC (r.at_ j _ h1)
    rw [h2] at z1
    cases z1
    obtain ⟨o, z5, z6⟩ := z4.obj
    rw [hb] at z5
    exact hn o z5 (ownO_tbl z6)
  refine ⟨r1.wf, r1.tabs, fun j sl h => ?_, by rw [List.length_set, List.length_set, r.len], fun p q ds' es b h1 h2 h3 h4 => ?_⟩
  · by_cases hj : i = j
    · subst hj
      rw [List.getElem?_set_self hi] at h
      cases h
      exact ownC_slot (List.getElem?_set_self (by rw [r.len]; exact hi)) List.mem_cons_self (fun m => r.wf.freshF hn (r.wf.pots a m).1) hc
    · rw [List.getElem?_set_ne hj] at h
      have z := r1.at_ j sl h
      rw [List.getElem?_set_ne hj]
      exact z
  · have hiσ : i < σ.length := by rw [r.len]; exact hi
    by_cases hp : i = p
    · subst hp
      rw [List.getElem?_set_self hiσ] at h3
      cases h3
      by_cases hq : i = q
      · exact hq
      · rw [List.getElem?_set_ne hq] at h2 h4
        exact absurd rfl (old q es _ h2 h4)
    · rw [List.getElem?_set_ne hp] at h1 h3
      by_cases hq : i = q
      · subst hq
        rw [List.getElem?_set_self hiσ] at h4
        cases h4
        exact absurd rfl (old p ds' _ h1 h3)
      · rw [List.getElem?_set_ne hq] at h2 h4
        exact r.dist p q ds' es b h1 h2 h3 h4
theorem At.ownC {P0 O0 P O : List Addr} {H0 Kx : Hp} {σ : L2.St} {H H1 : Hp} {a : Addr} {d : PyData} {i : Nat} (s : At G P0 O0 H0 Kx P O env σ H) (e : Ext G.T P H H1) (hn : Fr0 H a) (hc : OwnC G (a :: O) H1 a d) (hi : i < env.length) :
    At G P0 O0 H0 Kx P (a :: O) (env.set i (.own d)) (σ.set i (some (.ref a))) H1 := by
  have f := s.fresh hn
  refine ⟨s.w0, s.p0, fun z m => List.mem_cons_of_mem _ (s.o0 z m), s.pn, fun z m => ?_, ext_up s.pn s.p0 s.e0 e, s.kx.trans (kp_more s.r.wf e hn), s.ow.own f.2 hi (by rw [s.r.len]; exact hi), s.r.ownC e hn hc hi⟩
  rcases List.mem_cons.mp m with y | y
  · subst y; exact .inr f.1
  · exact s.on z y
theorem At.own {P0 O0 P O : List Addr} {H0 Kx : Hp} {σ : L2.St} {H H1 : Hp} {a : Addr} {vs : List V} {ds : List PyData} {i : Nat} (s : At G P0 O0 H0 Kx P O env σ H) (e : Ext G.T P H H1) (hn : Fr0 H a) (ha : H1 a = some (.lst vs)) (hr : RpAll G.K (msk (a :: O) H1) vs ds) (hi : i < env.length) :
    At G P0 O0 H0 Kx P (a :: O) (env.set i (.ow ds)) (σ.set i (some (.ref a))) H1 := s.ownC (d := .list ds) e hn ⟨vs, ha, hr⟩ hi
theorem msk_own {O : List Addr} {H : Hp} {a : Addr} {o : HO} (m : a ∈ O) : msk O (upd H a o) = msk O H := by
  funext b
  unfold msk
  split
  · rfl
  · rename_i h
    exact upd_ne fun e => h (e ▸ m)
/-- an own object is changed -/
theorem At.mutC {P0 O0 P O : List Addr} {H0 Kx : Hp} {σ : L2.St} {H : Hp} {a : Addr} {o : HO} {d d' : PyData} {i : Nat} (s : At G P0 O0 H0 Kx P O env σ H) (he : env[i]? = some (.own d)) (hσ : σ[i]? = some (some (.ref a))) (ho : OwnO o) (hc : OwnC G O (upd H a o) a d') :
    At G P0 O0 H0 Kx P O (env.set i (.own d')) σ (upd H a o) := by
  have hi : i < env.length := (List.getElem?_eq_some_iff.mp he).1
  obtain ⟨a', z1, z2, z3, z4⟩ := slot_ownC (s.r.at_ i _ he)
  rw [hσ] at z1; cases z1
  obtain ⟨o1, z5, z6⟩ := z4.obj
  have hm : msk O (upd H a o) = msk O H := msk_own z2
  have htl : ∀ u, H a = some u → OwnO u := fun u e => by rw [z5] at e; cases e; exact z6
  have ha0 : Fr0 H0 a := (s.on a z2).resolve_left (s.ow i d a he hσ)
  refine ⟨s.w0, s.p0, s.o0, s.pn, s.on, ⟨fun b o h1 h2 h3 => ?_, fun b m h => ?_, fun b o h t => ?_, fun t p m => ?_⟩, by rw [hm]; exact s.kx, s.ow.re he, ⟨⟨fun b m => ⟨(s.r.wf.pots b m).1, ?_⟩, fun b m => ?_⟩, fun p m => tab_upd (s.r.tabs p m) htl, fun j sl h => ?_, by rw [s.r.len, List.length_set], fun p q ds' es' b h1 h2 h3 h4 => ?_⟩⟩
  · rw [upd_ne (ha0.ne h1 h3)]; exact s.e0.keep b o h1 h2 h3
  · obtain ⟨x, y, q, qq⟩ := s.e0.pots b m h
    exact ⟨x, y, by rw [upd_ne (fun e : b = a => z3 (by rw [← e]; exact s.p0 b m))]; exact q, qq⟩
  · obtain ⟨o', q, t'⟩ := s.e0.dom b o h t
    exact ⟨o', by rw [upd_ne (ha0.ne h t)]; exact q, t'⟩
  · exact tab_upd (s.e0.tab t p m) htl
  · obtain ⟨x, y, q, qq⟩ := (s.r.wf.pots b m).2
    exact ⟨x, y, by rw [upd_ne (fun e : b = a => z3 (by rw [← e]; exact m))]; exact q, qq⟩
  · by_cases e : b = a
    · subst e; exact ⟨_, upd_same, ho⟩
    · obtain ⟨xs, q, t⟩ := s.r.wf.occ b m
      exact ⟨xs, by rw [upd_ne e]; exact q, t⟩
  · by_cases hj : i = j
    · subst hj
      rw [List.getElem?_set_self hi] at h
      cases h
      exact ownC_slot hσ z2 z3 hc
    · rw [List.getElem?_set_ne hj] at h
      have z := s.r.at_ j sl h
      cases sl with
      | un => trivial
      | v a' =>
        obtain ⟨x', y1, y2⟩ := z
        exact ⟨x', y1, y2.same (by rw [hm]; exact Kp.refl _)⟩
      | own es' =>
        obtain ⟨l', y1, y2, y3, y4⟩ := slot_ownC z
        have hne : l' ≠ a := fun e => by
          subst e
          exact hj (s.r.dist i j d es' l' he h hσ y1)
        exact ownC_slot y1 y2 y3 (y4.kept (by rw [hm]; exact Kp.refl _) fun o h _ => by rw [upd_ne hne]; exact h)
  · have g1 : ∃ ds1, env[p]? = some (.own ds1) := by
      by_cases e : i = p
      · subst e; exact ⟨_, he⟩
      · rw [List.getElem?_set_ne e] at h1; exact ⟨_, h1⟩
    have g2 : ∃ ds1, env[q]? = some (.own ds1) := by
      by_cases e : i = q
      · subst e; exact ⟨_, he⟩
      · rw [List.getElem?_set_ne e] at h2; exact ⟨_, h2⟩
    obtain ⟨d1, g1⟩ := g1
    obtain ⟨d2, g2⟩ := g2
    exact s.r.dist p q d1 d2 b g1 g2 h3 h4
/-- an own list is changed -/
theorem At.mut {P0 O0 P O : List Addr} {H0 Kx : Hp} {σ : L2.St} {H : Hp} {a : Addr} {ws : List V} {ds es : List PyData} {i : Nat} (s : At G P0 O0 H0 Kx P O env σ H) (he : env[i]? = some (.ow ds)) (hσ : σ[i]? = some (some (.ref a))) (hr : RpAll G.K (msk O H) ws es) :
    At G P0 O0 H0 Kx P O (env.set i (.ow es)) σ (upd H a (.lst ws)) := by
  obtain ⟨a', z1, z2, z3, z4⟩ := slot_ownC (s.r.at_ i _ he)
  rw [hσ] at z1; cases z1
  exact s.mutC (d := .list ds) (d' := .list es) he hσ trivial ⟨ws, upd_same, by rw [msk_own z2]; exact hr⟩
/-- what is done with a list -/
def onL {ρ : Type} (d : PyData) (f : List PyData → M ρ) : M ρ := match d with
  | .list ds => f ds
  | _ => .err
theorem onL_sat {d : PyData} {f : List PyData → M ρ} {Q : ρ → Prop} (h : (onL d f).Sat Q) : ∃ ds, d = .list ds ∧ (f ds).Sat Q := by
  cases d <;> first | exact ⟨_, rfl, h⟩ | exact h.elim
theorem es_own (i : Nat) {kl : List PyData → M ρ} (he : EvL G N sc k env e me) (hr : ∀ ds, EvS G N sc k (env.set i (.ow ds)) rest (kl ds) I) (hN : N[i]? = some x := by rfl) (hl : Loc sc x := by first | exact Or.inl rfl | exact Or.inr rfl) (hi : i < env.length := by exact Nat.le_of_ble_eq_true rfl)
    (hs : ∀ env : PySem.Env, env.scope = sc → swapsWith e (some (.Name x p)) pos.line env = pure false := by intro _ _; rfl) : EvS G N sc k env (.Assign [.Name x p] e pos :: rest) (me.bind fun d => onL d kl) I :=
  ⟨fun X hX P0 O0 H0 Kx => by
    have o := hX.ok
    refine pss_step (ps_set (i := i) (by rw [o.eN]; exact o.nd) (by rw [o.eN]; exact hN) (by rw [o.eSc]; exact hl) (PE_some fun q : List Addr × List Addr => he.run X o q.1 q.2) (hs _ o.eSc) (.inl (hX.fn x))) (fun d => (hr d).run X hX P0 O0 H0 Kx) fun D σ H ⟨s, q⟩ => ?_
    obtain ⟨P, O, s⟩ := s
    refine ⟨(P, O), s.r, (M.sat_bind.mp q).mono fun dd q1 l vs ds H1 hd e1 hn hl' r1 => ?_⟩
    subst hd
    exact ⟨ds, ⟨P, l :: O, s.own e1 hn hl' r1 hi⟩, q1⟩⟩
theorem sw_cell {elt : Expr} {gs : List Comprehension} {scope : Scope} {p3 : Pos} {l : Nat} (h : sc.names.lookup x = some .cell) : ∀ env : PySem.Env, env.scope = sc → swapsWith (.ListComp elt gs scope p3) (some (.Name x p)) l env = pure false := fun env e => by
  have ky : env.kindOf x = some .cell := by show env.scope.names.lookup x = _; rw [e]; exact h
  unfold swapsWith
  simp [ky]
  have z : (NameKind.cell == NameKind.local) = false := rfl
  rw [z, Bool.and_false, Bool.false_and, Bool.false_and]
/-- x = [.. for ..] on one line -/
theorem es_ownLc (i : Nat) {kl : List PyData → M ρ} {elt tg iter : Expr} {ifs : List Expr} {scope : Scope} {p3 : Pos} (he : EvC G N sc k env elt tg iter ifs scope me) (hr : ∀ ds, EvS G N sc k (env.set i (.ow ds)) rest (kl ds) I) (hN : N[i]? = some x := by rfl) (hl : sc.names.lookup x = some .local := by rfl) (hi : i < env.length := by exact Nat.le_of_ble_eq_true rfl)
    (hk : sc.kind = .function := by rfl) (hln : (p.line == p3.line) = true := by rfl) (hsc : (scope.names.any fun (n, k) => n == x && (k == .local || k == .cell)) = false := by rfl) :
    EvS G N sc k env (.Assign [.Name x p] (.ListComp elt [⟨tg, iter, ifs, 0⟩] scope p3) pos :: rest) (me.bind fun d => onL d kl) I :=
  ⟨fun X hX P0 O0 H0 Kx => by
    have o := hX.ok
    obtain ⟨wi, g, tt, te, own, h1, h2, h3, h4, h5, h6⟩ := he.gen X o
    have hl' : X.env.scope.names.lookup x = some .local := by rw [o.eSc]; exact hl
    refine pss_step (ps_setLc (i := i) o.calm (by rw [o.eN]; exact o.nd) (by rw [o.eN]; exact hN) hl' (sw_true (by rw [o.eSc]; exact hk) hl' hln hsc) h1 h2 h3 h4 h5 (he.hs _)) (fun d => (hr d).run X hX P0 O0 H0 Kx) fun D σ H ⟨s, q⟩ => ?_
    obtain ⟨P, O, s⟩ := s
    refine h6 σ H _ ⟨P, O, s.r, (M.sat_bind.mp q).mono fun dd q1 l vs ds H1 hd e1 hn hl' r1 => ?_⟩
    subst hd
    exact ⟨ds, ⟨P, l :: O, s.own e1 hn hl' r1 hi⟩, q1⟩⟩
/-- an own list becomes data -/
theorem es_thaw (i : Nat) {ds : List PyData} (he : env[i]? = some (.ow ds)) (hr : EvS G N sc k (env.set i (dS (.list ds))) rest m I) : EvS G N sc k env rest m I :=
  ⟨fun X hX P0 O0 H0 Kx => PSs_imp (hr.run X hX P0 O0 H0 Kx) fun D σ H ⟨s, q⟩ => ⟨by
    obtain ⟨P, O, w, a, b, c, d, e, kx, oo, r⟩ := s
    obtain ⟨l, vs, z1, z2, z3, z4, z5⟩ := r.at_ i _ he
    have hiE : i < env.length := (List.getElem?_eq_some_iff.mp he).1
    have kpf : Kp (msk O H) (msk (O.filter fun z => decide (z ≠ l ∨ z ∈ O0)) H) := fun z o h t => by
      obtain ⟨h1, h2⟩ := msk_some h
      rw [msk_out fun m => h1 (List.mem_filter.mp m).1]
      exact h2
    have hl0 : l ∉ O0 := oo i (.list ds) l he z1
    · have nl : l ∉ O.filter fun z => decide (z ≠ l ∨ z ∈ O0) := fun m => by
        have := (List.mem_filter.mp m).2
        simp at this
        exact hl0 this
      refine ⟨P, O.filter fun z => decide (z ≠ l ∨ z ∈ O0), w, a, fun z m => List.mem_filter.mpr ⟨b z m, by simp [m]⟩, c, fun z m => d z (List.mem_filter.mp m).1, e, kx.trans kpf, oo.put rfl hiE, ?_⟩
      refine ⟨⟨fun z m => ⟨List.mem_filter.mpr ⟨(r.wf.pots z m).1, by simp; exact .inl fun e => z3 (e ▸ m)⟩, (r.wf.pots z m).2⟩, fun z m => r.wf.occ z (List.mem_filter.mp m).1⟩, r.tabs, fun j sl h => ?_, by rw [r.len, List.length_set], fun p q ds' es b' h1 h2 h3 h4 => ?_⟩
      · by_cases hj : i = j
        · subst hj
          rw [List.getElem?_set_self hiE] at h
          cases h
          exact ⟨_, z1, .lst ((msk_out nl).trans z4) (rpAll_mono kpf z5)⟩
        · rw [List.getElem?_set_ne hj] at h
          have z := r.at_ j sl h
          cases sl with
          | un => trivial
          | v a' =>
            obtain ⟨x', y1, y2⟩ := z
            exact ⟨x', y1, y2.same kpf⟩
          | own es =>
            obtain ⟨l', y1, y2, y3, y4⟩ := slot_ownC z
            have hne : l' ≠ l := fun e => by
              subst e
              exact hj (r.dist i j (.list ds) es l' he h z1 y1)
            exact ownC_slot y1 (List.mem_filter.mpr ⟨y2, by simp [hne]⟩) y3 (y4.kept kpf fun o h _ => h)
      · have n1 : i ≠ p := fun e => by subst e; rw [List.getElem?_set_self hiE] at h1; cases h1
        have n2 : i ≠ q := fun e => by subst e; rw [List.getElem?_set_self hiE] at h2; cases h2
        rw [List.getElem?_set_ne n1] at h1
        rw [List.getElem?_set_ne n2] at h2
        exact r.dist p q ds' es b' h1 h2 h3 h4, q⟩⟩
end
end Ev

set_option Elab.async false
set_option linter.all false
set_option autoImplicit false
set_option maxRecDepth 100000
set_option maxHeartbeats 2000000
namespace Ev
open PySem PySem.Spec PyProof.Rows L2

/-! ### flows -/
/-- what a part leaves: it went on, it broke off, it ended all -/
inductive LB (S ρ : Type) where
  | nx (s : S)
  | bk (s : S)
  | rt (r : ρ)
def thenL {S ρ : Type} (kk : S → M ρ) : LB S ρ → M ρ
  | .nx s => kk s
  | .bk s => kk s
  | .rt r => .ok r
/-- a branch -/
def brI {S ρ : Type} (E : S → Slots) (I : ρ → Outc) : LB S ρ → Outc
  | .nx s => .nx (E s)
  | .bk _ => .bad
  | .rt r => (I r).inner
/-- from within a loop: a return alone -/
def Outc.onlyR : Outc → Outc
  | .rt d => .rt d
  | .fn d => .rt d
  | .fl d => .fl d
  | .fd d => .fd d
  | _ => .bad
theorem fin_ret {G : Glb} {P0 O0 : List Addr} {H0 Kx : Hp} {D D' : Ends} {o : Outc} (h : Fin G P0 O0 H0 Kx D o) (e : D'.rt = D.rt) : Fin G P0 O0 H0 Kx D' o.onlyR := by
  cases o with
  | rt d => show ∀ v H', _; rw [e]; exact h
  | fn d => show ∀ v H', _; rw [e]; exact h.1
  | fl d => show ∀ a vs ds H', _; rw [e]; exact h
  | fd d => show ∀ a H', _; rw [e]; exact h
  | _ => trivial
/-- a loop's body -/
def lpI {S ρ : Type} (E : S → Slots) (I : ρ → Outc) : LB S ρ → Outc
  | .nx s => .lp (E s)
  | .bk s => .bk (E s)
  | .rt r => (I r).onlyR
def forL {S ρ : Type} (ds : List PyData) (s : S) (f : PyData → S → M (LB S ρ)) : M (LB S ρ) := match ds with
  | [] => .ok (.nx s)
  | d :: r => (f d s).bind fun o => match o with
    | .nx s' => forL r s' f
    | .bk s' => .ok (.bk s')
    | .rt r => .ok (.rt r)
def foldL {S : Type} (ds : List PyData) (s : S) (f : PyData → S → M S) : M S := match ds with
  | [] => .ok s
  | d :: r => (f d s).bind fun s' => foldL r s' f
def whileL {S ρ : Type} (n : Nat) (s : S) (c : S → M Bool) (f : S → M (LB S ρ)) : M (LB S ρ) := match n with
  | 0 => .err
  | n + 1 => (c s).bind fun b => if b = true then (f s).bind fun o => match o with
    | .nx s' => whileL n s' c f
    | .bk s' => .ok (.bk s')
    | .rt r => .ok (.rt r)
  else .ok (.nx s)
def whileS {S : Type} (n : Nat) (s : S) (c : S → M Bool) (f : S → M S) : M S := match n with
  | 0 => .err
  | n + 1 => (c s).bind fun b => if b = true then (f s).bind fun s' => whileS n s' c f else .ok s
theorem PT_some {X : Cx} {e : Expr} {ι : Type} {t : ι → TT} (h : ∀ i, PT X e (t i)) : PT X e fun σ H Q => ∃ i, t i σ H Q := ⟨fun pins s σ H Q I ⟨i, q⟩ => (h i).run pins s σ H Q I q⟩
section
variable {G : Glb} {N : List Str} {sc : Scope} {k : Lv} {env env' : Slots} {pos p p2 p3 apos : Pos} {tg iter e c : Expr} {es : List Expr} {rest body b1 b2 : List Stmt} {st : Stmt} {ρ S : Type} {I : ρ → Outc} {m mr : M ρ} {me : M PyData} {mc : M Bool} {kk : PyData → M ρ} {ks : S → M ρ} {x : Str} {E : S → Slots} {m1 m2 : M (LB S ρ)}
/-! ### if -/
/-- the branch is not fallen through -/
theorem es_ifR {m1 : M ρ} (hc : EvT G N sc k env c mc) (h1 : EvS G N sc k env b1 m1 fun r => (I r).inner) (hr : EvS G N sc k env rest mr I) : EvS G N sc k env (.If c b1 [] pos :: rest) (mc.bind fun b => if b = true then m1 else mr) I :=
  ⟨fun X hX P0 O0 H0 Kx => by
    refine pss_step (ps_if (PT_some fun q : List Addr × List Addr => hc.run X hX.ok q.1 q.2) (h1.run X hX P0 O0 H0 Kx) pss_nil) (fun _ : Unit => hr.run X hX P0 O0 H0 Kx) fun D σ H ⟨s, q⟩ => ?_
    obtain ⟨P, O, s⟩ := s
    refine ⟨(P, O), s.r, (M.sat_bind.mp q).mono fun b q1 H1 e1 => ?_⟩
    cases b with
    | true => exact ⟨⟨P, O, s.ext e1⟩, M.Sat.mono (fun r h => fin_inner h) q1⟩
    | false => exact ⟨(), ⟨P, O, s.ext e1⟩, q1⟩⟩
/-- both branches, S what they leave -/
theorem es_if (hc : EvT G N sc k env c mc) (h1 : EvS G N sc k env b1 m1 (brI E I)) (h2 : EvS G N sc k env b2 m2 (brI E I)) (hr : ∀ s, EvS G N sc k (E s) rest (ks s) I) :
    EvS G N sc k env (.If c b1 b2 pos :: rest) ((mc.bind fun b => if b = true then m1 else m2).bind (thenL ks)) I :=
  ⟨fun X hX P0 O0 H0 Kx => by
    refine pss_step (ps_if (PT_some fun q : List Addr × List Addr => hc.run X hX.ok q.1 q.2) (h1.run X hX P0 O0 H0 Kx) (h2.run X hX P0 O0 H0 Kx)) (fun s => (hr s).run X hX P0 O0 H0 Kx) fun D σ H ⟨s, q⟩ => ?_
    obtain ⟨P, O, s⟩ := s
    have conv : ∀ (o : LB S ρ), (thenL ks o).Sat (fun r => Fin G P0 O0 H0 Kx D (I r)) → Fin G P0 O0 H0 Kx { D with nx := fun σ' H' => ∃ s, tS G P0 O0 H0 Kx (E s) (ks s) I D σ' H' } (brI E I o) := fun o h => by
      cases o with
      | nx s => exact fun σ' H' st => ⟨s, st, h⟩
      | bk s => trivial
      | rt r => exact fin_inner h
    refine ⟨(P, O), s.r, (M.sat_bind.mp (M.sat_bind.mp q)).mono fun b q1 H1 e1 => ?_⟩
    cases b with
    | true => exact ⟨⟨P, O, s.ext e1⟩, M.Sat.mono conv q1⟩
    | false => exact ⟨⟨P, O, s.ext e1⟩, M.Sat.mono conv q1⟩⟩
/-! ### for -/
/-- a def's own targets may be captured ones -/
structure EvGF (G : Glb) (N : List Str) (sc : Scope) (k : Lv) (tg : Expr) (t : TgK) : Prop where
  run : ∀ X, XFn G N sc k X → PG X tg fun v σ H Q => ∃ P O env d e', R G P O env σ H ∧ (∀ i ∈ t.ixs, i < env.length) ∧ Rp G.K (msk O H) v d ∧ t.put env d = some e' ∧ ∀ σ', R G P O e' σ' H → (∀ O0, OwOut O0 env σ → OwOut O0 e' σ') → Q σ' H
theorem egf_one {x : Str} (i : Nat) (hN : N[i]? = some x) (hl : Loc sc x) : EvGF G N sc k (.Name x pos) (.one i) :=
  ⟨fun X hX => PG_imp (pg_name (by rw [hX.ok.eN]; exact hX.ok.nd) (by rw [hX.ok.eN]; exact hN) (by rw [hX.ok.eSc]; exact hl) (.inl (hX.fn x))) fun v σ H Q ⟨P, O, env, d, e', r, hi, rv, he, q⟩ => by
    cases he
    exact q _ (r.set rv (hi i (by simp [TgK.ixs]))) fun O0 h => h.set rfl (hi i (by simp [TgK.ixs]))⟩
theorem egf_two {x y : Str} (i j : Nat) {kk : Nat} (hN : N[i]? = some x) (hl : Loc sc x) (hN2 : N[j]? = some y) (hl2 : Loc sc y) : EvGF G N sc k (.Tuple [.Name x p, .Name y p2] kk pos) (.two i j) :=
  ⟨fun X hX => PG_imp (pg_tup hX.ok.calm (pgs_cons (pg_name (by rw [hX.ok.eN]; exact hX.ok.nd) (by rw [hX.ok.eN]; exact hN) (by rw [hX.ok.eSc]; exact hl) (.inl (hX.fn x))) (pgs_cons (pg_name (by rw [hX.ok.eN]; exact hX.ok.nd) (by rw [hX.ok.eN]; exact hN2) (by rw [hX.ok.eSc]; exact hl2) (.inl (hX.fn y))) pgs_nil))) fun v σ H Q ⟨P, O, env, d, e', r, hi, rv, he, q⟩ => by
    have h1 := hi i (by simp [TgK.ixs])
    have h2 := hi j (by simp [TgK.ixs])
    match d, rv, he with
    | .tuple [a, b], rv, he =>
      cases he
      cases rv with
      | tup hs ha =>
        obtain ⟨x, y, rfl, r1, r2⟩ := rp2 ha
        rw [hX.ok.eK]
        exact ⟨_, _, rfl, kp_sqt kp_msk hs, rfl, _, _, rfl, ⟨_, _, rfl, ⟨rfl, q _ (R.set (a := .d b) (R.set (a := .d a) r r1 h1) r2 (by rw [List.length_set]; exact h2)) fun O0 h => (h.set rfl h1).set rfl (by rw [List.length_set]; exact h2)⟩⟩⟩⟩
theorem es_for {t : TgK} {mi : M (List PyData)} {f : PyData → S → M (LB S ρ)} (s0 : S) (hi : EvI G N sc k env tg iter mi) (h0 : EnvLe env (E s0)) (hg : EvGF G N sc k tg t) (hln : ∀ s, ∀ i ∈ t.ixs, i < (E s).length)
    (hb : ∀ s d e', t.put (E s) d = some e' → EvS G N sc k e' body (f d s) (lpI E I)) (hbad : ∀ s d, t.put (E s) d = none → f d s = .err) (hr : ∀ s, EvS G N sc k (E s) rest (ks s) I) (hs : ∀ env x, foldedSetIterable iter env x = pure x := by intro _ _; rfl) :
    EvS G N sc k env (.For tg iter body [] pos :: rest) (mi.bind fun ds => (forL ds s0 f).bind (thenL ks)) I :=
  ⟨fun X hX P0 O0 H0 Kx => by
    let ι := { q : S × PyData × Slots // t.put (E q.1) q.2.1 = some q.2.2 }
    refine pss_step (ps_for hX.ok.po hX.ok.calm (PI_some fun q : List Addr × List Addr => hi.run X hX.ok q.1 q.2) (hg.run X hX) (PSs_some fun i : ι × Hp => (hb _ _ _ i.1.2).run X hX P0 O0 H0 i.2) (hs _)) (fun s => (hr s).run X hX P0 O0 H0 Kx) fun D σ H ⟨s, q⟩ => ?_
    obtain ⟨P, O, s⟩ := s
    refine ⟨(P, O), s.r, (M.sat_bind.mp q).mono fun ds q1 J H1 e1 wk => ?_⟩
    have s1 := s.ext e1
    have kx1 := s1.kx
    refine ⟨fun i m σ2 H2 => m = ds.length - i ∧ i ≤ ds.length ∧ ∃ st, Stt G P0 O0 H0 (msk O H1) (E st) σ2 H2 ∧ (forL (ds.drop i) st f).Sat fun o => (thenL ks o).Sat fun r => Fin G P0 O0 H0 Kx D (I r), ⟨_, rfl, Nat.zero_le _, s0, ⟨P, O, (s1.reb (Kp.refl _)).le h0⟩, M.sat_bind.mp q1⟩, ?_⟩
    rintro i m σ2 H2 ⟨rfl, hil, st, ⟨P2, O2, s2⟩, q2⟩
    by_cases hlt : i < ds.length
    · obtain ⟨d0, hd0⟩ := getx hlt
      refine .inr ⟨wk.goes i H2 O2 hlt s2.kx, fun σ3 H3 => ∃ st, Stt G P0 O0 H0 (msk O H1) (E st) σ3 H3 ∧ (forL (ds.drop (i + 1)) st f).Sat fun o => (thenL ks o).Sat fun r => Fin G P0 O0 H0 Kx D (I r), fun σ3 H3 h3 => ⟨_, by omega, rfl, hlt, h3⟩, fun x H3 y => ?_⟩
      obtain ⟨eY, d, hd, rx⟩ := wk.yields i H2 O2 x H3 hlt s2.kx (fun a m => let ⟨_, z, _⟩ := s2.r.wf.occ a m; ⟨_, z⟩) y
      rw [hd0] at hd; cases hd
      rw [List.drop_eq_getElem_cons hlt, (List.getElem?_eq_some_iff.mp hd0).2] at q2
      unfold forL at q2
      have s3 := s2.ext (eY P2)
      cases ht : t.put (E st) d0 with
      | none => rw [hbad _ _ ht] at q2; exact q2.elim
      | some e' =>
      refine ⟨P2, O2, _, d0, e', s3.r, hln st, rx, ht, fun σ' r4 ho => ?_⟩
      refine ⟨(⟨(st, d0, e'), ht⟩, msk O H1), ⟨P2, O2, s3.w0, s3.p0, s3.o0, s3.pn, s3.on, s3.e0, s3.kx, ho _ s3.ow, r4⟩, (M.sat_bind.mp q2).mono fun o q3 => ?_⟩
      cases o with
      | nx s' => exact ⟨fun σ4 H4 h4 => ⟨s', h4, q3⟩, fun σ4 H4 h4 => ⟨s', h4, q3⟩⟩
      | bk s' => exact fun σ4 H4 h4 => ⟨s', h4.reb kx1, q3⟩
      | rt r' => exact fin_ret (fin_kx kx1 (show Fin G P0 O0 H0 Kx D (I r') from q3)) rfl
    · have hi : i = ds.length := by omega
      subst hi
      refine .inl ⟨wk.stops H2 O2 s2.kx, ?_⟩
      rw [List.drop_length] at q2
      exact ⟨st, ⟨P2, O2, s2.reb (kx1.trans s2.kx)⟩, q2⟩⟩
/-- a loop that neither breaks off nor returns -/
theorem fold_for {f : PyData → S → M S} {ρ : Type} : ∀ (ds : List PyData) (s : S), forL (ρ := ρ) ds s (fun d s => (f d s).bind fun s' => .ok (.nx s')) = (foldL ds s f).bind fun s' => .ok (.nx s')
  | [], s => rfl
  | d :: r, s => by
    unfold forL foldL
    rw [M.bind_assoc, M.bind_assoc]
    congr 1
    funext s'
    exact fold_for r s'
theorem es_fold {t : TgK} {mi : M (List PyData)} {f : PyData → S → M S} (s0 : S) (hi : EvI G N sc k env tg iter mi) (h0 : EnvLe env (E s0)) (hg : EvGF G N sc k tg t) (hln : ∀ s, ∀ i ∈ t.ixs, i < (E s).length)
    (hb : ∀ s d e', t.put (E s) d = some e' → EvS G N sc k e' body (f d s) fun s' => .lp (E s')) (hbad : ∀ s d, t.put (E s) d = none → f d s = .err) (hr : ∀ s, EvS G N sc k (E s) rest (ks s) I) (hs : ∀ env x, foldedSetIterable iter env x = pure x := by intro _ _; rfl) :
    EvS G N sc k env (.For tg iter body [] pos :: rest) (mi.bind fun ds => (foldL ds s0 f).bind ks) I := by
  have z := es_for (I := I) (ks := ks) (rest := rest) (pos := pos) s0 hi h0 hg hln (f := fun d s => (f d s).bind fun s' => .ok (.nx s')) (fun s d e' h => es_map (g := LB.nx) (I' := lpI E I) (hb s d e' h)) (fun s d h => by rw [hbad s d h]; rfl) hr hs
  have e : (fun ds => (forL (ρ := ρ) ds s0 fun d s => (f d s).bind fun s' => .ok (.nx s')).bind (thenL ks)) = fun ds => (foldL ds s0 f).bind ks := by
    funext ds
    rw [fold_for, M.bind_assoc]
    rfl
  rw [e] at z
  exact z
/-- one name, two names -/
theorem es_fold1 {f : PyData → S → M S} {mi : M (List PyData)} (i : Nat) (s0 : S) (E : S → Slots) (hi : EvI G N sc k env (.Name x p) iter mi) (h0 : EnvLe env (E s0)) (hb : ∀ s d, EvS G N sc k ((E s).set i (dS d)) body (f d s) fun s' => .lp (E s')) (hr : ∀ s, EvS G N sc k (E s) rest (ks s) I)
    (hln : ∀ s, i < (E s).length := by exact fun _ => Nat.le_of_ble_eq_true rfl) (hN : N[i]? = some x := by rfl) (hl : Loc sc x := by first | exact Or.inl rfl | exact Or.inr rfl) (hs : ∀ env x, foldedSetIterable iter env x = pure x := by intro _ _; rfl) :
    EvS G N sc k env (.For (.Name x p) iter body [] pos :: rest) (mi.bind fun ds => (foldL ds s0 f).bind ks) I :=
  es_fold s0 hi h0 (egf_one i hN hl) (fun s j h => by simp [TgK.ixs] at h; subst h; exact hln s) (fun s d e' h => by cases h; exact hb s d) (fun s d h => nomatch h) hr hs
theorem es_for1 {f : PyData → S → M (LB S ρ)} {mi : M (List PyData)} (i : Nat) (s0 : S) (E : S → Slots) (hi : EvI G N sc k env (.Name x p) iter mi) (h0 : EnvLe env (E s0)) (hb : ∀ s d, EvS G N sc k ((E s).set i (dS d)) body (f d s) (lpI E I)) (hr : ∀ s, EvS G N sc k (E s) rest (ks s) I)
    (hln : ∀ s, i < (E s).length := by exact fun _ => Nat.le_of_ble_eq_true rfl) (hN : N[i]? = some x := by rfl) (hl : Loc sc x := by first | exact Or.inl rfl | exact Or.inr rfl) (hs : ∀ env x, foldedSetIterable iter env x = pure x := by intro _ _; rfl) :
    EvS G N sc k env (.For (.Name x p) iter body [] pos :: rest) (mi.bind fun ds => (forL ds s0 f).bind (thenL ks)) I :=
  es_for s0 hi h0 (egf_one i hN hl) (fun s j h => by simp [TgK.ixs] at h; subst h; exact hln s) (fun s d e' h => by cases h; exact hb s d) (fun s d h => nomatch h) hr hs
theorem es_fold2 {y : Str} {kq : Nat} {f : PyData → PyData → S → M S} {mi : M (List PyData)} (i j : Nat) (s0 : S) (E : S → Slots) (hi : EvI G N sc k env (.Tuple [.Name x p, .Name y p2] kq p3) iter mi) (h0 : EnvLe env (E s0)) (hb : ∀ s a b, EvS G N sc k (((E s).set i (dS a)).set j (dS b)) body (f a b s) fun s' => .lp (E s')) (hr : ∀ s, EvS G N sc k (E s) rest (ks s) I)
    (hln : ∀ s, i < (E s).length := by exact fun _ => Nat.le_of_ble_eq_true rfl) (hln2 : ∀ s, j < (E s).length := by exact fun _ => Nat.le_of_ble_eq_true rfl) (hN : N[i]? = some x := by rfl) (hl : Loc sc x := by first | exact Or.inl rfl | exact Or.inr rfl) (hN2 : N[j]? = some y := by rfl) (hl2 : Loc sc y := by first | exact Or.inl rfl | exact Or.inr rfl) (hij : i ≠ j := by decide) (hs : ∀ env x, foldedSetIterable iter env x = pure x := by intro _ _; rfl) :
    EvS G N sc k env (.For (.Tuple [.Name x p, .Name y p2] kq p3) iter body [] pos :: rest) (mi.bind fun ds => (foldL ds s0 fun d s => un2 d fun a b => f a b s).bind ks) I :=
  es_fold s0 hi h0 (egf_two i j hN hl hN2 hl2) (fun s q h => by simp [TgK.ixs] at h; rcases h with h | h <;> subst h; exact hln s; exact hln2 s) (fun s d e' h => by
    match d, h with
    | .tuple [a, b], h => cases h; exact hb s a b) (fun s d h => by
    unfold un2
    split
    · cases h
    · rfl) hr hs
theorem es_for2 {y : Str} {kq : Nat} {f : PyData → PyData → S → M (LB S ρ)} {mi : M (List PyData)} (i j : Nat) (s0 : S) (E : S → Slots) (hi : EvI G N sc k env (.Tuple [.Name x p, .Name y p2] kq p3) iter mi) (h0 : EnvLe env (E s0)) (hb : ∀ s a b, EvS G N sc k (((E s).set i (dS a)).set j (dS b)) body (f a b s) (lpI E I)) (hr : ∀ s, EvS G N sc k (E s) rest (ks s) I)
    (hln : ∀ s, i < (E s).length := by exact fun _ => Nat.le_of_ble_eq_true rfl) (hln2 : ∀ s, j < (E s).length := by exact fun _ => Nat.le_of_ble_eq_true rfl) (hN : N[i]? = some x := by rfl) (hl : Loc sc x := by first | exact Or.inl rfl | exact Or.inr rfl) (hN2 : N[j]? = some y := by rfl) (hl2 : Loc sc y := by first | exact Or.inl rfl | exact Or.inr rfl) (hij : i ≠ j := by decide) (hs : ∀ env x, foldedSetIterable iter env x = pure x := by intro _ _; rfl) :
    EvS G N sc k env (.For (.Tuple [.Name x p, .Name y p2] kq p3) iter body [] pos :: rest) (mi.bind fun ds => (forL ds s0 fun d s => un2 d fun a b => f a b s).bind (thenL ks)) I :=
  es_for s0 hi h0 (egf_two i j hN hl hN2 hl2) (fun s q h => by simp [TgK.ixs] at h; rcases h with h | h <;> subst h; exact hln s; exact hln2 s) (fun s d e' h => by
    match d, h with
    | .tuple [a, b], h => cases h; exact hb s a b) (fun s d h => by
    unfold un2
    split
    · cases h
    · rfl) hr hs
/-! ### while -/
theorem es_while {c : Expr} {mcs : S → M Bool} {f : S → M (LB S ρ)} (fuel : Nat) (s0 : S) (E : S → Slots) (h0 : EnvLe env (E s0)) (hc : ∀ s, EvT G N sc k (E s) c (mcs s)) (hb : ∀ s, EvS G N sc k (E s) body (f s) (lpI E I)) (hr : ∀ s, EvS G N sc k (E s) rest (ks s) I) :
    EvS G N sc k env (.While c body [] pos :: rest) ((whileL fuel s0 mcs f).bind (thenL ks)) I :=
  ⟨fun X hX P0 O0 H0 Kx => by
    refine pss_step (ps_while hX.ok.po (PT_some fun q : S × List Addr × List Addr => (hc q.1).run X hX.ok q.2.1 q.2.2) (PSs_some fun s => (hb s).run X hX P0 O0 H0 Kx)) (fun s => (hr s).run X hX P0 O0 H0 Kx) fun D σ H ⟨s, q⟩ => ?_
    refine ⟨fun n σ2 H2 => ∃ st, Stt G P0 O0 H0 Kx (E st) σ2 H2 ∧ (whileL n st mcs f).Sat fun o => (thenL ks o).Sat fun r => Fin G P0 O0 H0 Kx D (I r), ⟨fuel, s0, s.le h0, M.sat_bind.mp q⟩, ?_⟩
    rintro n σ2 H2 ⟨st, ⟨P, O, s2⟩, q2⟩
    cases n with
    | zero => exact q2.elim
    | succ n =>
      unfold whileL at q2
      refine ⟨(st, P, O), s2.r, (M.sat_bind.mp q2).mono fun b q3 H3 e3 => ?_⟩
      cases b with
      | true =>
        rw [if_pos rfl] at q3
        rw [if_pos rfl]
        refine ⟨fun σ3 H3 => ∃ st, Stt G P0 O0 H0 Kx (E st) σ3 H3 ∧ (whileL n st mcs f).Sat fun o => (thenL ks o).Sat fun r => Fin G P0 O0 H0 Kx D (I r), fun σ3 H3 h => ⟨n, Nat.lt_succ_self n, h⟩, st, ⟨P, O, s2.ext e3⟩, (M.sat_bind.mp q3).mono fun o q4 => ?_⟩
        cases o with
        | nx s' => exact ⟨fun σ4 H4 h4 => ⟨s', h4, q4⟩, fun σ4 H4 h4 => ⟨s', h4, q4⟩⟩
        | bk s' => exact fun σ4 H4 h4 => ⟨s', h4, q4⟩
        | rt r' => exact fin_ret (show Fin G P0 O0 H0 Kx D (I r') from q4) rfl
      | false =>
        rw [if_neg Bool.false_ne_true] at q3
        rw [if_neg Bool.false_ne_true]
        exact ⟨st, ⟨P, O, s2.ext e3⟩, q3⟩⟩
theorem whileS_L {f : S → M S} {mcs : S → M Bool} {ρ : Type} : ∀ (n : Nat) (s : S), whileL (ρ := ρ) n s mcs (fun s => (f s).bind fun s' => .ok (.nx s')) = (whileS n s mcs f).bind fun s' => .ok (.nx s')
  | 0, s => rfl
  | n + 1, s => by
    unfold whileL whileS
    rw [M.bind_assoc (mcs s)]
    refine congrArg (M.bind _) (funext fun b => ?_)
    cases b with
    | true =>
      rw [if_pos rfl, if_pos rfl, M.bind_assoc, M.bind_assoc]
      congr 1
      funext s'
      exact whileS_L n s'
    | false => rfl
theorem es_whileS {c : Expr} {mcs : S → M Bool} {f : S → M S} (fuel : Nat) (s0 : S) (E : S → Slots) (h0 : EnvLe env (E s0)) (hc : ∀ s, EvT G N sc k (E s) c (mcs s)) (hb : ∀ s, EvS G N sc k (E s) body (f s) fun s' => .lp (E s')) (hr : ∀ s, EvS G N sc k (E s) rest (ks s) I) :
    EvS G N sc k env (.While c body [] pos :: rest) ((whileS fuel s0 mcs f).bind ks) I := by
  have z := es_while (I := I) (ks := ks) (rest := rest) (pos := pos) fuel s0 E h0 hc (f := fun s => (f s).bind fun s' => .ok (.nx s')) (fun s => es_map (g := LB.nx) (I' := lpI E I) (hb s)) hr
  rw [whileS_L, M.bind_assoc] at z
  exact z
/-! ### return, break, continue, a value dropped, raise -/
def RtOf (o : Outc) (d : PyData) : Prop := match o with
  | .rt e => e = d
  | .fn e => e = d
  | _ => False
theorem es_ret {g : PyData → ρ} (he : EvE G N sc k env e me) (hI : ∀ d, RtOf (I (g d)) d := by intro _; rfl) : EvS G N sc k env (.Return (some e) pos :: rest) (me.bind fun d => .ok (g d)) I :=
  ⟨fun X hX P0 O0 H0 Kx => by
    refine pss_step (u := fun _ : Empty => tNever) (ps_ret (PE_some fun q : List Addr × List Addr => he.run X hX.ok q.1 q.2)) (fun i => i.elim) fun D σ H ⟨s, q⟩ => ?_
    obtain ⟨P, O, s⟩ := s
    refine ⟨(P, O), s.r, (M.sat_bind.mp q).mono fun d q1 v H1 e1 r1 => ?_⟩
    have q2 : Fin G P0 O0 H0 Kx D (I (g d)) := q1
    have hd := hI d
    have r2 := rp_mono (kp_out s.o0) r1
    generalize I (g d) = o at q2 hd
    cases o with
    | rt e => cases hd; exact q2 v H1 (s.ext e1).e0 r2
    | fn e => cases hd; exact q2.1 v H1 (s.ext e1).e0 r2
    | _ => exact hd.elim⟩
theorem es_ret0 {r : ρ} (hI : RtOf (I r) .none := by rfl) : EvS G N sc k env (.Return none pos :: rest) (.ok r) I :=
  ⟨fun X hX P0 O0 H0 Kx => by
    refine pss_step (u := fun _ : Empty => tNever) ps_retN (fun i => i.elim) fun D σ H ⟨s, q⟩ => ?_
    obtain ⟨P, O, s⟩ := s
    have q2 : Fin G P0 O0 H0 Kx D (I r) := q
    generalize I r = o at q2 hI
    cases o with
    | rt e => cases hI; exact q2 .non H s.e0 .non
    | fn e => cases hI; exact q2.1 .non H s.e0 .non
    | _ => exact hI.elim⟩
def FlOf (o : Outc) (d : PyData) : Prop := match o with
  | .rt e => e = d
  | .fn e => e = d
  | .fl e => e = d
  | _ => False
theorem fl_end {P0 O0 : List Addr} {H0 Kx H1 : Hp} {D : Ends} {o : Outc} {ds : List PyData} {a : Addr} {vs : List V} (hI : FlOf o (.list ds)) (q2 : Fin G P0 O0 H0 Kx D o) (e1 : Ext G.T P0 H0 H1) (hn : Fr0 H0 a) (hO : a ∉ O0) (ha : H1 a = some (.lst vs)) (hr : RpAll G.K (msk (a :: O0) H1) vs ds) : D.rt (.ref a) H1 := by
  have r2 : Rp G.K (msk O0 H1) (.ref a) (.list ds) := .lst ((msk_out hO).trans ha) (rpAll_mono kp_less hr)
  cases o with
  | rt e => cases hI; exact q2 _ H1 e1 r2
  | fn e => cases hI; exact q2.1 _ H1 e1 r2
  | fl e => cases hI; exact q2 a vs ds H1 rfl e1 hn ha hr
  | _ => exact hI.elim
theorem kp_cons {a : Addr} {O O0 : List Addr} {H : Hp} (ho : ∀ a ∈ O0, a ∈ O) : Kp (msk (a :: O) H) (msk (a :: O0) H) := fun b o q t => by
  obtain ⟨h1, h2⟩ := msk_some q
  rw [msk_out fun m => h1 (by
    rcases List.mem_cons.mp m with z | z
    · rw [z]; exact List.mem_cons_self
    · exact List.mem_cons_of_mem _ (ho b z))]
  exact h2
/-- a new list is returned -/
theorem es_retL {g : PyData → ρ} (he : EvL G N sc k env e me) (hI : ∀ d, FlOf (I (g d)) d := by intro _; rfl) : EvS G N sc k env (.Return (some e) pos :: rest) (me.bind fun d => .ok (g d)) I :=
  ⟨fun X hX P0 O0 H0 Kx => by
    refine pss_step (u := fun _ : Empty => tNever) (ps_ret (PE_some fun q : List Addr × List Addr => he.run X hX.ok q.1 q.2)) (fun i => i.elim) fun D σ H ⟨s, q⟩ => ?_
    obtain ⟨P, O, s⟩ := s
    refine ⟨(P, O), s.r, (M.sat_bind.mp q).mono fun d q1 a vs ds H1 hd e1 hn ha hr => ?_⟩
    subst hd
    have f := s.fresh hn
    exact fl_end (D := D) (hI _) q1 (s.ext e1).e0 f.1 f.2 ha (rpAll_mono (kp_cons s.o0) hr)⟩
/-- an own list is returned -/
theorem es_retO {r : ρ} {ds : List PyData} (i : Nat) (he : env[i]? = some (.ow ds) := by rfl) (hI : FlOf (I r) (.list ds) := by rfl) (hN : N[i]? = some x := by rfl) (hv : Vis sc x := by first | exact Or.inl rfl | exact Or.inr (Or.inl rfl) | exact Or.inr (Or.inr rfl))
    (hd : (x == ("__debug__" : Str)) = false := by decide) (hcd : (x == ("__classdict__" : Str)) = false := by decide) : EvS G N sc k env (.Return (some (.Name x p)) pos :: rest) (.ok r) I :=
  ⟨fun X hX P0 O0 H0 Kx => by
    have o := hX.ok
    refine pss_step (u := fun _ : Empty => tNever) (ps_ret (pe_var (i := i) (by rw [o.eN]; exact hN) (by rw [o.eSc]; exact hv) hd hcd)) (fun i => i.elim) fun D σ H ⟨s, q⟩ => ?_
    obtain ⟨P, O, s⟩ := s
    obtain ⟨a, vs, z1, z2, z3, z4, z5⟩ := s.r.at_ i _ he
    have n0 := s.ow i (.list ds) a he z1
    have f : Fr0 H0 a := (s.on a z2).resolve_left n0
    refine ⟨_, z1, fl_end (D := D) hI q s.e0 f n0 z4 (rpAll_mono (fun b o q t => ?_) z5)⟩
    obtain ⟨h1, h2⟩ := msk_some q
    rw [msk_out fun m => h1 (by
      rcases List.mem_cons.mp m with z | z
      · rw [z]; exact z2
      · exact s.o0 b z)]
    exact h2⟩
theorem es_expr {m : M ρ} (he : EvE G N sc k env e me) (hr : EvS G N sc k env rest m I) (hs : ∀ env : PySem.Env, swapsWith e none pos.line env = pure false := by intro _; rfl) : EvS G N sc k env (.Expr e pos :: rest) (me.bind fun _ => m) I :=
  ⟨fun X hX P0 O0 H0 Kx => by
    refine pss_step (ps_expr (PE_some fun q : List Addr × List Addr => he.run X hX.ok q.1 q.2) (hs _)) (fun _ : Unit => hr.run X hX P0 O0 H0 Kx) fun D σ H ⟨s, q⟩ => ?_
    obtain ⟨P, O, s⟩ := s
    exact ⟨(P, O), s.r, (M.sat_bind.mp q).mono fun d q1 v H1 e1 r1 => ⟨(), ⟨P, O, s.ext e1⟩, q1⟩⟩⟩
/-- what is never come to (raise) -/
theorem es_err : EvS G N sc k env rest (.err : M ρ) I := ⟨fun X hX P0 O0 H0 Kx => PSs_imp pss_never fun D σ H ⟨s, q⟩ => q⟩
theorem es_break {r : ρ} (e' : Slots) (hI : I r = .bk e') (h : EnvLe env e') : EvS G N sc k env (.Break pos :: rest) (.ok r) I :=
  ⟨fun X hX P0 O0 H0 Kx => by
    refine pss_step (u := fun _ : Empty => tNever) ps_break (fun i => i.elim) fun D σ H ⟨s, q⟩ => ?_
    have q2 : Fin G P0 O0 H0 Kx D (I r) := q
    rw [hI] at q2
    exact q2 σ H (s.le h)⟩
theorem es_cont {r : ρ} (e' : Slots) (hI : I r = .lp e' ∨ I r = .ct e') (h : EnvLe env e') : EvS G N sc k env (.Continue pos :: rest) (.ok r) I :=
  ⟨fun X hX P0 O0 H0 Kx => by
    refine pss_step (u := fun _ : Empty => tNever) ps_continue (fun i => i.elim) fun D σ H ⟨s, q⟩ => ?_
    have q2 : Fin G P0 O0 H0 Kx D (I r) := q
    rcases hI with hI | hI
    · rw [hI] at q2
      exact q2.2 σ H (s.le h)
    · rw [hI] at q2
      exact q2 σ H (s.le h)⟩
end
end Ev

set_option Elab.async false
set_option linter.all false
set_option autoImplicit false
set_option maxRecDepth 100000
set_option maxHeartbeats 2000000
namespace Ev
open PySem PySem.Spec PyProof.Rows L2

section
variable {G : Glb} {N : List Str} {sc : Scope} {k : Lv} {env env' : Slots} {pos p p2 p3 apos : Pos} {e e2 c : Expr} {es : List Expr} {rest : List Stmt} {ρ : Type} {I : ρ → Outc} {m : M ρ} {me me2 : M PyData} {mc : M Bool} {x y : Str}
/-! ### own lists read -/
/-- own lists seen as data (while no statement runs) -/
def frz (env : Slots) : Slots := env.map fun
  | .own (.list ds) => dS (.list ds)
  | .own _ => .un
  | s => s
theorem R.frz {P O : List Addr} {σ : L2.St} {H : Hp} (r : R G P O env σ H) : R G P P (frz env) σ H := by
  have kp : Kp (msk O H) (msk P H) := fun a o q t => by
    obtain ⟨h1, h2⟩ := msk_some q
    rw [msk_out fun m => h1 (r.wf.pots a m).1]
    exact h2
  refine ⟨⟨fun a m => ⟨m, (r.wf.pots a m).2⟩, fun a m => r.wf.occ a (r.wf.pots a m).1⟩, r.tabs, fun i sl h => ?_, by rw [r.len]; simp [Ev.frz], fun i j ds es a h1 h2 h3 h4 => ?_⟩
  · unfold Ev.frz at h
    rw [List.getElem?_map] at h
    cases h0 : env[i]? with
    | none => rw [h0] at h; cases h
    | some s =>
      rw [h0] at h
      have z := r.at_ i s h0
      cases s with
      | un => cases h; trivial
      | v a =>
        cases h
        obtain ⟨x, h1, h2⟩ := z
        exact ⟨x, h1, h2.same kp⟩
      | own d =>
        cases d with
        | list ds =>
          cases h
          obtain ⟨a, vs, h1, h2, h3, h4, h5⟩ := z
          exact ⟨_, h1, .lst ((msk_out h3).trans h4) (rpAll_mono kp h5)⟩
        | _ => cases h; trivial
  · unfold Ev.frz at h1
    rw [List.getElem?_map] at h1
    cases h0 : env[i]? with
    | none => rw [h0] at h1; cases h1
    | some s =>
      rw [h0] at h1
      cases s with
      | un => cases h1
      | v a => cases h1
      | own d => cases d <;> cases h1
/-- a test may look at own lists -/
theorem et_frz (h : EvT G N sc k (frz env) e mc) : EvT G N sc k env e mc :=
  ⟨fun X hX P O => PT_imp (h.run X hX P P) fun σ H Q ⟨r, q⟩ => ⟨r.frz, q⟩⟩
/-- a scalar may be made of own lists -/
def scalar : PyData → M PyData
  | .int i => .ok (.int i)
  | .bool b => .ok (.bool b)
  | .str s => .ok (.str s)
  | .none => .ok .none
  | _ => .err
theorem ev_frz (h : EvE G N sc k (frz env) e me) : EvE G N sc k env e (me.bind scalar) :=
  ⟨fun X hX P O => PE_imp (h.run X hX P P) fun σ H Q ⟨r, q⟩ => ⟨r.frz, (M.sat_bind.mp q).mono fun d q1 v H1 e1 r1 => by
    cases r1 with
    | non => exact q1 _ _ e1 .non
    | bl b => exact q1 _ _ e1 (.bl b)
    | int i => exact q1 _ _ e1 (.int i)
    | str x => exact q1 _ _ e1 (.str x)
    | _ => exact q1.elim⟩⟩
/-- o[i] of an own list o -/
theorem ev_ixO {ds : List PyData} (i : Nat) (he : env[i]? = some (.ow ds)) (hb : EvE G N sc k env e me) (hN : N[i]? = some x := by rfl) (hv : Vis sc x := by first | exact Or.inl rfl | exact Or.inr (Or.inl rfl) | exact Or.inr (Or.inr rfl)) (hs : PlainIx e := by intro _ _; rfl)
    (hd : (x == ("__debug__" : Str)) = false := by decide) (hcd : (x == ("__classdict__" : Str)) = false := by decide) : EvE G N sc k env (.Subscript (.Name x p) e pos) (me.bind fun y => pIdx (.list ds) y) :=
  ⟨fun X hX P O => PE_imp (pe_ix ix_list (pe_var (i := i) (by rw [hX.eN]; exact hN) (by rw [hX.eSc]; exact hv) hd hcd) (hb.run X hX P O) hs) fun σ H Q ⟨r, q⟩ => by
    obtain ⟨a, vs, z1, z2, z3, z4, z5⟩ := r.at_ i _ he
    refine ⟨_, z1, r, (M.sat_bind.mp q).mono fun d q1 v H1 e1 r1 => ?_⟩
    have h1 : H1 a = some (.lst vs) := e1.keep _ _ z4 z3 trivial
    have a1 := rpAll_mono (e1.kp r.wf) z5
    cases r1 with
    | int j =>
      unfold pIdx at q1
      dsimp only at q1
      unfold atI at q1
      cases hx : ixN ds.length j with
      | none => rw [hx] at q1; exact q1.elim
      | some n =>
        rw [hx] at q1
        dsimp only [Option.bind] at q1
        cases hy : ds[n]? with
        | none => rw [hy] at q1; exact q1.elim
        | some d =>
          rw [hy] at q1
          obtain ⟨v, hv', rv⟩ := rpAll_get' a1 hy
          rw [hX.eK]
          exact ⟨a, vs, j, v, rfl, rfl, SqL.of h1, by unfold atI; rw [rpAll_length a1, hx]; exact hv', q1 _ _ e1 rv⟩
    | _ => exact q1.elim⟩
/-! ### own lists changed -/
theorem own_at {P O : List Addr} {σ : L2.St} {H : Hp} {ds : List PyData} {i : Nat} (r : R G P O env σ H) (he : env[i]? = some (.ow ds)) : ∃ a vs, σ[i]? = some (some (.ref a)) ∧ a ∈ O ∧ a ∉ P ∧ H a = some (.lst vs) ∧ RpAll G.K (msk O H) vs ds := r.at_ i _ he
/-- xs.append(e) -/
theorem es_append (i : Nat) {ds : List PyData} {kl : PyData → M ρ} (he : env[i]? = some (.ow ds)) (ha : EvE G N sc k env e me) (hr : ∀ d, EvS G N sc k (env.set i (.ow (ds ++ [d]))) rest (kl d) I) (hN : N[i]? = some x := by rfl) (hv : Vis sc x := by first | exact Or.inl rfl | exact Or.inr (Or.inl rfl) | exact Or.inr (Or.inr rfl))
    (hd : (x == ("__debug__" : Str)) = false := by decide) (hcd : (x == ("__classdict__" : Str)) = false := by decide) (hline : (apos.endLine == pos.line) = true := by rfl) (hn : notStar e = true := by rfl) :
    EvS G N sc k env (.Expr (.Call (.Attribute (.Name x p) "append" apos) [e] [] pos) p2 :: rest) (me.bind fun d => if ds.length < sizeLine then kl d else .err) I :=
  ⟨fun X hX P0 O0 H0 Kx => by
    have o := hX.ok
    refine pss_step (ps_expr (pe_bm PySem.F.plainAttrs_list PySem.F.slot_list_append PySem.F.type_list_append mt_append (pe_var (i := i) (by rw [o.eN]; exact hN) (by rw [o.eSc]; exact hv) hd hcd) (pa_cons (PE_some fun q : List Addr × List Addr => ha.run X o q.1 q.2) pa_nil (star_no hn)) (hline := hline) (hs := star_no hn) (hfew := by rw [star_no hn]; rfl) (hplain := rfl))) (fun d => (hr d).run X hX P0 O0 H0 Kx) fun D σ H ⟨s, q⟩ => ?_
    obtain ⟨P, O, s⟩ := s
    obtain ⟨a, vs, z1, z2, z3, z4, z5⟩ := own_at s.r he
    refine ⟨_, z1, .inl ⟨rfl, vs, SqL.of z4⟩, (P, O), s.r, (M.sat_bind.mp q).mono fun d q1 v H1 e1 r1 => ?_⟩
    have s1 := s.ext e1
    obtain ⟨a', vs', y1, y2, y3, y4, y5⟩ := own_at s1.r he
    rw [z1] at y1; cases y1
    obtain ⟨hl, q1⟩ := sat_if q1
    exact ⟨a, vs', v, rfl, rfl, y4, by rw [rpAll_length y5]; exact hl, d, ⟨P, O, s1.mut he z1 (rpAll_append y5 (.cons r1 .nil))⟩, q1⟩⟩
/-- xs.extend(e) -/
theorem es_extend (i : Nat) {ds : List PyData} {kl : List PyData → M ρ} (he : env[i]? = some (.ow ds)) (ha : EvE G N sc k env e me) (hr : ∀ es, EvS G N sc k (env.set i (.ow (ds ++ es))) rest (kl es) I) (hN : N[i]? = some x := by rfl) (hv : Vis sc x := by first | exact Or.inl rfl | exact Or.inr (Or.inl rfl) | exact Or.inr (Or.inr rfl))
    (hd : (x == ("__debug__" : Str)) = false := by decide) (hcd : (x == ("__classdict__" : Str)) = false := by decide) (hline : (apos.endLine == pos.line) = true := by rfl) (hn : notStar e = true := by rfl) :
    EvS G N sc k env (.Expr (.Call (.Attribute (.Name x p) "extend" apos) [e] [] pos) p2 :: rest) (me.bind fun d => onL d fun es => if ds.length + es.length ≤ sizeLine then kl es else .err) I :=
  ⟨fun X hX P0 O0 H0 Kx => by
    have o := hX.ok
    refine pss_step (ps_expr (pe_bm PySem.F.plainAttrs_list PySem.F.slot_list_extend PySem.F.type_list_extend mt_extend (pe_var (i := i) (by rw [o.eN]; exact hN) (by rw [o.eSc]; exact hv) hd hcd) (pa_cons (PE_some fun q : List Addr × List Addr => ha.run X o q.1 q.2) pa_nil (star_no hn)) (hline := hline) (hs := star_no hn) (hfew := by rw [star_no hn]; rfl) (hplain := rfl))) (fun d => (hr d).run X hX P0 O0 H0 Kx) fun D σ H ⟨s, q⟩ => ?_
    obtain ⟨P, O, s⟩ := s
    obtain ⟨a, vs, z1, z2, z3, z4, z5⟩ := own_at s.r he
    refine ⟨_, z1, .inl ⟨rfl, vs, SqL.of z4⟩, (P, O), s.r, (M.sat_bind.mp q).mono fun d q1 v H1 e1 r1 => ?_⟩
    have s1 := s.ext e1
    obtain ⟨a', vs', y1, y2, y3, y4, y5⟩ := own_at s1.r he
    rw [z1] at y1; cases y1
    obtain ⟨es, rfl, q1⟩ := onL_sat q1
    obtain ⟨hl, q1⟩ := sat_if q1
    cases r1 with
    | lst h1 a1 => exact ⟨a, _, vs', _, rfl, rfl, y4, (msk_some h1).2, by rw [rpAll_length y5, rpAll_length a1]; exact hl, es, ⟨P, O, s1.mut he z1 (rpAll_append y5 a1)⟩, q1⟩⟩
/-- xs[e] = e2 -/
def pSet (ds : List PyData) (i v : PyData) : M (List PyData) := match i with
  | .int j => match ixN ds.length j with
    | some n => .ok (ds.set n v)
    | none => .err
  | _ => .err
theorem es_sub (i : Nat) {ds : List PyData} {kl : List PyData → M ρ} (he : env[i]? = some (.ow ds)) (hv2 : EvE G N sc k env e2 me2) (ha : EvE G N sc k env e me) (hr : ∀ es, EvS G N sc k (env.set i (.ow es)) rest (kl es) I) (hN : N[i]? = some x := by rfl) (hv : Vis sc x := by first | exact Or.inl rfl | exact Or.inr (Or.inl rfl) | exact Or.inr (Or.inr rfl))
    (hd : (x == ("__debug__" : Str)) = false := by decide) (hcd : (x == ("__classdict__" : Str)) = false := by decide)
    (hs : ∀ env : PySem.Env, swapsWithSole [.Subscript (.Name x p) e p3] e2 pos.line env = pure false := by intro _; rfl)
    (hw : ∀ env : PySem.Env, swappedStores [.Subscript (.Name x p) e p3] e2 env = pure none := by intro _; rfl)
    (hq : ∀ (env : PySem.Env) v, assign (.Subscript (.Name x p) e p3) env v = (do
      let ov ← holding [v] (eval (.Name x p) env)
      let iv ← holding [v, ov] (eval e env)
      standAt p3
      holding [v, ov, iv] (setItem ov iv v)
      release [v, ov, iv] []) := by intro _ _; rfl) :
    EvS G N sc k env (.Assign [.Subscript (.Name x p) e p3] e2 pos :: rest) (me2.bind fun v => me.bind fun j => (pSet ds j v).bind kl) I :=
  ⟨fun X hX P0 O0 H0 Kx => by
    have o := hX.ok
    refine pss_step (ps_asg (PE_some fun q : List Addr × List Addr => hv2.run X o q.1 q.2) (pg_sub (pe_var (i := i) (by rw [o.eN]; exact hN) (by rw [o.eSc]; exact hv) hd hcd) (PE_some fun q : List Addr × List Addr => ha.run X o q.1 q.2) set_list (hq _)) (hs _) (hw _)) (fun es => (hr es).run X hX P0 O0 H0 Kx) fun D σ H ⟨s, q⟩ => ?_
    obtain ⟨P, O, s⟩ := s
    refine ⟨(P, O), s.r, (M.sat_bind.mp q).mono fun d2 q1 w H1 e1 r1 => ?_⟩
    have s1 := s.ext e1
    obtain ⟨a, vs, z1, z2, z3, z4, z5⟩ := own_at s1.r he
    refine ⟨_, z1, (P, O), s1.r, (M.sat_bind.mp q1).mono fun j q2 jv H2 e2 r2 => ?_⟩
    have s2 := s1.ext e2
    obtain ⟨a', vs', y1, y2, y3, y4, y5⟩ := own_at s2.r he
    rw [z1] at y1; cases y1
    have rw2 := rp_mono (e2.kp s1.r.wf) r1
    cases r2 with
    | int jj =>
      have q3 := M.sat_bind.mp q2
      unfold pSet at q3
      dsimp only at q3
      cases hx : ixN ds.length jj with
      | none => rw [hx] at q3; exact q3.elim
      | some n =>
        rw [hx] at q3
        exact ⟨a, vs', jj, n, rfl, rfl, y4, by rw [rpAll_length y5]; exact hx, _, ⟨P, O, s2.mut he z1 (rpAll_set rw2 n y5)⟩, q3⟩
    | _ => exact (M.sat_bind.mp q2).elim⟩
/-- y = xs.pop(), y = xs.pop(e) -/
def pPop (ds : List PyData) : Option (PyData × List PyData) := match ds[ds.length - 1]? with
  | some d => some (d, ds.dropLast)
  | none => none
theorem rpAll_dropLast {K : PySem.W.Frag} {h : Hp} {vs : List V} {ds : List PyData} (r : RpAll K h vs ds) : RpAll K h vs.dropLast ds.dropLast := by
  rw [List.dropLast_eq_take, List.dropLast_eq_take, rpAll_length r]
  exact rpAll_take _ r
theorem es_pop (i j : Nat) {ds : List PyData} {kp : PyData → List PyData → M ρ} (he : env[i]? = some (.ow ds)) (hr : ∀ d es, EvS G N sc k ((env.set i (.ow es)).set j (dS d)) rest (kp d es) I) (hj : j < env.length := by exact Nat.le_of_ble_eq_true rfl) (hN : N[i]? = some x := by rfl) (hv : Vis sc x := by first | exact Or.inl rfl | exact Or.inr (Or.inl rfl) | exact Or.inr (Or.inr rfl))
    (hNy : N[j]? = some y := by rfl) (hl : Loc sc y := by first | exact Or.inl rfl | exact Or.inr rfl) (hd : (x == ("__debug__" : Str)) = false := by decide) (hcd : (x == ("__classdict__" : Str)) = false := by decide) (hline : (apos.endLine == p2.line) = true := by rfl) :
    EvS G N sc k env (.Assign [.Name y p3] (.Call (.Attribute (.Name x p) "pop" apos) [] [] p2) pos :: rest) (match pPop ds with | some (d, es) => kp d es | none => .err) I :=
  ⟨fun X hX P0 O0 H0 Kx => by
    have o := hX.ok
    refine pss_step (ps_set (i := j) (by rw [o.eN]; exact o.nd) (by rw [o.eN]; exact hNy) (by rw [o.eSc]; exact hl) (pe_bm0 PySem.F.plainAttrs_list PySem.F.slot_list_pop PySem.F.type_list_pop mt_pop (pe_var (i := i) (by rw [o.eN]; exact hN) (by rw [o.eSc]; exact hv) hd hcd) (hline := hline)) rfl (.inl (hX.fn y))) (fun q : PyData × List PyData => (hr q.1 q.2).run X hX P0 O0 H0 Kx) fun D σ H ⟨s, q⟩ => ?_
    obtain ⟨P, O, s⟩ := s
    obtain ⟨a, vs, z1, z2, z3, z4, z5⟩ := own_at s.r he
    unfold pPop at q
    cases hx : ds[ds.length - 1]? with
    | none => rw [hx] at q; exact q.elim
    | some d =>
      rw [hx] at q
      obtain ⟨v, hv', rv⟩ := rpAll_get' z5 hx
      have hl' := rpAll_length z5
      have s2 := s.mut he z1 (rpAll_dropLast z5)
      have hm : Kp (msk O H) (msk O (upd H a (.lst vs.dropLast))) := fun b u q t => by
        obtain ⟨h1, h2⟩ := msk_some q
        rw [msk_out h1, upd_ne (fun e : b = a => h1 (by rw [e]; exact z2))]
        exact h2
      exact ⟨_, z1, .inl ⟨rfl, vs, SqL.of z4⟩, a, vs, v, rfl, rfl, z4, by rw [hl']; exact hv', (d, ds.dropLast), ⟨P, O, s2.set (a := .d d) (rp_mono hm rv) (by rw [List.length_set]; exact hj)⟩, q⟩⟩
end
end Ev

set_option Elab.async false
set_option linter.all false
set_option autoImplicit false
set_option maxRecDepth 100000
set_option maxHeartbeats 2000000
namespace Ev
open PySem PySem.Spec PyProof.Rows L2

/-! ### arguments of any kind -/
def RelAs (G : Glb) (P O : List Addr) (H : Hp) : List V → List AV → Prop
  | [], [] => True
  | v :: vs, a :: as => RelA G P O H v a ∧ RelAs G P O H vs as
  | _, _ => False
section
variable {G : Glb} {P O O' : List Addr} {H H' : Hp}
theorem relAs_ext (w : Wf P O H) (e : Ext G.T P H H') : ∀ {vs : List V} {as : List AV}, RelAs G P O H vs as → RelAs G P O H' vs as
  | [], [], h => h
  | v :: vs, a :: as, h => ⟨h.1.ext w e, relAs_ext w e h.2⟩
  | [], _ :: _, h => h.elim
  | _ :: _, [], h => h.elim
theorem relAs_len : ∀ {vs : List V} {as : List AV}, RelAs G P O H vs as → vs.length = as.length
  | [], [], _ => rfl
  | v :: vs, a :: as, h => by rw [List.length_cons, List.length_cons, relAs_len h.2]
  | [], _ :: _, h => h.elim
  | _ :: _, [], h => h.elim
theorem relAs_get : ∀ {vs : List V} {as : List AV} {i : Nat} {a : AV}, RelAs G P O H vs as → as[i]? = some a → ∃ v, vs[i]? = some v ∧ RelA G P O H v a
  | [], [], _, _, _, e => by simp at e
  | v :: vs, a :: as, 0, _, h, e => by simp at e; subst e; exact ⟨v, rfl, h.1⟩
  | v :: vs, a :: as, i + 1, _, h, e => by
    obtain ⟨u, h1, h2⟩ := relAs_get (i := i) h.2 (by simpa using e)
    exact ⟨u, by simpa using h1, h2⟩
  | [], _ :: _, _, _, h, _ => h.elim
  | _ :: _, [], _, _, h, _ => h.elim
end
structure EvAs (G : Glb) (N : List Str) (sc : Scope) (k : Lv) (env : Slots) (es : List Expr) (m : M (List AV)) : Prop where
  run : ∀ X, XOk G N sc k X → ∀ P O, PA X es fun σ H Q => R G P O env σ H ∧ m.Sat fun as => ∀ vs H', Ext G.T P H H' → RelAs G P O H' vs as → Q vs H'
/-- one argument -/
structure Ev1 (G : Glb) (N : List Str) (sc : Scope) (k : Lv) (env : Slots) (e : Expr) (m : M AV) : Prop where
  run : ∀ X, XOk G N sc k X → ∀ P O, PE X e fun σ H Q => R G P O env σ H ∧ m.Sat fun a => ∀ v H', Ext G.T P H H' → RelA G P O H' v a → Q v H'
section
variable {G : Glb} {N : List Str} {sc : Scope} {k : Lv} {env env' : Slots} {pos p p2 p3 apos : Pos} {e e2 c : Expr} {es : List Expr} {rest : List Stmt} {ρ : Type} {I : ρ → Outc} {m : M ρ} {me me2 : M PyData} {x y : Str} {ma : M AV} {mas : M (List AV)}
theorem eas_nil : EvAs G N sc k env [] (.ok []) := ⟨fun X hX P O => PA_imp pa_nil fun σ H Q ⟨_, q⟩ => q [] H Ext.refl trivial⟩
theorem eas_cons (he : Ev1 G N sc k env e ma) (hs : EvAs G N sc k env es mas) (hn : notStar e = true := by rfl) : EvAs G N sc k env (e :: es) (ma.bind fun a => mas.bind fun as => .ok (a :: as)) :=
  ⟨fun X hX P O => PA_imp (pa_cons (he.run X hX P O) (hs.run X hX P O) (star_no hn)) fun σ H Q ⟨r, q⟩ => by
    refine ⟨r, (M.sat_bind.mp q).mono fun a q1 v H1 e1 r1 => ⟨r.ext e1, (M.sat_bind.mp q1).mono fun as q2 vs H2 e2 r2 => ?_⟩⟩
    exact q2 _ H2 (e1.trans e2) ⟨r1.ext (r.wf.ext e1) e2, r2⟩⟩
theorem e1_d (he : EvE G N sc k env e me) : Ev1 G N sc k env e (me.bind fun d => .ok (.d d)) :=
  ⟨fun X hX P O => PE_imp (he.run X hX P O) fun σ H Q ⟨r, q⟩ => ⟨r, (M.sat_bind.mp q).mono fun d q1 v H1 e1 r1 => q1 v H1 e1 r1⟩⟩
/-- a name that holds a pot, the script, a lambda -/
theorem e1_v {a : AV} (i : Nat) (hN : N[i]? = some x := by rfl) (hv : Vis sc x := by first | exact Or.inl rfl | exact Or.inr (Or.inl rfl) | exact Or.inr (Or.inr rfl)) (he : env[i]? = some (.v a) := by rfl)
    (hd : (x == ("__debug__" : Str)) = false := by decide) (hcd : (x == ("__classdict__" : Str)) = false := by decide) : Ev1 G N sc k env (.Name x pos) (.ok a) :=
  ⟨fun X hX P O => PE_imp (pe_var (i := i) (by rw [hX.eN]; exact hN) (by rw [hX.eSc]; exact hv) hd hcd) fun σ H Q ⟨r, q⟩ => by
    obtain ⟨v, h1, h2⟩ := r.at_ i _ he
    exact ⟨v, h1, q v H Ext.refl h2⟩⟩

/-! ### defs -/
def spF (G : Glb) (n : Nat) (f : List AV → M PyData) : Sp := fun vs H Q _ => vs.length = n ∧ ∃ P O as, Wf P O H ∧ LamX.Tabs G.T H ∧ RelAs G P O H vs as ∧ (f as).Sat fun d => ∀ v H', Ext G.T P H H' → Rp G.K (msk O H') v d → Q v H'
def spL (G : Glb) (n : Nat) (f : List AV → M PyData) : Sp := fun vs H Q _ => vs.length = n ∧ ∃ P O as, Wf P O H ∧ LamX.Tabs G.T H ∧ RelAs G P O H vs as ∧ (f as).Sat fun d => ∀ a vs ds H', d = .list ds → Ext G.T P H H' → Fr0 H a → H' a = some (.lst vs) → RpAll G.K (msk (a :: O) H') vs ds → Q (.ref a) H'
/-- a def's promise where no guard of repr stands -/
structure FnG (G : Glb) (k : Nat) (f : Addr) (fd : FuncData) (ps : List Str) (sp : Sp) : Prop where
  len : ∀ vs H Q E, sp vs H Q E → vs.length = ps.length
  run : ∀ (A : Around) (outer : List PySem.Env) (s : Shared) (H : Hp) (args : Args) (us : List Value) (vs : List V) (Q : VK), Room k A → A.guards = some [] → Env0 G.P G.w G.K G.mg G.base A outer s H → BindsTo s fd args (ps.zip us) → Vals vs us → sp vs H Q E0 →
    codeAny (model G.P G.w) A (.call (.ref f) args) (CR CX0 outer G.P G.w H s Q E0) s
theorem FnG.mono {j k : Nat} {f : Addr} {fd : FuncData} {ps : List Str} {sp : Sp} (F : FnG G j f fd ps sp) (h : j ≤ k) : FnG G k f fd ps sp := ⟨F.len, fun A outer s H args us vs Q hr => F.run A outer s H args us vs Q (hr.mono h)⟩
theorem FnG.imp {k : Nat} {f : Addr} {fd : FuncData} {ps : List Str} {sp sp' : Sp} (F : FnG G k f fd ps sp) (h : ∀ vs H Q E, sp' vs H Q E → sp vs H Q E) : FnG G k f fd ps sp' :=
  ⟨fun vs H Q E q => F.len vs H Q E (h _ _ _ _ q), fun A outer s H args us vs Q hr hg he hb hv hs => F.run A outer s H args us vs Q hr hg he hb hv (h _ _ _ _ hs)⟩
/-- what comes back of such a call -/
theorem cr_end {X : Cx} {N : List Str} {sc : Scope} {k : Lv} (hX : XOk G N sc k X) {pins : List (Addr × Obj)} {σ : L2.St} {H : Hp} {s : Shared} {Q : VK} (I : Inv X pins σ H s) {c : Code} (h : codeAny (model G.P G.w) X.A c (CR CX0 X.stack G.P G.w H s Q E0) s) :
    codeAny (model X.prog X.w) X.A c (fun r s' => ∃ u, r = .ok (.ret u) ∧ EP X pins σ Q u s') s := by
  rw [hX.ePr, hX.eW]
  refine codeAny_mono h fun r s' q => ?_
  match r, q with
  | .ok (.ret u), q => exact ⟨u, rfl, I.after (by rw [hX.ePr, hX.eW]; exact q)⟩
theorem run_G {X : Cx} {N : List Str} {sc : Scope} {k : Lv} (hX : XOk G N sc k X) {j : Nat} {f : Addr} {fd : FuncData} {ps : List Str} {sp : Sp} (F : FnG G j f fd ps sp) (hj : j ≤ k.n) {pins : List (Addr × Obj)} {σ : L2.St} {H : Hp} {s : Shared} {Q : VK} (I : Inv X pins σ H s)
    {args : List Value} {kws : List (Str × Value)} {us : List Value} {vs : List V} (hb : BindsTo s fd ⟨args, kws⟩ (ps.zip us)) (hv : Vals vs us) (h : sp vs H Q E0) : wpAny (model X.prog X.w) X.A (call (.ref f) args kws) (EP X pins σ Q) X.xe s := by
  have e0 := I.env0
  rw [hX.ePr, hX.eW, hX.eK, hX.eMg, hX.eBs] at e0
  refine wpAny_call (codeAny_mono (cr_end hX I (F.run X.A X.stack s H ⟨args, kws⟩ us vs Q (hX.room.mono hj) hX.gu e0 hb hv h)) fun r s' q => ?_)
  obtain ⟨u, rfl, q⟩ := q
  exact q
structure FnD (G : Glb) (k : Nat) (x : Str) (st : Stmt) (ps : List Str) (sp : Sp) : Prop where
  ex : ∃ fa fd, G.mg x = some (.ref fa) ∧ FunD G.K x x (defArgs st) (defBody st) (defScope st) [] [] fa fd ∧ FnG G k fa fd ps sp
theorem FnD.mono {j k : Nat} {st : Stmt} {ps : List Str} {sp : Sp} (F : FnD G j x st ps sp) (h : j ≤ k) : FnD G k x st ps sp := by
  obtain ⟨fa, fd, h1, h2, h3⟩ := F.ex
  exact ⟨fa, fd, h1, h2, h3.mono h⟩
theorem FnD.imp {k : Nat} {st : Stmt} {ps : List Str} {sp sp' : Sp} (F : FnD G k x st ps sp) (h : ∀ vs H Q E, sp' vs H Q E → sp vs H Q E) : FnD G k x st ps sp' := by
  obtain ⟨fa, fd, h1, h2, h3⟩ := F.ex
  exact ⟨fa, fd, h1, h2, h3.imp h⟩
theorem spF_L {n : Nat} {f : List AV → M PyData} {vs : List V} {H : Hp} {Q : VK} {E : XK} (h : spF G n f vs H Q E) : spL G n f vs H Q E := by
  obtain ⟨hl, P, O, as, w, tb, r, q⟩ := h
  exact ⟨hl, P, O, as, w, tb, r, q.mono fun d q a vs ds H' hd e hn ha rr => by
    subst hd
    exact q _ H' e (.lst ((msk_out (w.freshF hn)).trans ha) (rpAll_mono kp_less rr))⟩
theorem FnD.data {k : Nat} {st : Stmt} {ps : List Str} {f : List AV → M PyData} (F : FnD G k x st ps (spL G ps.length f)) : FnD G k x st ps (spF G ps.length f) := F.imp fun _ _ _ _ h => spF_L h
/-- what the frame starts with -/
def startE (N : List Str) (as : List AV) : Slots := as.map Slot.v ++ List.replicate (N.length - as.length) Slot.un
theorem start_R {P O : List Addr} {H : Hp} {vs : List V} {as : List AV} (w : Wf P O H) (tb : LamX.Tabs G.T H) (r : RelAs G P O H vs as) : R G P O (startE N as) (L2.start N vs) H := by
  have hl := relAs_len r
  refine ⟨w, tb, fun i sl h => ?_, by simp [startE, L2.start, hl], fun i j ds es a h1 _ _ _ => ?_⟩
  · unfold startE at h
    by_cases hi : i < as.length
    · rw [List.getElem?_append_left (by rw [List.length_map]; exact hi), List.getElem?_map] at h
      obtain ⟨a, ha⟩ := getx hi
      rw [ha] at h
      cases h
      obtain ⟨v, h1, h2⟩ := relAs_get r ha
      refine ⟨v, ?_, h2⟩
      unfold L2.start
      rw [List.getElem?_append_left (by rw [List.length_map, hl]; exact hi), List.getElem?_map, h1]
      rfl
    · rw [List.getElem?_append_right (by rw [List.length_map]; omega)] at h
      rw [List.getElem?_replicate] at h
      split at h
      · cases h; trivial
      · cases h
  · unfold startE at h1
    by_cases hi : i < as.length
    · rw [List.getElem?_append_left (by rw [List.length_map]; exact hi), List.getElem?_map] at h1
      obtain ⟨a, ha⟩ := getx hi
      rw [ha] at h1; cases h1
    · rw [List.getElem?_append_right (by rw [List.length_map]; omega), List.getElem?_replicate] at h1
      split at h1 <;> cases h1
theorem start_ow {O0 : List Addr} {as : List AV} {σ : L2.St} : OwOut O0 (startE N as) σ := fun i ds a h1 _ => by
  unfold startE at h1
  by_cases hi : i < as.length
  · rw [List.getElem?_append_left (by rw [List.length_map]; exact hi), List.getElem?_map] at h1
    obtain ⟨a, ha⟩ := getx hi
    rw [ha] at h1; cases h1
  · rw [List.getElem?_append_right (by rw [List.length_map]; omega), List.getElem?_replicate] at h1
    split at h1 <;> cases h1
theorem start_stt {P O : List Addr} {H : Hp} {vs : List V} {as : List AV} (w : Wf P O H) (tb : LamX.Tabs G.T H) (r : RelAs G P O H vs as) : Stt G P O H (msk O H) (startE N as) (L2.start N vs) H :=
  ⟨P, O, w, fun _ m => m, fun _ m => m, fun _ m => .inl m, fun _ m => .inl m, Ext.refl, Kp.refl _, start_ow, start_R w tb r⟩
theorem xfn_of {qual : Str} {scope : Scope} {fa : Addr} {cdv : Value} {A : Around} {outer : List PySem.Env} {s : Shared} {H : Hp} {E : XK} (nd : N.Nodup) (hr : Room k.n (A.deeper (envOfC qual scope s.heap.objs.size fa cdv))) (hgu : A.guards = some []) (hm : ∀ c P q, k.me = some (c, P, q) → cdv = .ref c ∧ qual ++ ".<locals>." = q) :
    XFn G N scope k (cxOf CX0 G.P G.w G.K G.mg G.base N qual scope fa cdv A outer s H E).nox :=
  ⟨⟨nd, rfl, rfl, rfl, hr, hgu, fun c P q e => ⟨(hm c P q e).1, (hm c P q e).2, fun _ => rfl⟩, rfl, rfl, rfl, rfl, rfl, PassesOwn.never⟩, fun _ => rfl⟩
/-- the code value of a def -/
def cdOf (fd : FuncData) : Value := fd.code
/-- THE RULE for a def: its body run -/
theorem fg_of {kn : Nat} {st : Stmt} {ps : List Str} {sp : Sp} {fa : Addr} {fd : FuncData} (F : FunD G.K x x (defArgs st) (defBody st) (defScope st) [] [] fa fd) (S : FnScope N ps (defScope st)) (len : ∀ vs H Q E, sp vs H Q E → vs.length = ps.length)
    (hb : ∀ (A : Around) (outer : List PySem.Env) (s : Shared) (H : Hp) (vs : List V) (Q : VK), Room kn (A.deeper (envOfC x (defScope st) s.heap.objs.size fa (cdOf fd))) → A.guards = some [] → sp vs H Q E0 →
      ∃ t, PSs (cxOf CX0 G.P G.w G.K G.mg G.base N x (defScope st) fa (cdOf fd) A outer s H E0).nox (defBody st) t ∧ t { nx := fun _ H' => Q .non H', rt := Q } (L2.start N vs) H) : FnG G (kn + 1) fa fd ps sp := by
  obtain ⟨c1, d1, dV, kV, d2, d3, an1, cv, ct1, sl1, rfl, look, code, _, _⟩ := F.ex
  refine ⟨len, fun A outer s H args us vs Q hr hg e0 hbd hv hsp => ?_⟩
  have lv := len _ _ _ _ hsp
  have inK : G.K.In s.heap := e0.mod.kin.keeps fun b o z => (e0.bs b o z).1
  have nl : s.heap.NoLimit := e0.mod.nolimit.keeps fun b o z => (e0.bs b o z).1
  refine codeAny_call_function hr.depth (inK _ _ look) rfl S.co S.gen rfl (PySem.W.codeRec_of inK code) (hbd _ _ _ _ (wpAny_newFunctionEnv_cells S.kind (fun y hy => ?_) fun env he s1 x1 => ?_))
  · rcases S.par y.1 (List.of_mem_zip (a := y.1) (b := y.2) hy).1 with z | z
    · exact .inl z
    · exact .inr ⟨z, PySem.W.cellsFrom_some _ _ _ (.inl z)⟩
  · subst he
    obtain ⟨t, ht, hq⟩ := hb A outer s H vs Q (hr.deeper _) hg hsp
    have I := inv_start (CX := CX0) (E := E0) S hr.hd e0 lv hv x1
    refine ⟨nl.keeps x1.toInCall.keep, codeAny_func (wpAny_mono (ht.nox.run [] s1 (L2.start N vs) H _ I hq) (fun fl s' z => ?_) fun e s' z => z)⟩
    cases fl with
    | ret u =>
      obtain ⟨v, τ, H', J, rv, q⟩ := z
      exact ⟨v, H', J.os, J.bare, J.base, J.hok, rv, q⟩
    | next =>
      obtain ⟨τ, H', J, q⟩ := z
      exact ⟨.non, H', J.os, J.bare, J.base, J.hok, rfl, q⟩
    | brk => exact (z.elim fun _ y => y.elim fun _ y => y.2).elim
    | cont => exact (z.elim fun _ y => y.elim fun _ y => y.2).elim
/-- a def by its derivation; me: where it makes lambdas -/
theorem fn_okM {kn : Nat} {st : Stmt} {ps : List Str} {f : List AV → M PyData} {fa : Addr} {fd : FuncData} {me : Option (Addr × Addr × Str)} (F : FunD G.K x x (defArgs st) (defBody st) (defScope st) [] [] fa fd) (hm : G.mg x = some (.ref fa)) (S : FnScope N ps (defScope st))
    (hme : ∀ c P q, me = some (c, P, q) → cdOf fd = .ref c ∧ x ++ ".<locals>." = q) (hb : ∀ as : List AV, as.length = ps.length → EvS G N (defScope st) ⟨kn, me⟩ (startE N as) (defBody st) (f as) Outc.fn) : FnD G (kn + 1) x st ps (spF G ps.length f) :=
  ⟨fa, fd, hm, F, fg_of F S (fun vs H Q E h => h.1) fun A outer s H vs Q hr hg hsp => by
    obtain ⟨hl, P, O, as, w, tb, r, q⟩ := hsp
    refine ⟨_, (hb as (by rw [← relAs_len r]; exact hl)).run _ (xfn_of (k := ⟨kn, me⟩) S.nd hr hg hme) P O H (msk O H), start_stt w tb r, q.mono fun d h => ⟨h, fun hd σ' H' e => ?_⟩⟩
    subst hd
    exact h _ _ e .non⟩
theorem fn_ok {kn : Nat} {st : Stmt} {ps : List Str} {f : List AV → M PyData} {fa : Addr} {fd : FuncData} (F : FunD G.K x x (defArgs st) (defBody st) (defScope st) [] [] fa fd) (hm : G.mg x = some (.ref fa)) (S : FnScope N ps (defScope st))
    (hb : ∀ as : List AV, as.length = ps.length → EvS G N (defScope st) ⟨kn, none⟩ (startE N as) (defBody st) (f as) Outc.fn) : FnD G (kn + 1) x st ps (spF G ps.length f) := fn_okM (me := none) F hm S (fun _ _ _ e => by cases e) hb
/-- a def that returns a new list -/
theorem fn_okL {kn : Nat} {st : Stmt} {ps : List Str} {f : List AV → M PyData} {fa : Addr} {fd : FuncData} (F : FunD G.K x x (defArgs st) (defBody st) (defScope st) [] [] fa fd) (hm : G.mg x = some (.ref fa)) (S : FnScope N ps (defScope st))
    (hb : ∀ as : List AV, as.length = ps.length → EvS G N (defScope st) ⟨kn, none⟩ (startE N as) (defBody st) (f as) Outc.fl) : FnD G (kn + 1) x st ps (spL G ps.length f) :=
  ⟨fa, fd, hm, F, fg_of F S (fun vs H Q E h => h.1) fun A outer s H vs Q hr hg hsp => by
    obtain ⟨hl, P, O, as, w, tb, r, q⟩ := hsp
    exact ⟨_, (hb as (by rw [← relAs_len r]; exact hl)).run _ (xfn_of (k := ⟨kn, none⟩) S.nd hr hg (fun _ _ _ e => nomatch e)) P O H (msk O H), start_stt w tb r, q⟩⟩
/-! ### calls of defs -/
abbrev BindN (x : Str) (st : Stmt) (ps : List Str) : Prop := ∀ (kV doc pm : Value) (an : Option Addr) (cdv ct : Value) (us : List Value), us.length = ps.length → bindArgs (PySem.W.fnOf x x (defArgs st) (defBody st) (defScope st) .none kV doc pm an cdv ct) ⟨us, []⟩ = pure (ps.zip us)
theorem ev_call {j n : Nat} {st : Stmt} {ps : List Str} {f : List AV → M PyData} (F : FnD G j x st ps (spF G n f)) (hb : BindN x st ps) (ha : EvAs G N sc k env (e :: es) mas) (hn : ps.length = n := by rfl) (hj : j ≤ k.n := by exact Nat.le_of_ble_eq_true rfl) (hg : sc.names.lookup x = some .globalImplicit := by rfl) (hdb : (x == ("__debug__" : Str)) = false := by decide) (h1 : notStar e = true := by rfl) (h2 : es.all notStar = true := by rfl) :
    EvE G N sc k env (.Call (.Name x p) (e :: es) [] pos) (mas.bind fun as => if as.length = n then f as else .err) :=
  ⟨fun X hX P O => ⟨fun pins s σ H Q I ⟨r, q⟩ => by
    obtain ⟨fa, fd, hm, FD, FO⟩ := F.ex
    refine wpAny_Call_Name_kw (ld_glob I (x := x) (by show X.env.scope.names.lookup x = _; rw [hX.eSc]; exact hg) (by rw [hX.eMg]; exact hm) ?_ hdb)
    refine PySem.W.callWith_K (h₀ := X.base) I.ok.mod.kin (by rw [hX.eK]; exact FD.kp) (thn ((ha.run X hX P O).run pos pins s σ H (fun vs H1 => vs.length = n ∧ spF G n f vs H1 Q E0) I ⟨r, (M.sat_bind.mp q).mono fun as q1 vs H1 e1 r1 => ?_⟩) fun us s1 ⟨vs, H1, I1, rv, hlen, q1⟩ => ⟨I1.kIn, ?_⟩) (star_no h1) (noStars h2)
    · obtain ⟨hl, q1⟩ := sat_if q1
      have hl2 : vs.length = n := by rw [relAs_len r1]; exact hl
      exact ⟨hl2, hl2, P, O, as, r.wf.ext e1, tabs_ext e1 r.tabs, r1, q1.mono fun d h v H' e' rv => h v H' (e1.trans e') rv⟩
    · exact run_G hX FO hj I1 (FD.bindsA hb s1 us (by rw [← rv.length, hn]; exact hlen)) rv q1⟩⟩
theorem el_call {j n : Nat} {st : Stmt} {ps : List Str} {f : List AV → M PyData} (F : FnD G j x st ps (spL G n f)) (hb : BindN x st ps) (ha : EvAs G N sc k env (e :: es) mas) (hn : ps.length = n := by rfl) (hj : j ≤ k.n := by exact Nat.le_of_ble_eq_true rfl) (hg : sc.names.lookup x = some .globalImplicit := by rfl) (hdb : (x == ("__debug__" : Str)) = false := by decide) (h1 : notStar e = true := by rfl) (h2 : es.all notStar = true := by rfl) :
    EvL G N sc k env (.Call (.Name x p) (e :: es) [] pos) (mas.bind fun as => if as.length = n then f as else .err) :=
  ⟨fun X hX P O => ⟨fun pins s σ H Q I ⟨r, q⟩ => by
    obtain ⟨fa, fd, hm, FD, FO⟩ := F.ex
    refine wpAny_Call_Name_kw (ld_glob I (x := x) (by show X.env.scope.names.lookup x = _; rw [hX.eSc]; exact hg) (by rw [hX.eMg]; exact hm) ?_ hdb)
    refine PySem.W.callWith_K (h₀ := X.base) I.ok.mod.kin (by rw [hX.eK]; exact FD.kp) (thn ((ha.run X hX P O).run pos pins s σ H (fun vs H1 => vs.length = n ∧ spL G n f vs H1 Q E0) I ⟨r, (M.sat_bind.mp q).mono fun as q1 vs H1 e1 r1 => ?_⟩) fun us s1 ⟨vs, H1, I1, rv, hlen, q1⟩ => ⟨I1.kIn, ?_⟩) (star_no h1) (noStars h2)
    · obtain ⟨hl, q1⟩ := sat_if q1
      have hl2 : vs.length = n := by rw [relAs_len r1]; exact hl
      exact ⟨hl2, hl2, P, O, as, r.wf.ext e1, tabs_ext e1 r.tabs, r1, q1.mono fun d h a vs ds H' hd e' hn ha rv => h a vs ds H' hd (e1.trans e') (e1.backF hn) ha rv⟩
    · exact run_G hX FO hj I1 (FD.bindsA hb s1 us (by rw [← rv.length, hn]; exact hlen)) rv q1⟩⟩
/-! ### keywords alone -/
structure EvK (G : Glb) (N : List Str) (sc : Scope) (k : Lv) (env : Slots) (kws : List Keyword) (m : M (List AV)) : Prop where
  run : ∀ X, XOk G N sc k X → ∀ P O, PK X kws fun σ H Q => R G P O env σ H ∧ m.Sat fun as => ∀ vs H', Ext G.T P H H' → RelAs G P O H' vs as → Q vs H'
theorem PK_imp {X : Cx} {es : List Keyword} {t t' : TA} (h : PK X es t) (i : ∀ σ H Q, t' σ H Q → t σ H Q) : PK X es t' := ⟨fun pos pins s σ H Q I q => h.run pos pins s σ H Q I (i σ H Q q)⟩
theorem ek_nil : EvK G N sc k env [] (.ok []) := ⟨fun X hX P O => PK_imp pk_nil fun σ H Q ⟨_, q⟩ => q [] H Ext.refl trivial⟩
theorem ek_cons {nm : Option Str} {kpos : Pos} {kws : List Keyword} (he : Ev1 G N sc k env e ma) (hs : EvK G N sc k env kws mas) : EvK G N sc k env (⟨nm, e, kpos⟩ :: kws) (ma.bind fun a => mas.bind fun as => .ok (a :: as)) :=
  ⟨fun X hX P O => PK_imp (pk_cons (he.run X hX P O) (hs.run X hX P O)) fun σ H Q ⟨r, q⟩ => by
    refine ⟨r, (M.sat_bind.mp q).mono fun a q1 v H1 e1 r1 => ⟨r.ext e1, (M.sat_bind.mp q1).mono fun as q2 vs H2 e2 r2 => ?_⟩⟩
    exact q2 _ H2 (e1.trans e2) ⟨r1.ext (r.wf.ext e1) e2, r2⟩⟩
/-- put in the parameters' order -/
def perm {α : Type} (π : List Nat) (ws : List α) : List α := π.filterMap (ws[·]?)
theorem perm_vals {π : List Nat} {vs : List V} {us : List Value} (h : Vals vs us) : Vals (perm π vs) (perm π us) := by
  unfold perm
  induction π with
  | nil => exact .nil
  | cons i π ih =>
    have hl := h.length
    rw [List.filterMap_cons, List.filterMap_cons]
    cases e : vs[i]? with
    | none =>
      have e2 : us[i]? = none := by rw [List.getElem?_eq_none_iff] at e ⊢; omega
      rw [e2]; exact ih
    | some v =>
      obtain ⟨u, hu, ru⟩ := h.get e
      rw [hu]
      exact .cons ru ih
theorem perm_rel {P O : List Addr} {H : Hp} {π : List Nat} {vs : List V} {as : List AV} (h : RelAs G P O H vs as) : RelAs G P O H (perm π vs) (perm π as) := by
  unfold perm
  induction π with
  | nil => trivial
  | cons i π ih =>
    have hl := relAs_len h
    rw [List.filterMap_cons, List.filterMap_cons]
    cases e : as[i]? with
    | none =>
      have e2 : vs[i]? = none := by rw [List.getElem?_eq_none_iff] at e ⊢; omega
      rw [e2]; exact ih
    | some a =>
      obtain ⟨v, hv, rv⟩ := relAs_get h e
      rw [hv]
      exact ⟨rv, ih⟩
abbrev BindK (x : Str) (st : Stmt) (ps ks : List Str) (π : List Nat) : Prop := ∀ (kV doc pm : Value) (an : Option Addr) (cdv ct : Value) (us : List Value), us.length = ks.length → bindArgs (PySem.W.fnOf x x (defArgs st) (defBody st) (defScope st) .none kV doc pm an cdv ct) ⟨[], ks.zip us⟩ = pure (ps.zip (perm π us))
theorem funD_kb {st : Stmt} {ps ks : List Str} {π : List Nat} {fa : Addr} {fd : FuncData} (F : FunD G.K x x (defArgs st) (defBody st) (defScope st) [] [] fa fd) (hb : BindK x st ps ks π) (s : Shared) (ws : List Value) (hl : ws.length = ks.length) : BindsTo s fd ⟨[], ks.zip ws⟩ (ps.zip (perm π ws)) := by
  obtain ⟨c1, d1, dV, kV, d2, d3, an1, cv, ct1, sl1, rfl, look, code, dd, kk⟩ := F.ex
  rcases dd with ⟨_, rfl⟩ | ⟨z, _⟩
  · exact .of_eq (hb kV d2 d3 an1 cv ct1 ws hl)
  · exact absurd rfl z
theorem ev_callK {j n : Nat} {st : Stmt} {ps : List Str} {f : List AV → M PyData} {kws : List Keyword} (ks : List Str) (π : List Nat) (F : FnD G j x st ps (spF G n f)) (hb : BindK x st ps ks π) (ha : EvK G N sc k env kws mas) (hn : ps.length = n := by rfl) (hj : j ≤ k.n := by exact Nat.le_of_ble_eq_true rfl) (hg : sc.names.lookup x = some .globalImplicit := by rfl) (hdb : (x == ("__debug__" : Str)) = false := by decide)
    (hall : ∀ env : PySem.Env, (backToKw pos (keywordEach kws env)).all (·.1.isSome) = true := by intro _; rfl) (hks : ∀ env : PySem.Env, (backToKw pos (keywordEach kws env)).filterMap (·.1) = ks := by intro _; rfl) (hpl : ∀ env : PySem.Env, ((backTo pos (starEach [] env)).any (·.1) || (backToKw pos (keywordEach kws env)).any (·.1.isNone)) = false := by intro _; rfl) :
    EvE G N sc k env (.Call (.Name x p) [] kws pos) (mas.bind fun as => if as.length = ks.length ∧ (perm π as).length = n then f (perm π as) else .err) :=
  ⟨fun X hX P O => ⟨fun pins s σ H Q I ⟨r, q⟩ => by
    obtain ⟨fa, fd, hm, FD, FO⟩ := F.ex
    refine wpAny_Call_Name_kw (ld_glob I (x := x) (by show X.env.scope.names.lookup x = _; rw [hX.eSc]; exact hg) (by rw [hX.eMg]; exact hm) ?_ hdb)
    refine PySem.W.callWith_KW0 (h₀ := X.base) I.ok.mod.kin (by rw [hX.eK]; exact FD.kp) (hall _) (thn ((ha.run X hX P O).run pos pins s σ H (fun vs H1 => vs.length = ks.length ∧ spF G n f (perm π vs) H1 Q E0) I ⟨r, (M.sat_bind.mp q).mono fun as q1 vs H1 e1 r1 => ?_⟩) fun ws s2 ⟨zs, H2, I2, rz, hz, q2⟩ => ⟨I2.kIn, ?_⟩) (hpl _)
    · obtain ⟨⟨hl, hl2⟩, q1⟩ := sat_if q1
      have r2 := perm_rel (π := π) r1
      exact ⟨by rw [relAs_len r1]; exact hl, by rw [relAs_len r2]; exact hl2, P, O, _, r.wf.ext e1, tabs_ext e1 r.tabs, r2, q1.mono fun d h v H' e' rv => h v H' (e1.trans e') rv⟩
    · rw [hks]
      show wpAny _ _ (call (.ref fa) [] (ks.zip ws)) _ _ _
      exact run_G hX FO hj I2 (funD_kb FD hb s2 ws (by rw [← rz.length]; exact hz)) (perm_vals rz) q2⟩⟩
end
end Ev

set_option Elab.async false
set_option linter.all false
set_option autoImplicit false
set_option maxRecDepth 100000
set_option maxHeartbeats 2000000
namespace Ev
open PySem PySem.Spec PyProof.Rows L2

/-! ### values that go to slots: data, a new list -/
def SlotNew (G : Glb) (P O : List Addr) (H : Hp) (Q : VK) : Slot → Prop
  | .v a => ∀ v H', Ext G.T P H H' → RelA G P O H' v a → Q v H'
  | .own d => ∀ a H', Ext G.T P H H' → Fr0 H a → OwnC G (a :: O) H' a d → Q (.ref a) H'
  | .un => False
structure EvP (G : Glb) (N : List Str) (sc : Scope) (k : Lv) (env : Slots) (e : Expr) {α : Type} (m : M α) (sh : α → Slot) : Prop where
  run : ∀ X, XOk G N sc k X → ∀ P O, PE X e fun σ H Q => R G P O env σ H ∧ m.Sat fun x => SlotNew G P O H Q (sh x)
section
variable {G : Glb} {N : List Str} {sc : Scope} {k : Lv} {env env' : Slots} {pos p p2 p3 px py pt pz : Pos} {e a b c : Expr} {es : List Expr} {rest : List Stmt} {ρ α β γ : Type} {I : ρ → Outc} {m : M ρ} {me me2 : M PyData} {x y z : Str} {m1 : M α} {m2 : M β} {m3 : M γ} {s1 : α → Slot} {s2 : β → Slot} {s3 : γ → Slot} {K0 Kx : Hp} {P0 O0 P O : List Addr} {H0 H H1 : Hp} {σ : L2.St}
theorem ep_d (h : EvE G N sc k env e me) : EvP G N sc k env e me dS := ⟨fun X hX P O => PE_imp (h.run X hX P O) fun σ H Q q => q⟩
def lsOf (d : PyData) : M (List PyData) := onL d .ok
theorem ep_l (h : EvL G N sc k env e me) : EvP G N sc k env e (me.bind lsOf) Slot.ow := ⟨fun X hX P O => PE_imp (h.run X hX P O) fun σ H Q ⟨r, q⟩ => ⟨r, (M.sat_bind.mp q).mono fun d q1 a vs ds H' hd e1 hn ha hr => by
  subst hd
  exact q1 a H' e1 hn ⟨vs, ha, hr⟩⟩⟩
theorem ep_a {ma : M AV} (h : Ev1 G N sc k env e ma) : EvP G N sc k env e ma .v := ⟨fun X hX P O => PE_imp (h.run X hX P O) fun σ H Q q => q⟩
/-- the value v goes to slot i -/
structure Goes (G : Glb) (P O : List Addr) (H H' : Hp) (v : V) (sl : Slot) (O' : List Addr) : Prop where
  ext : Ext G.T P H H'
  val : (∃ a, sl = .v a ∧ O' = O ∧ RelA G P O H' v a) ∨ ∃ d l, sl = .own d ∧ O' = l :: O ∧ v = .ref l ∧ Fr0 H l ∧ OwnC G (l :: O) H' l d
theorem slot_goes {Q : VK} {sl : Slot} (h : ∀ v H' O', Goes G P O H H' v sl O' → Q v H') (hs : sl ≠ .un) : SlotNew G P O H Q sl := by
  cases sl with
  | un => exact absurd rfl hs
  | v a => exact fun v H' e r => h v H' O ⟨e, .inl ⟨a, rfl, rfl, r⟩⟩
  | own d => exact fun a H' e hn hc => h _ H' (a :: O) ⟨e, .inr ⟨d, a, rfl, rfl, rfl, hn, hc⟩⟩
theorem sat_goes {m : M α} {sh : α → Slot} {F : α → Prop} {Q : VK} (h : m.Sat F) (hq : ∀ x, F x → ∀ v H' O', Goes G P O H H' v (sh x) O' → Q v H') (hs : ∀ x, sh x ≠ .un) : m.Sat fun x => SlotNew G P O H Q (sh x) :=
  h.mono fun x f => slot_goes (hq x f) (hs x)
theorem Goes.more {v : V} {sl : Slot} {O' : List Addr} (g : Goes G P O H H1 v sl O') (r : R G P O env σ H) : R G P O' env σ H1 := by
  rcases g.val with ⟨a, _, rfl, _⟩ | ⟨ds, l, _, rfl, _, hn, hc⟩
  · exact r.ext g.ext
  · exact r.more g.ext hn hc.obj
/-- it is stored -/
theorem Goes.at {v : V} {sl : Slot} {O' : List Addr} {i : Nat} (g : Goes G P O H H1 v sl O') (s : At G P0 O0 H0 Kx P O env σ H) (hi : i < env.length) : At G P0 O0 H0 Kx P O' (env.set i sl) (σ.set i (some v)) H1 := by
  rcases g.val with ⟨a, rfl, rfl, r⟩ | ⟨d, l, rfl, rfl, rfl, hn, hc⟩
  · exact (s.ext g.ext).set r hi
  · exact s.ownC g.ext hn hc hi
abbrev HasSlot {α : Type} (s : α → Slot) : Prop := ∀ x, s x ≠ .un
def envSc (sc : Scope) : PySem.Env := envOfC "" sc 0 0 .none
theorem sw_env {ts : List Expr} {v : Expr} {o : Option (List Str)} (h : swappedStores ts v (envSc sc) = pure o) (env : PySem.Env) (e : env.scope = sc) : swappedStores ts v env = pure o := by
  have hb : env.blockKind = (envSc sc).blockKind := by unfold Env.blockKind; rw [e]; rfl
  have hk : ∀ x, env.kindOf x = (envSc sc).kindOf x := fun x => by show env.scope.names.lookup x = sc.names.lookup x; rw [e]
  rw [← h]
  unfold swappedStores
  simp only [hb, hk]
theorem es_par {kt k2 : Nat} {pt2 : Pos} {kk : α → β → M ρ} (i j : Nat) (h1 : EvP G N sc k env a m1 s1) (h2 : EvP G N sc k env b m2 s2) (hr : ∀ u w, EvS G N sc k ((env.set i (s1 u)).set j (s2 w)) rest (kk u w) I) (hs1 : HasSlot s1 := by intro _ h; cases h) (hs2 : HasSlot s2 := by intro _ h; cases h)
    (hw : swappedStores [.Tuple [.Name x px, .Name y py] kt pt] (.Tuple [a, b] k2 pt2) (envSc sc) = pure (some [x, y]) := by rfl) (hN : N[i]? = some x := by rfl) (hl : sc.names.lookup x = some .local := by rfl) (hi : i < env.length := by exact Nat.le_of_ble_eq_true rfl) (hN2 : N[j]? = some y := by rfl) (hl2 : sc.names.lookup y = some .local := by rfl) (hj : j < env.length := by exact Nat.le_of_ble_eq_true rfl) (hij : i ≠ j := by decide)
    (hn1 : notStar a = true := by rfl) (hn2 : notStar b = true := by rfl) :
    EvS G N sc k env (.Assign [.Tuple [.Name x px, .Name y py] kt pt] (.Tuple [a, b] k2 pt2) pos :: rest) (m1.bind fun u => m2.bind fun w => kk u w) I :=
  ⟨fun X hX P0 O0 H0 Kx => by
    have o := hX.ok
    refine pss_step (ps_par (i := i) (j := j) o.calm (by rw [o.eN]; exact o.nd) (by rw [o.eN]; exact hN) (by rw [o.eN]; exact hN2) hij (by rw [o.eSc]; exact hl) (by rw [o.eSc]; exact hl2) (pa_cons (PE_some fun q : List Addr × List Addr => h1.run X o q.1 q.2) (pa_cons (PE_some fun q : List Addr × List Addr => h2.run X o q.1 q.2) pa_nil (star_no hn2)) (star_no hn1)) (sw_env hw _ o.eSc)) (fun u : α × β => (hr u.1 u.2).run X hX P0 O0 H0 Kx) fun D σ H ⟨s, q⟩ => ?_
    obtain ⟨P, O, s⟩ := s
    refine ⟨(P, O), s.r, sat_goes (M.sat_bind.mp q) (fun u q1 v H1 O1 g1 => ?_) hs1⟩
    refine ⟨(P, O1), g1.more s.r, sat_goes (M.sat_bind.mp q1) (fun w q2 v2 H2 O2 g2 => ?_) hs2⟩
    exact ⟨v, v2, rfl, (u, w), ⟨P, O2, g2.at (g1.at s hi) (by rw [List.length_set]; exact hj)⟩, q2⟩⟩
theorem es_par3 {kt k2 : Nat} {pt2 : Pos} {kk : α → β → γ → M ρ} (i j l : Nat) (h1 : EvP G N sc k env a m1 s1) (h2 : EvP G N sc k env b m2 s2) (h3 : EvP G N sc k env c m3 s3) (hr : ∀ u w t, EvS G N sc k (((env.set i (s1 u)).set j (s2 w)).set l (s3 t)) rest (kk u w t) I) (hs1 : HasSlot s1 := by intro _ h; cases h) (hs2 : HasSlot s2 := by intro _ h; cases h) (hs3 : HasSlot s3 := by intro _ h; cases h)
    (hw : swappedStores [.Tuple [.Name x px, .Name y py, .Name z pz] kt pt] (.Tuple [a, b, c] k2 pt2) (envSc sc) = pure (some [x, y, z]) := by rfl) (hN : N[i]? = some x := by rfl) (hl : sc.names.lookup x = some .local := by rfl) (hi : i < env.length := by exact Nat.le_of_ble_eq_true rfl) (hN2 : N[j]? = some y := by rfl) (hl2 : sc.names.lookup y = some .local := by rfl) (hj : j < env.length := by exact Nat.le_of_ble_eq_true rfl)
    (hN3 : N[l]? = some z := by rfl) (hl3 : sc.names.lookup z = some .local := by rfl) (hll : l < env.length := by exact Nat.le_of_ble_eq_true rfl) (hij : i ≠ j := by decide) (hil : i ≠ l := by decide) (hjl : j ≠ l := by decide)
    (hn1 : notStar a = true := by rfl) (hn2 : notStar b = true := by rfl) (hn3 : notStar c = true := by rfl) :
    EvS G N sc k env (.Assign [.Tuple [.Name x px, .Name y py, .Name z pz] kt pt] (.Tuple [a, b, c] k2 pt2) pos :: rest) (m1.bind fun u => m2.bind fun w => m3.bind fun t => kk u w t) I :=
  ⟨fun X hX P0 O0 H0 Kx => by
    have o := hX.ok
    refine pss_step (ps_par3 (i := i) (j := j) (l := l) o.calm (by rw [o.eN]; exact o.nd) (by rw [o.eN]; exact hN) (by rw [o.eN]; exact hN2) (by rw [o.eN]; exact hN3) hij hil hjl (by rw [o.eSc]; exact hl) (by rw [o.eSc]; exact hl2) (by rw [o.eSc]; exact hl3) (pa_cons (PE_some fun q : List Addr × List Addr => h1.run X o q.1 q.2) (pa_cons (PE_some fun q : List Addr × List Addr => h2.run X o q.1 q.2) (pa_cons (PE_some fun q : List Addr × List Addr => h3.run X o q.1 q.2) pa_nil (star_no hn3)) (star_no hn2)) (star_no hn1)) (sw_env hw _ o.eSc)) (fun u : α × β × γ => (hr u.1 u.2.1 u.2.2).run X hX P0 O0 H0 Kx) fun D σ H ⟨s, q⟩ => ?_
    obtain ⟨P, O, s⟩ := s
    refine ⟨(P, O), s.r, sat_goes (M.sat_bind.mp q) (fun u q1 v H1 O1 g1 => ?_) hs1⟩
    have r1 := g1.more s.r
    refine ⟨(P, O1), r1, sat_goes (M.sat_bind.mp q1) (fun w q2 v2 H2 O2 g2 => ?_) hs2⟩
    refine ⟨(P, O2), g2.more r1, sat_goes (M.sat_bind.mp q2) (fun t q3 v3 H3 O3 g3 => ?_) hs3⟩
    exact ⟨v, v2, v3, rfl, (u, w, t), ⟨P, O3, g3.at (g2.at (g1.at s hi) (by rw [List.length_set]; exact hj)) (by rw [List.length_set, List.length_set]; exact hll)⟩, q3⟩⟩
/-- the same with a tuple made on the way -/
theorem es_tup2 {kt k2 : Nat} {pt2 : Pos} {kk : α → β → M ρ} (i j : Nat) (h1 : EvP G N sc k env a m1 s1) (h2 : EvP G N sc k env b m2 s2) (hr : ∀ u w, EvS G N sc k ((env.set i (s1 u)).set j (s2 w)) rest (kk u w) I) (hs1 : HasSlot s1 := by intro _ h; cases h) (hs2 : HasSlot s2 := by intro _ h; cases h)
    (hw : swappedStores [.Tuple [.Name x px, .Name y py] kt pt] (.Tuple [a, b] k2 pt2) (envSc sc) = pure none := by rfl) (hN : N[i]? = some x := by rfl) (hl : Loc sc x := by first | exact Or.inl rfl | exact Or.inr rfl) (hi : i < env.length := by exact Nat.le_of_ble_eq_true rfl) (hN2 : N[j]? = some y := by rfl) (hl2 : Loc sc y := by first | exact Or.inl rfl | exact Or.inr rfl) (hj : j < env.length := by exact Nat.le_of_ble_eq_true rfl) (hij : i ≠ j := by decide)
    (hn1 : notStar a = true := by rfl) (hn2 : notStar b = true := by rfl) :
    EvS G N sc k env (.Assign [.Tuple [.Name x px, .Name y py] kt pt] (.Tuple [a, b] k2 pt2) pos :: rest) (m1.bind fun u => m2.bind fun w => kk u w) I :=
  ⟨fun X hX P0 O0 H0 Kx => by
    have o := hX.ok
    refine pss_step (ps_asg (pe_tup (pa_cons (PE_some fun q : List Addr × List Addr => h1.run X o q.1 q.2) (pa_cons (PE_some fun q : List Addr × List Addr => h2.run X o q.1 q.2) pa_nil (star_no hn2)) (star_no hn1)))
      (pg_tup o.calm (pgs_cons (pg_name (i := i) (by rw [o.eN]; exact o.nd) (by rw [o.eN]; exact hN) (by rw [o.eSc]; exact hl) (.inl (hX.fn x))) (pgs_cons (pg_name (i := j) (by rw [o.eN]; exact o.nd) (by rw [o.eN]; exact hN2) (by rw [o.eSc]; exact hl2) (.inl (hX.fn y))) pgs_nil))) rfl (sw_env hw _ o.eSc)) (fun u : α × β => (hr u.1 u.2).run X hX P0 O0 H0 Kx) fun D σ H ⟨s, q⟩ => ?_
    obtain ⟨P, O, s⟩ := s
    refine ⟨(P, O), s.r, sat_goes (M.sat_bind.mp q) (fun u q1 v H1 O1 g1 => ?_) hs1⟩
    refine ⟨(P, O1), g1.more s.r, sat_goes (M.sat_bind.mp q1) (fun w q2 v2 H2 O2 g2 => ?_) hs2⟩
    refine ⟨by show 2 ≤ sizeLine; decide, fun q hq => ⟨q, [v, v2], rfl, SqT.of upd_same, rfl, v, [v2], rfl, v2, [], rfl, rfl, (u, w), ⟨P, O2, (g2.at (g1.at s hi) (by rw [List.length_set]; exact hj)).ext (Ext.new hq)⟩, q2⟩⟩⟩
/-- x, y = e (a tuple, a list of data) -/
def un2L {α : Type} (d : PyData) (f : PyData → PyData → M α) : M α := match d with
  | .tuple [a, b] => f a b
  | .list [a, b] => f a b
  | _ => .err
def un3L {α : Type} (d : PyData) (f : PyData → PyData → PyData → M α) : M α := match d with
  | .tuple [a, b, c] => f a b c
  | .list [a, b, c] => f a b c
  | _ => .err
theorem PG_or {X : Cx} {tg : Expr} {t t' : TG} (h : PG X tg t) (h' : PG X tg t') : PG X tg fun v σ H Q => t v σ H Q ∨ t' v σ H Q := ⟨fun pins s σ H v u Q I r q => by
  rcases q with q | q
  · exact h.run pins s σ H v u Q I r q
  · exact h'.run pins s σ H v u Q I r q⟩
theorem es_un2 {kt : Nat} {kk : PyData → PyData → M ρ} (i j : Nat) (he : EvE G N sc k env e me) (hr : ∀ u w, EvS G N sc k ((env.set i (dS u)).set j (dS w)) rest (kk u w) I)
    (hw : swappedStores [.Tuple [.Name x px, .Name y py] kt pt] e (envSc sc) = pure none := by rfl) (hs : ∀ env : PySem.Env, swapsWithSole [.Tuple [.Name x px, .Name y py] kt pt] e pos.line env = pure false := by intro _; rfl) (hN : N[i]? = some x := by rfl) (hl : Loc sc x := by first | exact Or.inl rfl | exact Or.inr rfl) (hi : i < env.length := by exact Nat.le_of_ble_eq_true rfl) (hN2 : N[j]? = some y := by rfl) (hl2 : Loc sc y := by first | exact Or.inl rfl | exact Or.inr rfl) (hj : j < env.length := by exact Nat.le_of_ble_eq_true rfl) :
    EvS G N sc k env (.Assign [.Tuple [.Name x px, .Name y py] kt pt] e pos :: rest) (me.bind fun d => un2L d kk) I :=
  ⟨fun X hX P0 O0 H0 Kx => by
    have o := hX.ok
    have hg := pgs_cons (pg_name (i := i) (pos := px) (by rw [o.eN]; exact o.nd) (by rw [o.eN]; exact hN) (by rw [o.eSc]; exact hl) (.inl (hX.fn x))) (pgs_cons (pg_name (i := j) (pos := py) (by rw [o.eN]; exact o.nd) (by rw [o.eN]; exact hN2) (by rw [o.eSc]; exact hl2) (.inl (hX.fn y))) pgs_nil)
    refine pss_step (ps_asg (PE_some fun q : List Addr × List Addr => he.run X o q.1 q.2) (PG_or (pg_tup o.calm hg) (pg_lst o.calm hg)) (hs _) (sw_env hw _ o.eSc)) (fun u : PyData × PyData => (hr u.1 u.2).run X hX P0 O0 H0 Kx) fun D σ H ⟨s, q⟩ => ?_
    obtain ⟨P, O, s⟩ := s
    refine ⟨(P, O), s.r, (M.sat_bind.mp q).mono fun d q1 v H1 e1 r1 => ?_⟩
    have s1 := s.ext e1
    have go : ∀ {u w : PyData} {v1 v2 : V}, Rp G.K (msk O H1) v1 u → Rp G.K (msk O H1) v2 w → (kk u w).Sat (fun r => Fin G P0 O0 H0 Kx D (I r)) → ∃ i1 : PyData × PyData, tS G P0 O0 H0 Kx ((env.set i (dS i1.1)).set j (dS i1.2)) (kk i1.1 i1.2) I D ((σ.set i (some v1)).set j (some v2)) H1 := fun {u w v1 v2} r1 r2 q2 =>
      ⟨(u, w), ⟨P, O, At.set (a := .d w) (At.set (a := .d u) s1 r1 hi) r2 (by rw [List.length_set]; exact hj)⟩, q2⟩
    match d, r1, q1 with
    | .tuple [u, w], .tup hs ha, q1 =>
      obtain ⟨v1, v2, rfl, ra, rb⟩ := rp2 ha
      rw [o.eK]
      exact .inl ⟨_, _, rfl, kp_sqt kp_msk hs, rfl, v1, [v2], rfl, v2, [], rfl, rfl, go ra rb q1⟩
    | .list [u, w], .lst hs ha, q1 =>
      obtain ⟨v1, v2, rfl, ra, rb⟩ := rp2 ha
      rw [o.eK]
      exact .inr ⟨_, _, rfl, SqL.of (msk_some hs).2, rfl, v1, [v2], rfl, v2, [], rfl, rfl, go ra rb q1⟩⟩
theorem rp3 {K : PySem.W.Frag} {h : Hp} {vs : List V} {d e f : PyData} (r : RpAll K h vs [d, e, f]) : ∃ v w u, vs = [v, w, u] ∧ Rp K h v d ∧ Rp K h w e ∧ Rp K h u f := by
  cases r with
  | cons q r =>
    obtain ⟨w, u, rfl, q2, q3⟩ := rp2 r
    exact ⟨_, _, _, rfl, q, q2, q3⟩
theorem es_un3 {kt : Nat} {kk : PyData → PyData → PyData → M ρ} (i j l : Nat) (he : EvE G N sc k env e me) (hr : ∀ u w t, EvS G N sc k (((env.set i (dS u)).set j (dS w)).set l (dS t)) rest (kk u w t) I)
    (hw : swappedStores [.Tuple [.Name x px, .Name y py, .Name z pz] kt pt] e (envSc sc) = pure none := by rfl) (hs : ∀ env : PySem.Env, swapsWithSole [.Tuple [.Name x px, .Name y py, .Name z pz] kt pt] e pos.line env = pure false := by intro _; rfl) (hN : N[i]? = some x := by rfl) (hl : Loc sc x := by first | exact Or.inl rfl | exact Or.inr rfl) (hi : i < env.length := by exact Nat.le_of_ble_eq_true rfl) (hN2 : N[j]? = some y := by rfl) (hl2 : Loc sc y := by first | exact Or.inl rfl | exact Or.inr rfl) (hj : j < env.length := by exact Nat.le_of_ble_eq_true rfl)
    (hN3 : N[l]? = some z := by rfl) (hl3 : Loc sc z := by first | exact Or.inl rfl | exact Or.inr rfl) (hll : l < env.length := by exact Nat.le_of_ble_eq_true rfl) :
    EvS G N sc k env (.Assign [.Tuple [.Name x px, .Name y py, .Name z pz] kt pt] e pos :: rest) (me.bind fun d => un3L d kk) I :=
  ⟨fun X hX P0 O0 H0 Kx => by
    have o := hX.ok
    have hg := pgs_cons (pg_name (i := i) (pos := px) (by rw [o.eN]; exact o.nd) (by rw [o.eN]; exact hN) (by rw [o.eSc]; exact hl) (.inl (hX.fn x))) (pgs_cons (pg_name (i := j) (pos := py) (by rw [o.eN]; exact o.nd) (by rw [o.eN]; exact hN2) (by rw [o.eSc]; exact hl2) (.inl (hX.fn y))) (pgs_cons (pg_name (i := l) (pos := pz) (by rw [o.eN]; exact o.nd) (by rw [o.eN]; exact hN3) (by rw [o.eSc]; exact hl3) (.inl (hX.fn z))) pgs_nil))
    refine pss_step (ps_asg (PE_some fun q : List Addr × List Addr => he.run X o q.1 q.2) (PG_or (pg_tup o.calm hg) (pg_lst o.calm hg)) (hs _) (sw_env hw _ o.eSc)) (fun u : PyData × PyData × PyData => (hr u.1 u.2.1 u.2.2).run X hX P0 O0 H0 Kx) fun D σ H ⟨s, q⟩ => ?_
    obtain ⟨P, O, s⟩ := s
    refine ⟨(P, O), s.r, (M.sat_bind.mp q).mono fun d q1 v H1 e1 r1 => ?_⟩
    have s1 := s.ext e1
    have go : ∀ {u w t : PyData} {v1 v2 v3 : V}, Rp G.K (msk O H1) v1 u → Rp G.K (msk O H1) v2 w → Rp G.K (msk O H1) v3 t → (kk u w t).Sat (fun r => Fin G P0 O0 H0 Kx D (I r)) → ∃ i1 : PyData × PyData × PyData, tS G P0 O0 H0 Kx (((env.set i (dS i1.1)).set j (dS i1.2.1)).set l (dS i1.2.2)) (kk i1.1 i1.2.1 i1.2.2) I D (((σ.set i (some v1)).set j (some v2)).set l (some v3)) H1 := fun {u w t v1 v2 v3} r1 r2 r3 q2 =>
      ⟨(u, w, t), ⟨P, O, At.set (a := .d t) (At.set (a := .d w) (At.set (a := .d u) s1 r1 hi) r2 (by rw [List.length_set]; exact hj)) r3 (by rw [List.length_set, List.length_set]; exact hll)⟩, q2⟩
    match d, r1, q1 with
    | .tuple [u, w, t], .tup hs ha, q1 =>
      obtain ⟨v1, v2, v3, rfl, ra, rb, rc⟩ := rp3 ha
      rw [o.eK]
      exact .inl ⟨_, _, rfl, kp_sqt kp_msk hs, rfl, v1, [v2, v3], rfl, v2, [v3], rfl, v3, [], rfl, rfl, go ra rb rc q1⟩
    | .list [u, w, t], .lst hs ha, q1 =>
      obtain ⟨v1, v2, v3, rfl, ra, rb, rc⟩ := rp3 ha
      rw [o.eK]
      exact .inr ⟨_, _, rfl, SqL.of (msk_some hs).2, rfl, v1, [v2, v3], rfl, v2, [v3], rfl, v3, [], rfl, rfl, go ra rb rc q1⟩⟩
/-! ### pots -/
/-- an own list of two counts becomes a pot -/
def potOk (ds : List PyData) : Bool := match ds with
  | [.int x, .int y] => decide (0 ≤ x ∧ 0 ≤ y ∧ y < 4611686018427387904)
  | _ => false
theorem es_pot (i : Nat) {ds : List PyData} (he : env[i]? = some (.ow ds)) (hr : EvS G N sc k (env.set i (.v .p)) rest m I) : EvS G N sc k env rest (if potOk ds = true then m else .err) I :=
  ⟨fun X hX P0 O0 H0 Kx => PSs_imp (hr.run X hX P0 O0 H0 Kx) fun D σ H ⟨s, q⟩ => by
    obtain ⟨hp, q⟩ := sat_if q
    refine ⟨?_, q⟩
    obtain ⟨P, O, s⟩ := s
    obtain ⟨a, vs, z1, z2, z3, z4, z5⟩ := own_at s.r he
    have hiE : i < env.length := (List.getElem?_eq_some_iff.mp he).1
    have hpa : PotAt H a := by
      unfold potOk at hp
      split at hp
      · obtain ⟨v, w, rfl, r1, r2⟩ := rp2 z5
        cases r1; cases r2
        obtain ⟨h1, h2, h3⟩ := of_decide_eq_true hp
        exact ⟨_, _, z4, h1, h2, h3⟩
      · cases hp
    have h0 : Fr0 H0 a := (s.on a z2).resolve_left (s.ow i (.list ds) a he z1)
    refine ⟨a :: P, O, s.w0, fun b m => List.mem_cons_of_mem _ (s.p0 b m), s.o0, fun b m => ?_, s.on, s.e0, s.kx, s.ow.put rfl hiE, ⟨⟨fun b m => ?_, s.r.wf.occ⟩, s.r.tabs, fun j sl h => ?_, by rw [s.r.len, List.length_set], fun p q ds' es' b h1 h2 h3 h4 => ?_⟩⟩
    · rcases List.mem_cons.mp m with e | e
      · subst e; exact .inr h0
      · exact s.pn b e
    · rcases List.mem_cons.mp m with e | e
      · subst e; exact ⟨z2, hpa⟩
      · exact s.r.wf.pots b e
    · by_cases hj : i = j
      · subst hj
        rw [List.getElem?_set_self hiE] at h
        cases h
        exact ⟨_, z1, a, List.mem_cons_self, rfl⟩
      · rw [List.getElem?_set_ne hj] at h
        have z := s.r.at_ j sl h
        cases sl with
        | un => trivial
        | v a' =>
          obtain ⟨x', y1, y2⟩ := z
          refine ⟨x', y1, ?_⟩
          cases a' with
          | d x => exact y2
          | p => obtain ⟨b, m, e⟩ := y2; exact ⟨b, List.mem_cons_of_mem _ m, e⟩
          | s ns => exact y2
          | c k f => exact y2
        | own es =>
          obtain ⟨l', y1, y2, y3, y4⟩ := slot_ownC z
          have hne : l' ≠ a := fun e => by
            subst e
            exact hj (s.r.dist i j (.list ds) es l' he h z1 y1)
          exact ownC_slot y1 y2 (fun m => (List.mem_cons.mp m).elim hne y3) y4
    · have n1 : i ≠ p := fun e => by subst e; rw [List.getElem?_set_self hiE] at h1; cases h1
      have n2 : i ≠ q := fun e => by subst e; rw [List.getElem?_set_self hiE] at h2; cases h2
      rw [List.getElem?_set_ne n1] at h1
      rw [List.getElem?_set_ne n2] at h2
      exact s.r.dist p q ds' es' b h1 h2 h3 h4⟩
/-! ### a module's constant -/
theorem ev_glob {i : Int} {t : Tok} (hm : G.mg x = some (.int i t)) (hg : sc.names.lookup x = some .globalImplicit := by rfl) (hd : (x == ("__debug__" : Str)) = false := by decide) : EvE G N sc k env (.Name x pos) (.ok (.int i)) :=
  ⟨fun X hX P O => PE_imp (pe_glob (by show X.env.scope.names.lookup x = _; rw [hX.eSc]; exact hg) (by rw [hX.eMg]; exact hm) (v := .int i) ⟨t, rfl⟩ hd) fun σ H Q ⟨r, q⟩ => q _ H Ext.refl (.int i)⟩
end
end Ev

set_option Elab.async false
set_option linter.all false
set_option autoImplicit false
set_option maxRecDepth 100000
set_option maxHeartbeats 2000000
namespace Ev
open PySem PySem.Spec PyProof.Rows L2 LamX

/-! ### things put into, taken out of the abstract heap for the time of a call -/
abbrev frzC (o : Obj) : HO := .frz o (.own 0)
def addC (cs : List (Addr × Obj)) (H : Hp) : Hp := fun a => match cs.lookup a with
  | some o => some (frzC o)
  | none => H a
def remC (cs : List (Addr × Obj)) (H : Hp) : Hp := fun a => match cs.lookup a with
  | some _ => none
  | none => H a
section
variable {cs : List (Addr × Obj)} {H H' : Hp} {h h' : Heap} {P : Program} {w : World} {T : List (Addr × Str)} {fs Ps O : List Addr} {a : Addr} {o : Obj}
theorem add_in (e : cs.lookup a = some o) : addC cs H a = some (frzC o) := by unfold addC; rw [e]
theorem add_out (e : cs.lookup a = none) : addC cs H a = H a := by unfold addC; rw [e]
theorem rem_in (e : cs.lookup a = some o) : remC cs H a = none := by unfold remC; rw [e]
theorem rem_out (e : cs.lookup a = none) : remC cs H a = H a := by unfold remC; rw [e]
theorem cs_none {u : HO} (hn : ∀ a o, cs.lookup a = some o → H a = none) (e : H a = some u) : cs.lookup a = none := by
  cases q : cs.lookup a with
  | none => rfl
  | some o => rw [hn a o q] at e; cases e
theorem cs_frz {u : HO} (hn : ∀ a o, cs.lookup a = some o → H a = some (frzC o)) (e : H a = some u) (hu : ∀ o, u ≠ frzC o) : cs.lookup a = none := by
  cases q : cs.lookup a with
  | none => rfl
  | some o => rw [hn a o q] at e; exact absurd (Option.some.inj e).symm (hu o)
theorem hok_add (hok : HOk P w H h) (hn : ∀ a o, cs.lookup a = some o → H a = none) (hh : ∀ a o, cs.lookup a = some o → h.get? a = some o) : HOk P w (addC cs H) h := fun a u e => by
  cases q : cs.lookup a with
  | some o =>
    rw [add_in q] at e; cases e
    exact ⟨hh a o q, o, hh a o q⟩
  | none =>
    rw [add_out q] at e
    exact (hok a u e).stay (fun _ _ _ z => z) (fun b z => (add_out (cs_none hn z)).trans z) fun b xs z => (add_out (cs_none hn z)).trans z
theorem hok_rem (hok : HOk P w H h) (hn : ∀ a o, cs.lookup a = some o → H a = some (frzC o)) : HOk P w (remC cs H) h := fun a u e => by
  cases q : cs.lookup a with
  | some o => rw [rem_in q] at e; cases e
  | none =>
    rw [rem_out q] at e
    exact (hok a u e).stay (fun _ _ _ z => z) (fun b z => (rem_out (cs_frz hn z fun _ y => nomatch y)).trans z) fun b xs z => (rem_out (cs_frz hn z fun _ y => nomatch y)).trans z
/-- taken out behind a call that ran with them -/
theorem un_rem (u : Un fs [] (addC cs H) H' h h') (hn : ∀ a o, cs.lookup a = some o → H a = none) (hh : ∀ a o, cs.lookup a = some o → h.get? a = some o) (hf : ∀ a o, cs.lookup a = some o → a ∉ fs) (hok : HOk P w H' h') :
    Un fs [] H (remC cs H') h h' ∧ HOk P w (remC cs H') h' ∧ ∀ a o, cs.lookup a = some o → H' a = some (frzC o) := by
  have fr : ∀ a o, cs.lookup a = some o → H' a = some (frzC o) := fun a o q => u.frzs a o _ (add_in q)
  refine ⟨⟨fun b ob e n nf nx => ?_, fun b ob e n mf nx => ?_, fun b ob e n nx => ?_, u.there, fun b xs e => ?_, fun b ob v e => ?_, fun b ps e => ?_⟩, hok_rem hok fr, fr⟩
  · cases q : cs.lookup b with
    | some o' =>
      have z := hh b o' q
      rw [e] at z; cases z
      exact (hok b _ (fr b _ q)).1
    | none => exact u.keep b ob e ((add_out q).trans n) nf nx
  · cases q : cs.lookup b with
    | some o' => exact absurd mf (hf b o' q)
    | none => exact u.slot b ob e ((add_out q).trans n) mf nx
  · cases q : cs.lookup b with
    | some o' => exact rem_in q
    | none => exact (rem_out q).trans (u.free b ob e ((add_out q).trans n) nx)
  · have q := cs_none hn e
    exact (rem_out q).trans (u.tups b xs ((add_out q).trans e))
  · have q := cs_none hn e
    exact (rem_out q).trans (u.frzs b ob v ((add_out q).trans e))
  · have q := cs_none hn e
    obtain ⟨more, z⟩ := u.tbls b ps ((add_out q).trans e)
    exact ⟨more, (rem_out q).trans z⟩
/-- put in again behind a call that ran without them -/
theorem un_add (u : Un fs [] (remC cs H) H' h h') (hn : ∀ a o, cs.lookup a = some o → H a = some (frzC o)) (hh : ∀ a o, cs.lookup a = some o → h.get? a = some o) (hf : ∀ a o, cs.lookup a = some o → a ∉ fs) (hok : HOk P w H' h') :
    Un fs [] H (addC cs H') h h' ∧ HOk P w (addC cs H') h' ∧ ∀ a o, cs.lookup a = some o → H' a = none := by
  have nx0 : ∀ a : Addr, a ∉ ([] : List Addr) := fun a m => nomatch m
  have fr : ∀ a o, cs.lookup a = some o → H' a = none := fun a o q => u.free a o (hh a o q) (rem_in q) (nx0 a)
  have out : ∀ {b : Addr}, H b = none → cs.lookup b = none := fun {b} n => by
    cases q : cs.lookup b with
    | none => rfl
    | some o => rw [hn b o q] at n; cases n
  refine ⟨⟨fun b ob e n nf nx => u.keep b ob e ((rem_out (out n)).trans n) nf nx, fun b ob e n mf nx => u.slot b ob e ((rem_out (out n)).trans n) mf nx, fun b ob e n nx => (add_out (out n)).trans (u.free b ob e ((rem_out (out n)).trans n) nx), u.there, fun b xs e => ?_, fun b ob v e => ?_, fun b ps e => ?_⟩,
    hok_add hok fr fun a o q => u.keep a o (hh a o q) (rem_in q) (hf a o q) (nx0 a), fr⟩
  · have q := cs_frz hn e fun _ y => nomatch y
    exact (add_out q).trans (u.tups b xs ((rem_out q).trans e))
  · cases q : cs.lookup b with
    | some o' =>
      rw [hn b o' q] at e; cases e
      exact add_in q
    | none => exact (add_out q).trans (u.frzs b ob v ((rem_out q).trans e))
  · have q := cs_frz hn e fun _ y => nomatch y
    obtain ⟨more, z⟩ := u.tbls b ps ((rem_out q).trans e)
    exact ⟨more, (add_out q).trans z⟩
/-! what is kept -/
theorem ext_rem (e : Ext T Ps (addC cs H) H') (hn : ∀ a o, cs.lookup a = some o → H a = none) (fr : ∀ a o, cs.lookup a = some o → H' a = some (frzC o)) : Ext T Ps H (remC cs H') := by
  refine ⟨fun a u q np t => ?_, fun a m q => ?_, fun a u q t => ?_, fun t p m => ?_⟩
  · have l := cs_none hn q
    exact (rem_out l).trans (e.keep a u ((add_out l).trans q) np t)
  · obtain ⟨x, y, q, z⟩ := q
    have l := cs_none hn q
    obtain ⟨x', y', q', z'⟩ := e.pots a m ⟨x, y, (add_out l).trans q, z⟩
    exact ⟨x', y', (rem_out l).trans q', z'⟩
  · have l := cs_none hn q
    obtain ⟨u', q', t'⟩ := e.dom a u ((add_out l).trans q) t
    exact ⟨u', (rem_out l).trans q', t'⟩
  · obtain ⟨ps, z1, z2, z3⟩ := e.tab (t.ext fun b o q => (add_out (cs_none hn q)).trans q) p m
    refine ⟨ps, (rem_out (cs_frz fr z1 fun _ y => nomatch y)).trans z1, z2, fun pos cv hc => ?_⟩
    obtain ⟨c, y1, y2⟩ := z3 pos cv hc
    exact ⟨c, y1, (rem_out (cs_frz fr y2 fun _ y => nomatch y)).trans y2⟩
theorem ext_add (e : Ext T Ps (remC cs H) H') (hn : ∀ a o, cs.lookup a = some o → H a = some (frzC o)) (fr : ∀ a o, cs.lookup a = some o → H' a = none) : Ext T Ps H (addC cs H') := by
  refine ⟨fun a u q np t => ?_, fun a m q => ?_, fun a u q t => ?_, fun t p m => ?_⟩
  · cases l : cs.lookup a with
    | some o => rw [hn a o l] at q; rw [← q]; exact add_in l
    | none => exact (add_out l).trans (e.keep a u ((rem_out l).trans q) np t)
  · obtain ⟨x, y, q, z⟩ := q
    have l := cs_frz hn q fun _ y => nomatch y
    obtain ⟨x', y', q', z'⟩ := e.pots a m ⟨x, y, (rem_out l).trans q, z⟩
    exact ⟨x', y', (add_out l).trans q', z'⟩
  · cases l : cs.lookup a with
    | some o => exact ⟨_, add_in l, trivial⟩
    | none =>
      obtain ⟨u', q', t'⟩ := e.dom a u ((rem_out l).trans q) t
      exact ⟨u', (add_out l).trans q', t'⟩
  · have t' : Tabs T (remC cs H) := fun p m => by
      obtain ⟨ps, z1, z2, z3⟩ := t p m
      exact ⟨ps, (rem_out (cs_frz hn z1 fun _ y => nomatch y)).trans z1, z2, fun pos cv hc => by
        obtain ⟨c, y1, y2⟩ := z3 pos cv hc
        exact ⟨c, y1, (rem_out (cs_frz hn y2 fun _ y => nomatch y)).trans y2⟩⟩
    obtain ⟨qs, w1, w2, w3⟩ := e.tab t' p m
    refine ⟨qs, (add_out (cs_none fr w1)).trans w1, w2, fun pos cv hc => ?_⟩
    obtain ⟨c, y1, y2⟩ := w3 pos cv hc
    exact ⟨c, y1, (add_out (cs_none fr y2)).trans y2⟩
theorem tabs_add (t : Tabs T H) (hn : ∀ a o, cs.lookup a = some o → H a = none) : Tabs T (addC cs H) := t.ext fun b o q => (add_out (cs_none hn q)).trans q
theorem tabs_rem (t : Tabs T H) (hn : ∀ a o, cs.lookup a = some o → H a = some (frzC o)) : Tabs T (remC cs H) := fun p m => by
  obtain ⟨ps, z1, z2, z3⟩ := t p m
  refine ⟨ps, (rem_out (cs_frz hn z1 fun _ y => nomatch y)).trans z1, z2, fun pos cv hc => ?_⟩
  obtain ⟨c, y1, y2⟩ := z3 pos cv hc
  exact ⟨c, y1, (rem_out (cs_frz hn y2 fun _ y => nomatch y)).trans y2⟩
end
/-! ### data does not lean on them -/
def Kd (h h' : Hp) : Prop := ∀ a o, h a = some o → notTbl o → (∀ ob, o ≠ frzC ob) → h' a = some o
section
variable {K : PySem.W.Frag} {h h' : Hp} {a : Addr} {xs : List V}
theorem kd_sqt (k : Kd h h') (r : SqT K h a xs) : SqT K h' a xs := by
  rcases r with (r | ⟨o, r⟩) | r
  · exact .inl (.inl (k _ _ r trivial fun _ y => nomatch y))
  · exact .inl (.inr ⟨o, k _ _ r trivial fun _ y => nomatch y⟩)
  · exact .inr r
theorem kd_sql (k : Kd h h') (r : SqL K h a xs) : SqL K h' a xs := by
  rcases r with (r | ⟨o, r⟩) | r
  · exact .inl (.inl (k _ _ r trivial fun _ y => nomatch y))
  · exact .inl (.inr ⟨o, k _ _ r trivial fun _ y => nomatch y⟩)
  · exact .inr r
mutual
theorem rp_kd (k : Kd h h') : ∀ {v : V} {d : PyData}, Rp K h v d → Rp K h' v d
  | _, _, .non => .non
  | _, _, .bl b => .bl b
  | _, _, .int i => .int i
  | _, _, .str x => .str x
  | _, _, .lst q r => .lst (k _ _ q trivial fun _ y => nomatch y) (rpAll_kd k r)
  | _, _, .tup q r => .tup (kd_sqt k q) (rpAll_kd k r)
  | _, _, .dk0 q => .dk0 (k _ _ q trivial fun _ y => nomatch y)
theorem rpAll_kd (k : Kd h h') : ∀ {vs : List V} {ds : List PyData}, RpAll K h vs ds → RpAll K h' vs ds
  | _, _, .nil => .nil
  | _, _, .cons q r => .cons (rp_kd k q) (rpAll_kd k r)
end
theorem kd_rem {cs : List (Addr × Obj)} {H : Hp} {O : List Addr} (fr : ∀ a o, cs.lookup a = some o → H a = some (frzC o)) : Kd (msk O H) (msk O (remC cs H)) := fun a o q t n => by
  obtain ⟨h1, h2⟩ := msk_some q
  rw [msk_out h1, rem_out (cs_frz fr h2 n)]
  exact h2
theorem kp_add {cs : List (Addr × Obj)} {H : Hp} {O : List Addr} (fr : ∀ a o, cs.lookup a = some o → H a = none) : Kp (msk O H) (msk O (addC cs H)) := fun a o q t => by
  obtain ⟨h1, h2⟩ := msk_some q
  rw [msk_out h1, add_out (cs_none fr h2)]
  exact h2
end

/-! ### the names of a lambda -/
structure LamN (N : List Str) (sc scope : Scope) (ps : List Str) : Prop where
  kind : scope.kind = .function
  co : scope.isCoroutine = false
  gen : scope.isGenerator = false
  uniq : ∀ y ∈ scope.names, scope.names.lookup y.1 = some y.2
  free : ∀ y ∈ scope.names, y.2 = .free → sc.names.lookup y.1 = some .cell ∨ sc.names.lookup y.1 = some .free
  own : ∀ y ∈ scope.names, y.2 = .local ∨ y.2 = .cell → y.1 ∈ ps ∨ y.1 ∉ N
  par : ∀ x ∈ ps, scope.names.lookup x = some .local ∨ scope.names.lookup x = some .cell
def lamNB (N : List Str) (sc scope : Scope) (ps : List Str) : Bool :=
  decide (scope.kind = .function) && !scope.isCoroutine && !scope.isGenerator && scope.names.all (fun y => decide (scope.names.lookup y.1 = some y.2) && (!decide (y.2 = .free) || decide (sc.names.lookup y.1 = some .cell) || decide (sc.names.lookup y.1 = some .free)) &&
    (!(decide (y.2 = .local) || decide (y.2 = .cell)) || decide (y.1 ∈ ps) || decide (y.1 ∉ N))) && ps.all fun x => decide (scope.names.lookup x = some .local) || decide (scope.names.lookup x = some .cell)
theorem lamN_by {N : List Str} {sc scope : Scope} {ps : List Str} (h : lamNB N sc scope ps = true) : LamN N sc scope ps := by
  unfold lamNB at h
  simp only [Bool.and_eq_true, Bool.or_eq_true, Bool.not_eq_true', decide_eq_true_eq, decide_eq_false_iff_not, List.all_eq_true] at h
  obtain ⟨⟨⟨⟨g1, g2⟩, g3⟩, g4⟩, g5⟩ := h
  refine ⟨g1, g2, g3, fun y hy => (g4 y hy).1.1, fun y hy e => ?_, fun y hy e => ?_, g5⟩
  · rcases (g4 y hy).1.2 with (z | z) | z
    · exact absurd e z
    · exact .inl z
    · exact .inr z
  · rcases (g4 y hy).2 with (z | z) | z
    · simp only [Bool.or_eq_false_iff, decide_eq_false_iff_not] at z
      rcases e with e | e
      · exact absurd e z.1
      · exact absurd e z.2
    · exact .inl z
    · exact .inr z

/-! ### the context of a lambda's body -/
abbrev clEnv (scope : Scope) (cl : List (Str × Addr)) (q : Str) (f c' L : Addr) : PySem.Env := newEnv scope L mainGlobals (cellsFrom (L + 1) scope.names cl) (q ++ ".<locals>.") (some f) (.ref c') none builtinsNs
def clCx (G : Glb) (N : List Str) (A : Around) (outer : List PySem.Env) (s : Shared) (H : Hp) (env : PySem.Env) : Cx where
  prog := G.P
  w := G.w
  K := G.K
  mg := G.mg
  base := G.base
  A := A.deeper env
  N := N
  s_0 := s
  H_0 := H
  env := env
  outer := outer
  stack := env :: outer
  ex := []
  fn := fun x => env.scope.names.lookup x == some .cell
  calm := true
  pn := []
  xe := fun _ _ => False
/-- what is known of the captured cells -/
structure ClAt (N : List Str) (scope : Scope) (cl : List (Str × Addr)) (σ : L2.St) (H : Hp) (s : Shared) : Prop where
  has : ∀ y, scope.names.lookup y = some .free → ∃ c, cl.lookup y = some c
  mem : ∀ y c, (y, c) ∈ cl → (y, NameKind.free) ∈ scope.names ∧ H c = none ∧ c < s.heap.objs.size ∧ ∃ v, s.heap.IsCell c v
  inj : ∀ x y c, (x, c) ∈ cl → (y, c) ∈ cl → x = y
  fun_ : ∀ y c c', (y, c) ∈ cl → (y, c') ∈ cl → c = c'
  val : ∀ (i : Nat) (y : Str) (v : V), N[i]? = some y → σ[i]? = some (some v) → scope.names.lookup y = some .free → ∃ c u, cl.lookup y = some c ∧ RelV v u ∧ s.heap.IsCell c (some u)
theorem cl_start {G : Glb} {N ps : List Str} {sc scope : Scope} {cl : List (Str × Addr)} {σ : L2.St} {A : Around} {outer : List PySem.Env} {s : Shared} {H : Hp} {q : Str} {f c' : Addr} (S : LamN N sc scope ps) (e0 : Env0 G.P G.w G.K G.mg G.base A outer s H) (hd : A.handled = none) (C : ClAt N scope cl σ H s)
    (hσ : ∀ (i : Nat) (y : Str) (v : V), N[i]? = some y → σ[i]? = some (some v) → y ∉ ps) (hl : σ.length = N.length) :
    Inv (clCx G N A outer s H (clEnv scope cl q f c' s.heap.objs.size)) [] σ H { s with heap := pushCells (s.heap.push { cls := .type "frame", data := .dict #[] }) scope.names } := by
  have kp : ∀ b o, s.heap.get? b = some o → (pushCells (s.heap.push { cls := .type "frame", data := .dict #[] }) scope.names).get? b = some o := fun b o z => pushCells_keeps _ _ b o (Heap.get?_push_of_some _ z)
  have eC : (clEnv scope cl q f c' s.heap.objs.size).cells = cellsFrom (s.heap.push { cls := .type "frame", data := .dict #[] }).objs.size scope.names cl := by rw [Heap.size_push]; rfl
  have split : ∀ {y c}, (clEnv scope cl q f c' s.heap.objs.size).cells.lookup y = some c → ((y, c) ∈ cl ∧ (y, NameKind.free) ∈ scope.names) ∨ ((y, NameKind.cell) ∈ scope.names ∧ s.heap.objs.size + 1 ≤ c ∧ CellAt (pushCells (s.heap.push { cls := .type "frame", data := .dict #[] }) scope.names) c none) := fun {y c} z => by
    rw [eC] at z
    rcases cells_mem (PySem.mem_of_lookup z) with z | ⟨z1, z2, z3⟩
    · exact .inl ⟨z, (C.mem y c z).1⟩
    · rw [Heap.size_push] at z2; exact .inr ⟨z1, z2, z3⟩
  have look : ∀ {y}, scope.names.lookup y = some .free → ∃ c, (clEnv scope cl q f c' s.heap.objs.size).cells.lookup y = some c ∧ (y, c) ∈ cl := fun {y} z => by
    obtain ⟨c0, h0⟩ := C.has y z
    obtain ⟨c1, h1⟩ := mem_lookup (cells_acc (names := scope.names) (n := (s.heap.push { cls := .type "frame", data := .dict #[] }).objs.size) (PySem.mem_of_lookup h0))
    rw [← eC] at h1
    refine ⟨c1, h1, ?_⟩
    rcases split h1 with ⟨z1, _⟩ | ⟨z1, _⟩
    · exact z1
    · have z2 := S.uniq _ z1
      rw [z] at z2; cases z2
  have noA : ∀ b : Addr, b ∉ ([] : List Addr) := fun b z => nomatch z
  refine ⟨⟨e0.mod, S.kind, rfl, rfl, Nat.le_refl _, fun y z c h1 h2 => ?_, fun y hy => ?_, fun y c hf he => ?_, fun _ => hd, Around.frames_deeper e0.frames, .inr ⟨rfl, rfl⟩, fun b z => absurd z (noA b), e0.bs, e0.bsz, fun b _ _ => noA b, fun b z => absurd z (noA b), e0.funs, e0.frf⟩,
    rfl, e0.bare, Un.kept kp, ⟨fun _ => none, (Heap.Ns.new s.heap (.type "frame")).keeps (pushCells_keeps _ _), fun i y v h1 h2 h3 => ?_⟩, fun y c he => ?_, e0.hok.fresh (Nat.le_refl _), fun y c he => ?_, fun p hp => absurd (show p ∈ ([] : List (Addr × Obj)) ++ [] from hp) (by simp), e0.hok.kept kp, hl⟩
  · have h1 : (clEnv scope cl q f c' s.heap.objs.size).cells.lookup y = some c := h1
    have h2 : (clEnv scope cl q f c' s.heap.objs.size).cells.lookup z = some c := h2
    rw [eC] at h1 h2
    exact cells_inj (fun p hp => by rw [Heap.size_push]; exact Nat.lt_succ_of_lt (C.mem p.1 p.2 hp).2.2.1) C.inj (PySem.mem_of_lookup h1) (PySem.mem_of_lookup h2)
  · rcases hy with hy | hy
    · obtain ⟨c, hm⟩ := cells_has (n := (s.heap.push { cls := .type "frame", data := .dict #[] }).objs.size) (acc := cl) (PySem.mem_of_lookup (show scope.names.lookup y = some .cell from hy))
      obtain ⟨c1, h1⟩ := mem_lookup hm
      exact ⟨c1, by show (clEnv scope cl q f c' s.heap.objs.size).cells.lookup y = _; rw [eC]; exact h1⟩
    · obtain ⟨c, h1, _⟩ := look (show scope.names.lookup y = some .free from hy)
      exact ⟨c, h1⟩
  · have hf : scope.names.lookup y = some .cell := by simpa using (show (scope.names.lookup y == some NameKind.cell) = true from hf)
    rcases split he with ⟨_, z⟩ | ⟨_, z, _⟩
    · have z2 := S.uniq _ z
      rw [hf] at z2; cases z2
    · exact Nat.le_of_succ_le z
  · have hfr : scope.names.lookup y = some .free := by
      have no : ∀ kk, scope.names.lookup y = some kk → (kk = .local ∨ kk = .cell) → False := fun kk hk hh => by
        rcases S.own _ (PySem.mem_of_lookup hk) hh with z | z
        · exact hσ i y v h1 h2 z
        · exact z (List.mem_of_getElem? h1)
      rcases (show Vis scope y from h3) with z | z | z
      · exact (no _ z (.inl rfl)).elim
      · exact (no _ z (.inr rfl)).elim
      · exact z
    obtain ⟨c0, u, z1, z2, z3⟩ := C.val i y v h1 h2 hfr
    obtain ⟨c, y1, y2⟩ := look hfr
    refine ⟨u, z2, .inr ⟨.inr hfr, c, y1, ?_⟩⟩
    rw [C.fun_ y c c0 y2 (PySem.mem_of_lookup z1)]
    exact z3.keeps kp
  · rcases split he with ⟨z, _⟩ | ⟨_, _, z⟩
    · obtain ⟨v, z⟩ := (C.mem y c z).2.2.2
      exact ⟨v, z.keeps kp⟩
    · exact ⟨none, z⟩
  · rcases split he with ⟨z, _⟩ | ⟨_, z, _⟩
    · exact (C.mem y c z).2.1
    · exact e0.hok.fresh (Nat.le_of_succ_le z)
end Ev

set_option Elab.async false
set_option linter.all false
set_option autoImplicit false
set_option maxRecDepth 100000
set_option maxHeartbeats 2000000
namespace Ev
open PySem PySem.Spec PyProof.Rows L2 LamX

/-! ### parameters bound -/
def setPs : L2.St → List Nat → List V → L2.St
  | σ, j :: js, v :: vs => setPs (σ.set j (some v)) js vs
  | σ, _, _ => σ
def setE : Slots → List Nat → List PyData → Slots
  | env, j :: js, d :: ds => setE (env.set j (dS d)) js ds
  | env, _, _ => env
theorem bind_ps {X : Cx} {pins : List (Addr × Obj)} {H : Hp} {M0 : Model} {A : Around} {E : Value → Shared → Prop} {Q : PUnit → Shared → Prop} (hN : X.N.Nodup) (f : Str × Value → PUnit → Sem (ForInStep PUnit)) (hf : ∀ n v u, f (n, v) u = (do storeName X.env n v; pure (.yield ⟨⟩))) :
    ∀ (ps : List Str) (js : List Nat) (vs : List V) (us : List Value) (σ : L2.St) (s : Shared), Inv X pins σ H s → Vals vs us → js.map (fun j => X.N[j]?) = ps.map some → vs.length = ps.length →
      (∀ x ∈ ps, Loc X.env.scope x ∧ (X.fn x = true ∨ X.env.scope.names.lookup x = some .local)) → (∀ s', Inv X pins (setPs σ js vs) H s' → Q ⟨⟩ s') → wpAny M0 A (forIn (ps.zip us) ⟨⟩ f) Q E s
  | [], js, vs, us, σ, s, I, hv, hj, hl, hp, h => by
    have e : vs = [] := List.eq_nil_of_length_eq_zero hl
    subst e
    cases hv
    have e2 : js = [] := by simpa using hj
    subst e2
    rw [List.zip_nil_left, List.forIn_nil]
    exact wpAny_pure (h s I)
  | x :: ps, js, vs, us, σ, s, I, hv, hj, hl, hp, h => by
    cases hv with
    | nil => cases hl
    | cons r rr =>
      cases js with
      | nil => cases hj
      | cons j js =>
        rw [List.map_cons, List.map_cons] at hj
        injection hj with hj1 hj2
        rw [List.zip_cons_cons, List.forIn_cons, hf]
        obtain ⟨p1, p2⟩ := hp x List.mem_cons_self
        refine wpAny_bind (wpAny_bind (store_ok I hN hj1 p1 r (fun s' I' => wpAny_pure ?_) p2))
        exact bind_ps hN f hf ps js _ _ _ s' I' rr hj2 (by simpa using hl) (fun y hy => hp y (List.mem_cons_of_mem _ hy)) h
/-- the slots of a lambda's body, without those of its parameters -/
def lamE (env : Slots) : Slots := env.map fun
  | .v (.d x) => .v (.d x)
  | .v (.c k f) => .v (.c k f)
  | .v (.s ns) => .v (.s ns)
  | _ => .un
section
variable {G : Glb} {N ps : List Str} {sc scope : Scope} {P O : List Addr} {H : Hp} {h : Hp} {env : Slots} {σ : L2.St}
/-- what the captured names hold, told of a part of the heap -/
def EnvAt (G : Glb) (h : Hp) (env : Slots) (σ : L2.St) : Prop := σ.length = env.length ∧ ∀ (i : Nat) (sl : Slot), env[i]? = some sl → match sl with
  | .un => True
  | .v (.d x) => ∃ v, σ[i]? = some (some v) ∧ Rp G.K h v x
  | .v (.c k f) => ∃ a, σ[i]? = some (some (.ref a)) ∧ CloOk G k h a f
  | .v (.s ns) => ∃ a, σ[i]? = some (some (.ref a)) ∧ SqL G.K h a (ns.map V.int)
  | _ => False
theorem EnvAt.r (e : EnvAt G h env σ) (w : Wf P O H) (t : Tabs G.T H) (k : Kp h (msk O H)) : R G P O env σ H := by
  refine ⟨w, t, fun i sl z => ?_, e.1, fun i j ds es a h1 _ _ _ => (e.2 i _ h1).elim⟩
  have q := e.2 i sl z
  cases sl with
  | un => trivial
  | own ds => exact q.elim
  | v a =>
    cases a with
    | d x => obtain ⟨v, q1, q2⟩ := q; exact ⟨v, q1, rp_mono k q2⟩
    | p => exact q.elim
    | s ns => obtain ⟨a, q1, q2⟩ := q; exact ⟨_, q1, a, rfl, kp_sql k q2⟩
    | c n f => obtain ⟨a, q1, q2⟩ := q; exact ⟨_, q1, a, rfl, q2.mono k⟩
theorem R.envAt (r : R G P O env σ H) : EnvAt G (msk O H) (lamE env) σ := by
  refine ⟨by rw [r.len]; simp [lamE], fun i sl z => ?_⟩
  unfold lamE at z
  rw [List.getElem?_map] at z
  cases h0 : env[i]? with
  | none => rw [h0] at z; cases z
  | some s0 =>
    rw [h0] at z
    have q := r.at_ i s0 h0
    cases s0 with
    | un => cases z; trivial
    | own ds => cases z; trivial
    | v a =>
      cases a with
      | d x => cases z; exact q
      | p => cases z; trivial
      | s ns =>
        cases z
        obtain ⟨x, q1, a, q2, q3⟩ := q
        subst q2
        exact ⟨a, q1, q3⟩
      | c n f =>
        cases z
        obtain ⟨x, q1, a, q2, q3⟩ := q
        subst q2
        exact ⟨a, q1, q3⟩
theorem setPs_R : ∀ {js : List Nat} {vs : List V} {ds : List PyData} {env : Slots} {σ : L2.St}, R G P O env σ H → RpAll G.K (msk O H) vs ds → (∀ j ∈ js, j < env.length) → R G P O (setE env js ds) (setPs σ js vs) H
  | [], vs, ds, env, σ, r, a, hj => by cases a <;> exact r
  | j :: js, _, _, env, σ, r, .nil, hj => r
  | j :: js, v :: vs, d :: ds, env, σ, r, .cons q a, hj => by
    show R G P O (setE (env.set j (dS d)) js ds) (setPs (σ.set j (some v)) js vs) H
    exact setPs_R (R.set (a := .d d) r q (hj j List.mem_cons_self)) a fun i m => by rw [List.length_set]; exact hj i (List.mem_cons_of_mem _ m)
end
/-! ### a lambda's object keeps its promise -/
theorem wf_rem {P O : List Addr} {H : Hp} {cs : List (Addr × Obj)} (w : Wf P O H) (hn : ∀ a o, cs.lookup a = some o → H a = some (frzC o)) (ho : ∀ a o, cs.lookup a = some o → a ∉ O) : Wf P O (remC cs H) := by
  have out : ∀ a ∈ O, cs.lookup a = none := fun a m => by
    cases q : cs.lookup a with
    | none => rfl
    | some o => exact absurd m (ho a o q)
  refine ⟨fun a m => ?_, fun a m => ?_⟩
  · obtain ⟨w1, x, y, w2, w3⟩ := w.pots a m
    exact ⟨w1, x, y, (rem_out (out a w1)).trans w2, w3⟩
  · obtain ⟨o, w1, wo⟩ := w.occ a m
    exact ⟨o, (rem_out (out a m)).trans w1, wo⟩
theorem wf_add {P O : List Addr} {H : Hp} {cs : List (Addr × Obj)} (w : Wf P O H) (hn : ∀ a o, cs.lookup a = some o → H a = none) : Wf P O (addC cs H) := by
  refine ⟨fun a m => ?_, fun a m => ?_⟩
  · obtain ⟨w1, x, y, w2, w3⟩ := w.pots a m
    exact ⟨w1, x, y, (add_out (cs_none hn w2)).trans w2, w3⟩
  · obtain ⟨o, w1, wo⟩ := w.occ a m
    exact ⟨o, (add_out (cs_none hn w1)).trans w1, wo⟩
section
variable {G : Glb} {N ps : List Str} {js : List Nat} {sc scope : Scope} {params : Arguments} {body : Expr} {qual : Str} {cl : List (Str × Addr)} {pm ctv : Value} {f c' : Addr} {h : Hp} {σ : L2.St} {env : Slots} {g : List PyData → M PyData} {k0 : Nat} {cs : List (Addr × Obj)}
theorem clo_ok (S : LamN N sc scope ps) (nd : N.Nodup) (hf : h f = some (frzC (PySem.W.kla_obj "<lambda>" qual params body scope cl pm c' ctv))) (hc : h c' = some (CodeO c' qual)) (hcs : ∀ a o, cs.lookup a = some o → h a = some (frzC o))
    (has : ∀ y, scope.names.lookup y = some .free → ∃ c, cl.lookup y = some c) (mem : ∀ y c, (y, c) ∈ cl → (y, NameKind.free) ∈ scope.names ∧ ∃ o v, cs.lookup c = some o ∧ o.data = .cell v) (inj : ∀ x y c, (x, c) ∈ cl → (y, c) ∈ cl → x = y) (fun_ : ∀ y c c', (y, c) ∈ cl → (y, c') ∈ cl → c = c')
    (val : ∀ (i : Nat) (y : Str) (v : V), N[i]? = some y → σ[i]? = some (some v) → scope.names.lookup y = some .free → ∃ c u o, cl.lookup y = some c ∧ RelV v u ∧ cs.lookup c = some o ∧ o.data = .cell (some u))
    (hσ : ∀ (i : Nat) (y : Str) (v : V), N[i]? = some y → σ[i]? = some (some v) → y ∉ ps) (hl : σ.length = N.length) (hE : EnvAt G (remC cs h) env σ) (hj : js.map (fun j => N[j]?) = ps.map some)
    (hb : ∀ ds : List PyData, ds.length = ps.length → EvE G N scope ⟨k0, none⟩ (setE env js ds) body (g ds)) (hg : ∀ ds : List PyData, ds.length ≠ ps.length → g ds = .err)
    (hbind : ∀ us : List Value, us.length = ps.length → bindArgs (PySem.W.kla_fn "<lambda>" qual params body scope cl pm (.ref c') ctv) ⟨us, []⟩ = pure (ps.zip us)) : CloOk G (k0 + 1) h f g := by
  refine ⟨⟨_, _, _, hf, rfl, rfl⟩, fun A outer s H P O us vs ds Q hr hgu e0 w tb hk hv hrr hq => ?_⟩
  have hlen : ds.length = ps.length := by
    by_cases hh : ds.length = ps.length
    · exact hh
    · rw [hg ds hh] at hq; exact hq.elim
  have hn : ∀ a o, cs.lookup a = some o → H a = some (frzC o) := fun a o q => (msk_some (hk a _ (hcs a o q) trivial)).2
  have ho : ∀ a o, cs.lookup a = some o → a ∉ O := fun a o q => (msk_some (hk a _ (hcs a o q) trivial)).1
  have hh : ∀ a o, cs.lookup a = some o → s.heap.get? a = some o := fun a o q => (e0.hok a _ (hn a o q)).1
  have hfr : ∀ a o, cs.lookup a = some o → a ∉ frs outer := fun a o q m => by
    have z := e0.frf a m
    rw [hn a o q] at z; cases z
  have of1 : s.heap.get? f = some (PySem.W.kla_obj "<lambda>" qual params body scope cl pm c' ctv) := (e0.hok f _ (msk_some (hk f _ hf trivial)).2).1
  obtain ⟨⟨oc, vz, t, oc1, oc2, oc3⟩, _, _⟩ := e0.hok c' _ (msk_some (hk c' _ hc trivial)).2
  have e1 : Env0 G.P G.w G.K G.mg G.base A outer s (remC cs H) := ⟨e0.frames, e0.mod, fun b o z => ⟨(e0.bs b o z).1, by
    cases q : cs.lookup b with
    | some o' => exact rem_in q
    | none => exact (rem_out q).trans (e0.bs b o z).2⟩, e0.bsz, e0.funs, fun b m => by
    cases q : cs.lookup b with
    | some o' => exact rem_in q
    | none => exact (rem_out q).trans (e0.frf b m), hok_rem e0.hok hn, e0.bare⟩
  have C : ClAt N scope cl σ (remC cs H) s := ⟨has, fun y c m => by
    obtain ⟨m1, o, v, m2, m3⟩ := mem y c m
    exact ⟨m1, rem_in m2, Heap.lt_size (hh c o m2), v, o, hh c o m2, m3⟩, inj, fun_, fun i y v z1 z2 z3 => by
    obtain ⟨c, u, o, m1, m2, m3, m4⟩ := val i y v z1 z2 z3
    exact ⟨c, u, m1, m2, o, hh c o m3, m4⟩⟩
  refine PySem.W.kla_callFunE hr.depth of1 rfl S.co S.gen rfl ⟨c', oc, vz, t, rfl, oc1, oc2, oc3⟩ ?_
  have hul : us.length = ps.length := by rw [← hv.length, rpAll_length hrr]; exact hlen
  rw [hbind us hul]
  refine wpAny_pure ?_
  show wpAny _ _ (newFunctionEnv scope mainGlobals cl (ps.zip us) (qual ++ ".<locals>.") (some f) (.ref c') none builtinsNs) _ _ _
  simp only [newFunctionEnv, Option.isSome_none, Bool.false_eq_true, if_false]
  refine wpAny_bind (wpAny_alloc ?_)
  refine wpAny_bind (wpAny_layCells _ (fun name kind cells => by cases hkc : kind == NameKind.cell <;> simp [hkc]) _ _ _ _ ?_)
  rw [show ({ s with heap := s.heap.push { cls := .type "frame", data := .dict #[] } } : Shared).heap.objs.size = s.heap.objs.size + 1 from Heap.size_push ..]
  have I := cl_start (q := qual) (f := f) (c' := c') S e1 hr.hd C hσ hl
  have kp0 : ∀ b o, s.heap.get? b = some o → (pushCells (s.heap.push { cls := .type "frame", data := .dict #[] }) scope.names).get? b = some o := fun b o z => pushCells_keeps _ _ b o (Heap.get?_push_of_some _ z)
  refine wpAny_bind (bind_ps (X := clCx G N A outer s (remC cs H) (clEnv scope cl qual f c' s.heap.objs.size)) nd _ (fun _ _ _ => rfl) ps js vs us σ _ I hv hj (by rw [rpAll_length hrr]; exact hlen) (fun x m => ⟨S.par x m, ?_⟩) fun s2 I2 => wpAny_pure ?_)
  · rcases S.par x m with z | z
    · exact .inr z
    · exact .inl (by show (scope.names.lookup x == some NameKind.cell) = true; rw [z]; rfl)
  have lim : s2.heap.NoLimit := I2.nolimit
  refine ⟨lim, ?_⟩
  have w2 := wf_rem w hn ho
  have kq : Kp (remC cs h) (msk O (remC cs H)) := fun a o q tt => by
    have qn : cs.lookup a = none := by
      cases z : cs.lookup a with
      | none => rfl
      | some o' => rw [rem_in z] at q; cases q
    rw [rem_out qn] at q
    obtain ⟨y1, y2⟩ := msk_some (hk a o q tt)
    rw [msk_out y1, rem_out qn]
    exact y2
  have r0 : R G P O env σ (remC cs H) := hE.r w2 (tabs_rem tb hn) kq
  have r1 : R G P O (setE env js ds) (setPs σ js vs) (remC cs H) := setPs_R r0 (rpAll_kd (kd_rem hn) hrr) fun j m => by
    rw [← r0.len, hl]
    have z : N[j]? ∈ ps.map some := by rw [← hj]; exact List.mem_map.mpr ⟨j, m, rfl⟩
    obtain ⟨y, _, hy⟩ := List.mem_map.mp z
    exact (List.getElem?_eq_some_iff.mp hy.symm).1
  have XK : XOk G N scope ⟨k0, none⟩ (clCx G N A outer s (remC cs H) (clEnv scope cl qual f c' s.heap.objs.size)) := ⟨nd, rfl, rfl, rfl, hr.deeper _, hgu, (fun _ _ _ e => nomatch e), rfl, rfl, rfl, rfl, rfl, PassesOwn.never⟩
  refine PySem.W.kla_codeExpr (wpAny_mono (((hb ds hlen).run _ XK P O).run [] s2 _ _ (fun v H' => (∀ a o, cs.lookup a = some o → H' a = none) → Q v (addC cs H')) I2 ⟨r1, hq.mono fun d q v H' ex rv fr => ?_⟩) (fun v s' hz => ?_) fun e s' z => False.elim z)
  · exact q v (addC cs H') (ext_add ex hn fr) (rp_mono (kp_add fr) rv)
  · obtain ⟨x, H', J, rv, qq⟩ := hz
    obtain ⟨u1, u2, u3⟩ := un_add (P := G.P) (w := G.w) J.base hn hh hfr J.hok
    exact ⟨x, addC cs H', J.os, J.bare, u1, u2, rv, qq u3⟩
end
/-! ### the call of a name that holds a lambda -/
section
variable {G : Glb} {N : List Str} {sc : Scope} {k : Lv} {env : Slots} {pos p : Pos} {e : Expr} {es : List Expr} {x : Str} {ms : M (List PyData)}
theorem ev_callC {n : Nat} {g : List PyData → M PyData} (i : Nat) (ha : EvA G N sc k env (e :: es) ms) (hi : env[i]? = some (.v (.c n g)) := by rfl) (hk : n ≤ k.n := by exact Nat.le_of_ble_eq_true rfl) (hN : N[i]? = some x := by rfl) (hv : Vis sc x := by first | exact Or.inl rfl | exact Or.inr (Or.inl rfl) | exact Or.inr (Or.inr rfl))
    (hd : (x == ("__debug__" : Str)) = false := by decide) (hcd : (x == ("__classdict__" : Str)) = false := by decide) (h1 : notStar e = true := by rfl) (h2 : es.all notStar = true := by rfl) : EvE G N sc k env (.Call (.Name x p) (e :: es) [] pos) (ms.bind g) :=
  ⟨fun X hX P O => ⟨fun pins s σ H Q I ⟨r, q⟩ => by
    obtain ⟨v0, z1, a, z2, z3⟩ := r.at_ i _ hi
    subst z2
    refine wpAny_Call_Name_kw (thn ((pe_var (pos := p) (i := i) (by rw [hX.eN]; exact hN) (by rw [hX.eSc]; exact hv) hd hcd).run pins s σ H (fun v H1 => v = .ref a ∧ H1 = H) I ⟨.ref a, z1, rfl, rfl⟩) fun u s1 ⟨v, H1, I1, r1, q1⟩ => ?_)
    obtain ⟨y1, y2⟩ := q1
    subst y1
    rw [y2] at I1
    obtain rfl : u = Value.ref a := r1
    obtain ⟨⟨o, u', fd, f1, f2, f3⟩, run⟩ := z3
    have at_ : ∀ {s' : Shared} {H' : Hp}, Inv X pins σ H' s' → Kp (msk O H) (msk O H') → PySem.W.FnAt a s'.heap := fun {s' H'} I' kk => by
      have z := (I'.hok a _ (msk_some (kk a _ f1 trivial)).2).1
      obtain ⟨oc, od, dt, sl⟩ := o
      cases (show dt = _ from f2)
      exact ⟨oc, od, fd, sl, z⟩
    refine PySem.W.callWith_F (first := []) (at_ I1 (Kp.refl _)) (thn ((ha.run X hX P O).run pos pins s1 σ H (fun vs H2 => ∃ ds, Ext G.T P H H2 ∧ RpAll G.K (msk O H2) vs ds ∧ (g ds).Sat fun d => ∀ v H', Ext G.T P H H' → Rp G.K (msk O H') v d → Q v H') I1 ⟨r, (M.sat_bind.mp q).mono fun ds q1 vs H2 e2 r2 => ⟨ds, e2, r2, q1⟩⟩) fun us s2 ⟨vs, H2, I2, rv, ds, e2, r2, q2⟩ => ?_) (star_no h1) (noStars h2)
    have kk := e2.kp r.wf
    refine ⟨at_ I2 kk, ?_⟩
    show wpAny _ _ (call (.ref a) us) _ _ _
    have e0 := I2.env0
    rw [hX.ePr, hX.eW, hX.eK, hX.eMg, hX.eBs] at e0
    refine wpAny_call (codeAny_mono (cr_end hX I2 (run X.A X.stack s2 H2 P O us vs ds Q (hX.room.mono hk) hX.gu e0 (r.wf.ext e2) (tabs_ext e2 r.tabs) kk rv r2 (q2.mono fun d h v H' e' => h v H' (e2.trans e')))) fun rr s' hq => ?_)
    obtain ⟨u, rfl, hq⟩ := hq
    exact hq⟩⟩
end
end Ev

set_option Elab.async false
set_option linter.all false
set_option autoImplicit false
set_option maxRecDepth 100000
set_option maxHeartbeats 2000000
namespace Ev
open PySem PySem.Spec PyProof.Rows L2 LamX

section
variable {X : Cx} {pins : List (Addr × Obj)} {σ : L2.St} {H : Hp} {s : Shared}
/-- a lambda is made: its object is younger than all else -/
theorem lam_made {T : List (Addr × Str)} {c P : Addr} {params : Arguments} {body : Expr} {scope : Scope} {lp : Pos} {E : Value → Shared → Prop} {Q : Value → Shared → Prop} (I : Inv X pins σ H s) (B : TabB X.base X.mg c P) (hcd : X.env.code = .ref c)
    (hin : (P, X.env.qual ++ "<lambda>") ∈ T) (huq : ∀ p ∈ T, p.1 = P → p.2 = X.env.qual ++ "<lambda>") (tb : Tabs T H) (hdf : defaultsOf params X.env = ([], [])) (hfr : ∀ y ∈ scope.names, y.2 = .free → ∃ c, X.env.cells.lookup y.1 = some c)
    (k : ∀ (f c' : Addr) (pm ctv : Value) (H1 : Hp) (s' : Shared), Inv X pins σ H1 s' → ExtN H H1 → Tabs T H1 → s'.heap.get? f = some (PySem.W.kla_obj "<lambda>" (X.env.qual ++ "<lambda>") params body scope (cloFrom X.env.cells scope.names []) pm c' ctv) →
      s.heap.objs.size ≤ f → H1 f = none → H1 c' = some (CodeO c' (X.env.qual ++ "<lambda>")) → Q (.ref f) s') : wpAny (model X.prog X.w) X.A (eval (.Lambda params body scope lp) X.env) Q E s := by
  have hmem := tb _ hin
  obtain ⟨ps, tP, tt, ta⟩ := hmem
  have bi : s.heap.BuiltinsAt X.mg P := B.bm.keeps I.bk
  have oP : s.heap.get? P = some { cls := .none, data := .fields ps } := I.hok P _ tP
  refine PySem.W.kla_eval hdf ?_
  cases fnd : codeAmong lp ps.toList with
  | some cv =>
    obtain ⟨c1, rfl, co⟩ := ta lp cv fnd
    refine PySem.W.kla_makeFunctionHit (mg := X.mg) (c := c) (P := P) (ps := ps) (closure_ok hfr) I.ok.glob (I.mod.glob.keeps I.bk) hcd (B.code.keeps I.bk) oP tt fnd bi fun ctv h1 tk kp sz => ?_
    refine k h1.objs.size c1 ((X.mg "__name__").getD .none) ctv H _ (I.kept (t' := tk) (h' := h1.push (PySem.W.kla_obj "<lambda>" (X.env.qual ++ "<lambda>") params body scope (cloFrom X.env.cells scope.names []) ((X.mg "__name__").getD .none) c1 ctv)) fun b o e => Heap.get?_push_of_some _ (kp b o e)) (ExtN.refl H) tb (Heap.get?_push_size _ rfl) sz (I.hok.fresh sz) co
  | none =>
    refine PySem.W.kla_makeFunction (mg := X.mg) (c := c) (P := P) (ps := ps) (closure_ok hfr) I.ok.glob (I.mod.glob.keeps I.bk) hcd (B.code.keeps I.bk) oP tt fnd B.gP bi fun c1 ctv h1 tk kp lo hi rec tbl => ?_
    obtain ⟨c2, oc, vs, t, e0, e1, e2, e3⟩ := rec
    cases e0
    have up : s.heap.objs.size ≤ h1.objs.size := Nat.le_of_lt (Nat.lt_of_le_of_lt lo hi)
    have n1 : H c1 = none := I.hok.fresh lo
    have I1 := inv_table (t' := tk) (more := #[rawInt lp.line, rawInt lp.col, .ref c1]) (h' := h1.push (PySem.W.kla_obj "<lambda>" (X.env.qual ++ "<lambda>") params body scope (cloFrom X.env.cells scope.names []) ((X.mg "__name__").getD .none) c1 ctv)) I tP
      (fun b o ne e => Heap.get?_push_of_some _ (kp b o ne e)) (Heap.get?_push_of_some _ tbl) lo ⟨oc, vs, t, Heap.get?_push_of_some _ e1, e2, e3⟩
    have same : ∀ b o, H b = some o → b ≠ P → upd (upd H P (.tbl (ps ++ #[rawInt lp.line, rawInt lp.col, .ref c1]))) c1 (CodeO c1 (X.env.qual ++ "<lambda>")) b = some o := fun b o e ne => by
      rw [upd_ne (ne_of_none e n1), upd_ne ne]; exact e
    have eN : ExtN H (upd (upd H P (.tbl (ps ++ #[rawInt lp.line, rawInt lp.col, .ref c1]))) c1 (CodeO c1 (X.env.qual ++ "<lambda>"))) := fun b o e n => same b o e fun z => by
      rw [z, tP] at e
      exact n ps (Option.some.inj e).symm
    have one : ∀ p q, TabS H p q → (p = P → q = X.env.qual ++ "<lambda>") → TabS (upd (upd H P (.tbl (ps ++ #[rawInt lp.line, rawInt lp.col, .ref c1]))) c1 (CodeO c1 (X.env.qual ++ "<lambda>"))) p q := fun p q tq hq => by
      obtain ⟨ps', a1, a2, a3⟩ := tq
      by_cases hp : p = P
      · subst hp
        rw [tP] at a1
        cases a1
        have eL : (ps ++ #[rawInt lp.line, rawInt lp.col, .ref c1]).toList = ps.toList ++ [rawInt lp.line, rawInt lp.col, .ref c1] := by simp
        refine ⟨_, (upd_ne (ne_of_none tP n1)).trans upd_same, by rw [eL]; exact PySem.TriplesOk_snoc _ _ _ _ tt, fun pos cv hc => ?_⟩
        rw [eL] at hc
        rcases among_app _ tt hc with z | z
        · obtain ⟨c0, y1, y2⟩ := a3 pos cv z
          exact ⟨c0, y1, eN _ _ y2 codeO_ne⟩
        · rw [hq rfl]
          exact ⟨c1, z, upd_same⟩
      · refine ⟨ps', (upd_ne (ne_of_none a1 n1)).trans ((upd_ne hp).trans a1), a2, fun pos cv hc => ?_⟩
        obtain ⟨c0, y1, y2⟩ := a3 pos cv hc
        exact ⟨c0, y1, eN _ _ y2 codeO_ne⟩
    refine k h1.objs.size c1 ((X.mg "__name__").getD .none) ctv _ _ I1 eN (fun p m => one _ _ (tb p m) (huq p m)) (Heap.get?_push_size _ rfl) up ?_ upd_same
    · rw [upd_ne (Nat.ne_of_gt hi), upd_ne (Nat.ne_of_gt (Nat.lt_of_lt_of_le (Heap.lt_size oP) up))]
      exact I.hok.fresh up
end
/-! ### what is captured -/
def capL (h : Heap) (cl : List (Str × Addr)) : List (Addr × Obj) := cl.filterMap fun p => (h.get? p.2).map fun o => (p.2, o)
theorem capL_in {h : Heap} {a : Addr} {o : Obj} : ∀ {cl : List (Str × Addr)}, (capL h cl).lookup a = some o → h.get? a = some o ∧ ∃ p ∈ cl, p.2 = a
  | [], e => nomatch e
  | p :: cl, e => by
    unfold capL at e
    rw [List.filterMap_cons] at e
    cases q : h.get? p.2 with
    | none =>
      rw [q] at e
      obtain ⟨h1, p', h2, h3⟩ := capL_in (cl := cl) e
      exact ⟨h1, p', List.mem_cons_of_mem _ h2, h3⟩
    | some ob =>
      rw [q] at e
      have e : ((p.2, ob) :: capL h cl).lookup a = some o := e
      rw [List.lookup_cons] at e
      cases ha : a == p.2 with
      | true =>
        rw [ha] at e
        cases e
        have ha : a = p.2 := by simpa using ha
        subst ha
        exact ⟨q, p, List.mem_cons_self, rfl⟩
      | false =>
        rw [ha] at e
        obtain ⟨h1, p', h2, h3⟩ := capL_in (cl := cl) e
        exact ⟨h1, p', List.mem_cons_of_mem _ h2, h3⟩
theorem capL_has {h : Heap} {a : Addr} {o : Obj} (e : h.get? a = some o) : ∀ {cl : List (Str × Addr)} {y : Str}, (y, a) ∈ cl → (capL h cl).lookup a = some o
  | p :: cl, y, m => by
    unfold capL
    rw [List.filterMap_cons]
    rcases List.mem_cons.mp m with z | z
    · subst z
      rw [e]
      show List.lookup a ((a, o) :: _) = _
      rw [List.lookup_cons, beq_self_eq_true]
    · have ih := capL_has e z
      cases q : h.get? p.2 with
      | none => exact ih
      | some ob =>
        show List.lookup a ((p.2, ob) :: capL h cl) = _
        rw [List.lookup_cons]
        cases ha : a == p.2 with
        | true =>
          have ha : a = p.2 := by simpa using ha
          subst ha
          rw [e] at q; cases q
          rfl
        | false => exact ih
theorem EnvAt.mono {G : Glb} {h h' : Hp} {env : Slots} {σ : L2.St} (e : EnvAt G h env σ) (k : Kp h h') : EnvAt G h' env σ := by
  refine ⟨e.1, fun i sl z => ?_⟩
  have q := e.2 i sl z
  cases sl with
  | un => trivial
  | own ds => exact q
  | v a =>
    cases a with
    | d x => obtain ⟨v, q1, q2⟩ := q; exact ⟨v, q1, rp_mono k q2⟩
    | p => exact q
    | s ns => obtain ⟨a, q1, q2⟩ := q; exact ⟨a, q1, kp_sql k q2⟩
    | c n f => obtain ⟨a, q1, q2⟩ := q; exact ⟨a, q1, q2.mono k⟩
theorem EnvAt.wipe {G : Glb} {h : Hp} {env : Slots} {σ : L2.St} (e : EnvAt G h env σ) (vs : List Nat) : EnvAt G h (wipeE env vs) (L2.wipe σ vs) := by
  obtain ⟨w1, w2⟩ := wipeE_le (env := env) vs
  refine ⟨by rw [wipe_length, wipeE_length]; exact e.1, fun i sl z => ?_⟩
  rcases w1.2 i sl z with y | y
  · subst y; trivial
  · rcases w2 i sl z with y2 | y2
    · subst y2; trivial
    · have q := e.2 i sl y
      rw [wipe_out y2]
      exact q
section
variable {G : Glb} {N : List Str} {sc : Scope} {k : Lv} {env : Slots} {pos p lpos : Pos} {e : Expr} {x : Str} {me : M PyData} {j n k0 : Nat} {st : Stmt} {psF ps : List Str} {js : List Nat} {f : List AV → M PyData} {params : Arguments} {body : Expr} {scope : Scope} {g : List PyData → M PyData} {c P : Addr} {q : Str}
/-- x(e, lambda ..: ..) -/
theorem ev_callLam (F : FnD G j x st psF (spF G 2 f)) (hbF : BindN x st psF) (ha : EvE G N sc k env e me) (hme : k.me = some (c, P, q)) (B : TabB G.base G.mg c P) (hin : (P, q ++ "<lambda>") ∈ G.T) (huq : ∀ p ∈ G.T, p.1 = P → p.2 = q ++ "<lambda>") (S : LamN N sc scope ps) (hjs : js.map (fun j => N[j]?) = ps.map some)
    (hb : ∀ ds : List PyData, ds.length = ps.length → EvE G N scope ⟨k0, none⟩ (setE (wipeE (lamE env) js) js ds) body (g ds)) (hg : ∀ ds : List PyData, ds.length ≠ ps.length → g ds = .err)
    (hbind : ∀ (qq : Str) (cl : List (Str × Addr)) (pm cv ctv : Value) (us : List Value), us.length = ps.length → bindArgs (PySem.W.kla_fn "<lambda>" qq params body scope cl pm cv ctv) ⟨us, []⟩ = pure (ps.zip us))
    (hdf : ∀ env : PySem.Env, defaultsOf params env = ([], []) := by intro _; rfl) (hn_ : psF.length = 2 := by rfl) (hj : j ≤ k.n := by exact Nat.le_of_ble_eq_true rfl) (hgx : sc.names.lookup x = some .globalImplicit := by rfl) (hdb : (x == ("__debug__" : Str)) = false := by decide) (h1 : notStar e = true := by rfl) :
    EvE G N sc k env (.Call (.Name x p) [e, .Lambda params body scope lpos] [] pos) (me.bind fun d => f [.d d, .c (k0 + 1) g]) :=
  ⟨fun X hX P0 O => ⟨fun pins s σ H Q I ⟨r, qq⟩ => by
    obtain ⟨fa, fd, hm, FD, FO⟩ := F.ex
    obtain ⟨m1, m2, m3⟩ := hX.me c P q hme
    have hgl : Gl X x := by show X.env.scope.names.lookup x = _; rw [hX.eSc]; exact hgx
    refine wpAny_Call_Name_kw (ld_glob I hgl (by rw [hX.eMg]; exact hm) ?_ hdb)
    refine PySem.W.callWith_K (h₀ := X.base) I.ok.mod.kin (by rw [hX.eK]; exact FD.kp) ?_ (star_no h1) (by rfl)
    rw [star_no h1]
    show wpAny _ _ (spliced ((false, eval e X.env) :: (false, eval (.Lambda params body scope lpos) X.env) :: [])) _ _ s
    have hfree : ∀ (Y : X.Ok), ∀ y ∈ scope.names, y.2 = .free → ∃ c, X.env.cells.lookup y.1 = some c := fun Y y hy e0 => by
      rcases S.free y hy e0 with z | z
      · exact Y.has _ (.inl (by show X.env.scope.names.lookup _ = _; rw [hX.eSc]; exact z))
      · exact Y.has _ (.inr (by show X.env.scope.names.lookup _ = _; rw [hX.eSc]; exact z))
    refine Calls.spliced_cons (thn ((ha.run X hX P0 O).run pins s σ H (fun v H1 => ∃ d, Ext G.T P0 H H1 ∧ Rp G.K (msk O H1) v d ∧ (f [.d d, .c (k0 + 1) g]).Sat fun d => ∀ v H', Ext G.T P0 H H' → Rp G.K (msk O H') v d → Q v H') I ⟨r, (M.sat_bind.mp qq).mono fun d q1 v H1 e1 r1 => ⟨d, e1, r1, q1⟩⟩) fun u1 s1 ⟨v1, H1, I1, rv1, d1, e1, rp1', q1⟩ => ?_)
    have r1 := r.ext e1
    refine Calls.spliced_cons (lam_made (T := G.T) I1 (by rw [hX.eBs, hX.eMg]; exact B) m1 (by rw [m2]; exact hin) (by rw [m2]; exact huq) r1.tabs (hdf _) (hfree I1.ok) fun fo c1 pm ctv H2 s2 I2 eN t2 of2 sf nf co => ?_)
    refine Calls.spliced_nil ⟨I2.kIn, ?_⟩
    -- the captured cells and the lambda's object
    generalize hcl : cloFrom X.env.cells scope.names [] = cl at of2
    have clm : ∀ y c, (y, c) ∈ cl → (y, NameKind.free) ∈ scope.names ∧ X.env.cells.lookup y = some c := fun y c m => by
      rw [← hcl] at m
      rcases cloFrom_mem m with z | ⟨z1, z2⟩
      · cases z
      · obtain ⟨c', hc'⟩ := hfree I2.ok _ z1 rfl
        refine ⟨z1, ?_⟩
        have hc2 : X.env.cells.lookup y = some c' := hc'
        rw [z2, hc2]
        rfl
    have clh : ∀ y, (y, NameKind.free) ∈ scope.names → ∃ c, cl.lookup y = some c := fun y m => by
      rw [← hcl]
      exact mem_lookup (cloFrom_has m)
    generalize hcs : (fo, PySem.W.kla_obj "<lambda>" (X.env.qual ++ "<lambda>") params body scope cl pm c1 ctv) :: capL s2.heap cl = cs
    have csf : cs.lookup fo = some (PySem.W.kla_obj "<lambda>" (X.env.qual ++ "<lambda>") params body scope cl pm c1 ctv) := by rw [← hcs, List.lookup_cons, beq_self_eq_true]
    have cs_at : ∀ a o, cs.lookup a = some o → (a = fo ∧ o = PySem.W.kla_obj "<lambda>" (X.env.qual ++ "<lambda>") params body scope cl pm c1 ctv) ∨ (s2.heap.get? a = some o ∧ ∃ y, (y, a) ∈ cl) := fun a o z => by
      rw [← hcs, List.lookup_cons] at z
      cases hz : a == fo with
      | true =>
        rw [hz] at z
        cases z
        exact .inl ⟨by simpa using hz, rfl⟩
      | false =>
        rw [hz] at z
        obtain ⟨z1, p, z2, z3⟩ := capL_in z
        exact .inr ⟨z1, p.1, by rw [← z3]; exact z2⟩
    have cellAt : ∀ y c, (y, c) ∈ cl → H2 c = none ∧ X.s_0.heap.objs.size ≤ c ∧ c ≠ fo ∧ c ≠ X.env.locals ∧ ∃ o v, s2.heap.get? c = some o ∧ o.data = .cell v := fun y c m => by
      obtain ⟨_, z⟩ := clm y c m
      obtain ⟨v0, o0, z3, z4⟩ := I1.cell y c z
      obtain ⟨v, o, z1, z2⟩ := I2.cell y c z
      exact ⟨I2.freeC y c z, I2.ok.cab y c (m3 y) z, fun e0 => absurd (Heap.lt_size z3) (by rw [e0]; exact Nat.not_lt.mpr sf), I2.cne y c z, o, v, z1, z2⟩
    have hn : ∀ a o, cs.lookup a = some o → H2 a = none := fun a o z => by
      rcases cs_at a o z with ⟨rfl, _⟩ | ⟨_, y, m⟩
      · exact nf
      · exact (cellAt y a m).1
    have hh : ∀ a o, cs.lookup a = some o → s2.heap.get? a = some o := fun a o z => by
      rcases cs_at a o z with ⟨rfl, rfl⟩ | ⟨z1, _⟩
      · exact of2
      · exact z1
    have young : ∀ a o, cs.lookup a = some o → X.s_0.heap.objs.size ≤ a ∧ a ≠ X.env.locals := fun a o z => by
      rcases cs_at a o z with ⟨rfl, _⟩ | ⟨_, y, m⟩
      · exact ⟨Nat.le_trans I1.sz sf, Nat.ne_of_gt (Nat.lt_of_lt_of_le I1.lt sf)⟩
      · exact ⟨(cellAt y a m).2.1, (cellAt y a m).2.2.2.1⟩
    have nfr : ∀ a o, cs.lookup a = some o → a ∉ frs X.stack := fun a o z m => by
      obtain ⟨y1, y2⟩ := young a o z
      rcases List.mem_cons.mp (I2.stkSub a m) with w | w
      · exact y2 w
      · obtain ⟨_, ob, w1, _⟩ := I2.ok.funs.mem w
        exact absurd (Heap.lt_size w1) (Nat.not_lt.mpr y1)
    have nbs : ∀ a o, cs.lookup a = some o → X.base.get? a = none := fun a o z => Heap.get?_none_of_le (Nat.le_trans I2.ok.bsz (young a o z).1)
    have e12 : Ext G.T P0 H1 H2 := ⟨fun a o z _ t => eN a o z fun ps e0 => by subst e0; exact t, fun a m ⟨x, y, z, zz⟩ => ⟨x, y, eN a _ z (fun ps e0 => nomatch e0), zz⟩, fun a o z t => ⟨o, eN a o z fun ps e0 => (by subst e0; exact t), t⟩, fun _ => t2⟩
    have e2 := e1.trans e12
    have r2 := r.ext e2
    have e0 := I2.env0
    have eA : Env0 X.prog X.w X.K X.mg X.base X.A X.stack s2 (addC cs H2) := ⟨e0.frames, e0.mod, fun b o z => ⟨(e0.bs b o z).1, by
      cases y : cs.lookup b with
      | none => exact (add_out y).trans (e0.bs b o z).2
      | some o' => rw [nbs b o' y] at z; cases z⟩, e0.bsz, e0.funs, fun b m => by
      cases y : cs.lookup b with
      | none => exact (add_out y).trans (e0.frf b m)
      | some o' => exact absurd m (nfr b o' y), hok_add e0.hok hn hh, e0.bare⟩
    have wA := wf_add r2.wf hn
    have kA : Kp (msk O H2) (msk O (addC cs H2)) := kp_add hn
    have nO : ∀ a o, cs.lookup a = some o → a ∉ O := fun a o z m => by
      obtain ⟨u, w1, _⟩ := r2.wf.occ a m
      rw [hn a o z] at w1; cases w1
    have atA : ∀ a o, cs.lookup a = some o → msk O (addC cs H2) a = some (frzC o) := fun a o z => (msk_out (nO a o z)).trans (add_in z)
    have kB : Kp (msk O H2) (remC cs (msk O (addC cs H2))) := fun a o z t => by
      obtain ⟨z1, z2⟩ := msk_some z
      have y := cs_none hn z2
      rw [rem_out y, msk_out z1, add_out y]
      exact z2
    have eE : EnvAt G (remC cs (msk O (addC cs H2))) (wipeE (lamE env) js) (L2.wipe σ js) := (r2.envAt.mono kB).wipe js
    have clo : CloOk G (k0 + 1) (msk O (addC cs H2)) fo g := by
      refine clo_ok (N := N) (ps := ps) (js := js) (sc := sc) (cs := cs) (σ := L2.wipe σ js) (qual := X.env.qual ++ "<lambda>") (cl := cl) (pm := pm) (ctv := ctv) (c' := c1) S hX.nd (atA fo _ csf) (kA c1 _ (?_ : msk O H2 c1 = _) trivial) atA (fun y z => clh y (PySem.mem_of_lookup z)) (fun y c m => ?_) (fun x y c m m' => I2.ok.inj x y c (clm x c m).2 (clm y c m').2) (fun y c c' m m' => ?_) (fun i y v z1 z2 z3 => ?_) (fun i y v z1 z2 m => ?_) ?_ eE hjs hb hg (hbind _ _ _ _ _)
      · rw [msk_out]
        · exact co
        · intro m
          obtain ⟨xs, w1, wo⟩ := r2.wf.occ c1 m
          rw [co] at w1
          unfold CodeO at w1
          cases w1
          exact wo.elim
      · obtain ⟨z1, _⟩ := clm y c m
        obtain ⟨_, _, _, _, o, v, z2, z3⟩ := cellAt y c m
        refine ⟨z1, o, v, ?_, z3⟩
        rw [← hcs, List.lookup_cons]
        rw [show (c == fo) = false from by simpa using (cellAt y c m).2.2.1]
        exact capL_has z2 m
      · have z1 := (clm y c m).2
        rw [(clm y c' m').2] at z1
        exact (Option.some.inj z1).symm
      · obtain ⟨z2, znj⟩ := wipe_some z2
        have vis : sc.names.lookup y = some .cell ∨ sc.names.lookup y = some .free := S.free _ (PySem.mem_of_lookup z3) rfl
        obtain ⟨mm, hn', hl'⟩ := I2.loc
        obtain ⟨u, w1, w2⟩ := hl' i y v (by rw [hX.eN]; exact z1) z2 (by rw [hX.eSc]; exact vis.elim (fun z => .inr (.inl z)) fun z => .inr (.inr z))
        rcases w2 with ⟨w3, _⟩ | ⟨_, c0, w3, ob, w4, w5⟩
        · have w3 : X.env.scope.names.lookup y = some .local := w3
          rw [hX.eSc] at w3
          rcases vis with z | z <;> rw [z] at w3 <;> cases w3
        · obtain ⟨c', hc'⟩ := clh y (PySem.mem_of_lookup z3)
          have hm' := PySem.mem_of_lookup hc'
          have z5 := (clm y c' hm').2
          rw [w3] at z5
          cases z5
          refine ⟨c0, u, ob, hc', w1, ?_, w5⟩
          rw [← hcs, List.lookup_cons]
          rw [show (c0 == fo) = false from by simpa using (cellAt y c0 hm').2.2.1]
          exact capL_has w4 hm'
      · obtain ⟨z2, znj⟩ := wipe_some z2
        have z4 : some y ∈ js.map (fun j => N[j]?) := by rw [hjs]; exact List.mem_map.mpr ⟨y, m, rfl⟩
        obtain ⟨jj, y1, y2⟩ := List.mem_map.mp z4
        exact znj (by rw [nodup_ix hX.nd z1 y2]; exact y1)
      · rw [wipe_length, r.len, ← r.len, I.len, hX.eN]
    have o2 : HOk X.prog X.w H2 s2.heap := I2.hok
    have rv1 : RelV v1 u1 := rv1
    have vv : Vals [v1, V.ref fo] [u1, Value.ref fo] := .cons rv1 (.cons rfl .nil)
    have bd : BindsTo s2 fd ⟨[u1, .ref fo], []⟩ (psF.zip [u1, .ref fo]) := FD.bindsN hbF s2 [u1, .ref fo] (by rw [← hX.eK]; exact I2.kIn) (by rw [List.append_nil, hn_]; rfl)
    show wpAny _ _ (call (.ref fa) ([] ++ [u1, .ref fo])) _ _ _
    rw [List.nil_append]
    have eA := eA
    rw [hX.ePr, hX.eW, hX.eK, hX.eMg, hX.eBs] at eA
    have go := FO.run X.A X.stack s2 (addC cs H2) ⟨[u1, .ref fo], []⟩ [u1, .ref fo] [v1, .ref fo] (fun v H' => (∀ a o, cs.lookup a = some o → H' a = some (frzC o)) → Q v (remC cs H')) (hX.room.mono hj) hX.gu eA bd vv ⟨rfl, P0, O, [.d d1, .c (k0 + 1) g], wA, tabs_add t2 hn, ⟨rp_mono kA (rp_mono (e12.kp r1.wf) rp1'), ⟨fo, rfl, clo⟩, trivial⟩,
      q1.mono fun d h v H' e' rv fr => h v (remC cs H') (e2.trans (ext_rem e' hn fr)) (rp_kd (kd_rem fr) rv)⟩
    rw [hX.ePr, hX.eW]
    refine wpAny_call (codeAny_mono go fun rr s' hq => ?_)
    match rr, hq with
    | .ok (.ret u), hq =>
      obtain ⟨vr, H', os, bare, un, hok, rvr, qr⟩ := hq
      obtain ⟨y1, y2, y3⟩ := un_rem un hn hh nfr hok
      exact I2.after ⟨vr, remC cs H', os, bare, y1, by rw [hX.ePr, hX.eW]; exact y2, rvr, qr y3⟩⟩⟩
end
end Ev

set_option Elab.async false
set_option linter.all false
set_option autoImplicit false
set_option maxRecDepth 100000
namespace Ev
open PySem PySem.Spec L2 LamX PyProof.Rows

/-! ### a set of a list of ints, sorted -/
abbrev newSet (w : World) : Obj := ⟨.type "set", none, .set #[] 0 (.fresh 0 0 (!w.params.followText "set-order")), #[]⟩
section
variable {P : Program} {w : World} {A : Around} {E : Value → Shared → Prop} {s : Shared}
theorem set_led (a : Value) {T : Value → Shared → Prop} (k : T (.ref s.heap.objs.size) { s with heap := s.heap.push (newSet w) }) : codeAny (model P w) A (.call (.builtin "set.__new__") ⟨[.type "set", a], []⟩) (wants T E) s := code_set_led1 a k
set_option maxHeartbeats 4000000 in
theorem set_of_list {l : Addr} {vs : List Value} (ns : List Int) {Q : Value → Shared → Prop} (nh : A.handled = none) (il : s.heap.IsList l vs.toArray) (ii : IntsAre vs ns) (few : ns.length + 1 < scanBound)
    (k : ∀ (h' : Heap) (tk c : Nat), SetR w h' s.heap.objs.size (fun j => decide (j ∈ ns)) c → c ≤ ns.length → (∀ b o, s.heap.get? b = some o → h'.get? b = some o) → Q (.ref s.heap.objs.size) { s with heap := h', toks := tk }) :
    wpAny (model P w) A (call (.type "set") [.ref l]) Q E s := by
  have lv : vs.toArray.size = ns.length := by rw [List.size_toArray]; exact ii.length
  have t1 := F.called_set.made
  have t2 := F.called_set.sub
  have t3 := F.called_set.notType
  have t4 := F.called_set.canCreate
  have t5 := F.typeCall_set_1 (.ref l)
  obtain ⟨m1, m2, t6⟩ := F.called_set.mro
  refine wpAny_call (codeAny_of_tree (show wpAny _ _ (callAny (.type "set") _) _ _ _ from wpAny_pure ⟨Code.quiet_builtin _ (by decide +kernel), codeAny_builtin F.entry_type_call ?_⟩))
  rw [Around.under_plain (weight_type_call_type "set" [.ref l] []) rfl]
  repeat any_goals first | assumption | wp_step
  refine codeAny_mono (set_led (.ref l) (E := E) (T := fun ob s1 => ob = .ref s.heap.objs.size ∧ s1 = { s with heap := s.heap.push (newSet w) }) ⟨rfl, rfl⟩) fun r s1 hr => ?_
  cases r with
  | error e => exact hr
  | ok fl =>
    cases fl with
    | next => exact hr.elim
    | brk => exact hr.elim
    | cont => exact hr.elim
    | ret ob =>
      obtain ⟨rfl, rfl⟩ := hr
      have oS : (s.heap.push (newSet w)).get? s.heap.objs.size = some (newSet w) := Heap.get?_push_size _ rfl
      have tS : Shared.TypeIs { s with heap := s.heap.push (newSet w) } (.ref s.heap.objs.size) "set" := ⟨_, oS, rfl⟩
      have i1 := F.called_set.init.lookup
      have i2 := F.called_set.init.bind (.ref s.heap.objs.size)
      repeat any_goals first | assumption | wp_step
      refine codeAny_mono (codeAny_call_builtin (R := wants (fun r s2 => r = .none ∧ ∃ h' tk c, s2 = { s with heap := h', toks := tk } ∧ SetR w h' s.heap.objs.size (fun j => decide (j ∈ ns)) c ∧ c ≤ ns.length ∧ ∀ b o, s.heap.get? b = some o → h'.get? b = some o) E) F.called_set.init.plain F.entry_set_init (check_set_init_1 tS ?_)) fun r2 s2 hr2 => ?_
      · obtain ⟨ol, e1, e2, nl, e3⟩ := id il
        obtain ⟨oc, od, dt, sl⟩ := ol
        obtain rfl : oc = _ := e2
        obtain rfl : dt = _ := e3
        have e4 : (s.heap.push (newSet w)).get? l = some ⟨.type "list", od, .seq vs.toArray nl, sl⟩ := Heap.get?_push_of_some _ e1
        have f1 := F.sub_list_set
        have f2 := F.sub_list_frozenset
        have f3 : (Value.type "list" == Value.type "dict") = false := by decide
        have il2 : (s.heap.push (newSet w)).IsList l vs.toArray := ⟨_, e4, rfl, nl, rfl⟩
        unfold Builtin.«set.__init__» noKeywords Builtin.Frozenset.updateFrom
        generalize hI : pyIter = PI
        wp_walk
        subst hI
        refine wpAny_pyIter_list il2 (wpAny_bind (wpAny_runValue ?_))
        have lS : l < s.heap.objs.size := Heap.lt_size e1
        have nh3 : A.in1.in1.in1.handled = none := by simp [nh]
        have sz : (s.heap.push (newSet w)).objs.size = s.heap.objs.size + 1 := Heap.size_push ..
        have ne1 : l ≠ (s.heap.push (newSet w)).objs.size := by rw [sz]; exact Nat.ne_of_lt (Nat.lt_succ_of_lt lS)
        have out : s.heap.objs.size ∉ [(s.heap.push (newSet w)).objs.size, l] := by
          intro m
          rw [sz] at m
          rcases List.mem_cons.mp m with e | m
          · exact Nat.ne_of_lt (Nat.lt_succ_self _) e
          · exact Nat.ne_of_gt lS (List.mem_singleton.mp m)
        refine set_update_ints ((Walks.list nh3 _ l ne1 vs.toArray).toS) s.heap.objs.size out ns lv few (fun i v hv => ?_) (vs.toArray.size - 0) 0 _ (by omega) (Nat.zero_le _) ⟨⟨_, Heap.get?_push_size _ rfl, rfl, rfl⟩, il2.push _⟩ ⟨0, Nat.le_refl 0, setR_new_at (Heap.get?_push_of_some _ oS)⟩ fun s' c' mv cl SR => ?_
        · have hi : i < ns.length := by rw [← lv]; exact (Array.getElem?_eq_some_iff.mp hv).1
          obtain ⟨t, e⟩ := PyProof.Rows.IntsAre.int_at ii i v (by simpa using hv)
          exact ⟨ns[i], t, List.getElem?_eq_getElem hi, by rw [e, List.getD_eq_getElem?_getD, List.getElem?_eq_getElem hi]; rfl⟩
        · obtain ⟨h', g2, d', tk', os'⟩ := s'
          obtain rfl : g2 = s.gens := mv.gens
          obtain rfl : d' = s.drawn := mv.drawn
          obtain rfl : os' = s.os := mv.os
          refine wpAny_pure (show wpAny _ _ (ret Value.none) _ _ _ from wpAny_pure ⟨rfl, h', tk', c', rfl, SR, by rw [← lv]; exact cl, fun b o e => ?_⟩)
          have bl : b < s.heap.objs.size := Heap.lt_size e
          exact mv.heap b o (fun m => by
            rcases List.mem_cons.mp m with e | m
            · exact Nat.ne_of_lt bl e
            · rw [sz] at m
              exact Nat.ne_of_lt (Nat.lt_succ_of_lt bl) (List.mem_singleton.mp m)) (Heap.get?_push_of_some _ (Heap.get?_push_of_some _ e))
      · cases r2 with
        | error e => exact hr2
        | ok fl2 =>
          cases fl2 with
          | next => exact hr2.elim
          | brk => exact hr2.elim
          | cont => exact hr2.elim
          | ret r =>
            obtain ⟨rfl, h', tk, c', rfl, SR, cl, kp⟩ := hr2
            repeat any_goals first | assumption | wp_step
            exact k _ _ _ SR cl kp
end
end Ev

set_option Elab.async false
set_option linter.all false
set_option autoImplicit false
set_option maxRecDepth 100000
set_option maxHeartbeats 2000000
namespace Ev
open PySem PySem.Spec L2 LamX PyProof.Rows

/-! ### isinstance(e, T) -/
def tyName : PyData → String
  | .none => "NoneType"
  | .bool _ => "bool"
  | .int _ => "int"
  | .str _ => "str"
  | .list _ => "list"
  | .tuple _ => "tuple"
  | .dict _ => "dict"
def pIsi (T : String) (d : PyData) : M PyData := match kitB (tyName d) T with
  | some b => .ok (.bool b)
  | none => .err
section
variable {G : Glb} {N : List Str} {sc : Scope} {k : Lv} {env : Slots} {pos p p2 p3 : Pos} {e e2 : Expr} {es : List Expr} {me me2 : M PyData} {ms : M (List PyData)} {x : Str}
theorem rp_ty {K : PySem.W.Frag} {H : Hp} {O : List Addr} {v : V} {d : PyData} (r : Rp K (msk O H) v d) : TyX K H v (.type (tyName d)) := by
  cases r with
  | non => exact .base .non
  | bl b => exact .base (.bl b)
  | int i => exact .base (.int i)
  | str x => exact .base (.str x)
  | lst h a => exact .base (.lst (msk_some h).2)
  | dk0 h => exact .base (.dK (msk_some h).2)
  | tup h a =>
    rcases kp_sqt (kp_msk (O := O) (H := H)) h with (h | ⟨o, h⟩) | ⟨o, its, n, h1, h2, _⟩
    · exact .base (.tup h)
    · exact .fTuple h
    · exact .kTuple h1 h2
theorem ev_isi {T : String} (he : EvE G N sc k env e me) (hm : G.mg "isinstance" = none) (hm2 : G.mg x = none) (hv : bootBuiltins x = some (.type T) := by decide +kernel) (hvi : bootBuiltins ("isinstance" : Str) = some (.builtin "isinstance") := by decide +kernel) (hg : sc.names.lookup ("isinstance" : Str) = some .globalImplicit := by rfl) (hg2 : sc.names.lookup x = some .globalImplicit := by rfl)
    (hn : x ≠ "__name__" := by decide) (hd : (x == ("__debug__" : Str)) = false := by decide) (h1 : notStar e = true := by rfl) : EvE G N sc k env (.Call (.Name "isinstance" p) [e, .Name x p2] [] pos) (me.bind (pIsi T)) :=
  ⟨fun X hX P O => PE_imp (pe_callB call_isi (by show X.env.scope.names.lookup _ = _; rw [hX.eSc]; exact hg) (by rw [hX.eMg]; exact hm) hvi (pa_cons (he.run X hX P O) (pa_cons (pe_bltn (v := .ty T) (by show X.env.scope.names.lookup _ = _; rw [hX.eSc]; exact hg2) (by rw [hX.eMg]; exact hm2) hv rfl hn hd) pa_nil) (star_no h1)) (by decide) (by decide) (star_no h1) rfl) fun σ H Q ⟨r, q⟩ => by
    refine ⟨r, (M.sat_bind.mp q).mono fun d q1 v H1 e1 r1 => ?_⟩
    unfold pIsi at q1
    cases hk : kitB (tyName d) T with
    | none => rw [hk] at q1; exact q1.elim
    | some b =>
      rw [hk] at q1
      exact ⟨v, .ty T, _, _, b, rfl, .ty T, by rw [hX.eK]; exact rp_ty r1, kit_ty hk, q1 _ H1 e1 (.bl b)⟩⟩
end
/-! ### sorted(set(e)), ints -/
def insS (x : Int) : List Int → List Int
  | [] => [x]
  | y :: r => if x < y then x :: y :: r else if x = y then y :: r else y :: insS x r
def sset (ns : List Int) : List Int := ns.foldr insS []
theorem insS_mem {x z : Int} : ∀ {l : List Int}, z ∈ insS x l ↔ z = x ∨ z ∈ l
  | [] => by simp [insS]
  | y :: r => by
    unfold insS
    split
    · simp
    · split
      · rename_i h; subst h; simp
      · rw [List.mem_cons, insS_mem, List.mem_cons]
        constructor
        · rintro (h | h | h) <;> simp [h]
        · rintro (h | h | h) <;> simp [h]
theorem insS_sorted {x : Int} : ∀ {l : List Int}, l.Pairwise (· < ·) → (insS x l).Pairwise (· < ·)
  | [], _ => by simp [insS]
  | y :: r, h => by
    have h' := List.pairwise_cons.mp h
    unfold insS
    split
    · rename_i hx
      refine List.pairwise_cons.mpr ⟨fun z hz => ?_, h⟩
      rcases List.mem_cons.mp hz with e | e
      · subst e; exact hx
      · exact Int.lt_trans hx (h'.1 z e)
    · split
      · exact h
      · rename_i h1 h2
        refine List.pairwise_cons.mpr ⟨fun z hz => ?_, insS_sorted h'.2⟩
        rcases insS_mem.mp hz with e | e
        · subst e; omega
        · exact h'.1 z e
theorem sset_mem {z : Int} : ∀ {l : List Int}, z ∈ sset l ↔ z ∈ l
  | [] => by simp [sset]
  | y :: r => by
    show z ∈ insS y (sset r) ↔ _
    rw [insS_mem, sset_mem, List.mem_cons]
theorem sset_sorted : ∀ {l : List Int}, (sset l).Pairwise (· < ·)
  | [] => List.Pairwise.nil
  | y :: r => insS_sorted (sset_sorted (l := r))
theorem rising_eq : ∀ {l r : List Int}, l.Pairwise (· < ·) → r.Pairwise (· < ·) → (∀ z, z ∈ l ↔ z ∈ r) → l = r
  | [], [], _, _, _ => rfl
  | [], y :: r, _, _, h => absurd ((h y).mpr List.mem_cons_self) (by simp)
  | x :: l, [], _, _, h => absurd ((h x).mp List.mem_cons_self) (by simp)
  | x :: l, y :: r, hl, hr, h => by
    have hl' := List.pairwise_cons.mp hl
    have hr' := List.pairwise_cons.mp hr
    have e : x = y := by
      rcases List.mem_cons.mp ((h x).mp List.mem_cons_self) with e | e
      · exact e
      · rcases List.mem_cons.mp ((h y).mpr List.mem_cons_self) with e2 | e2
        · exact e2.symm
        · have a := hr'.1 x e
          have b := hl'.1 y e2
          omega
    subst e
    rw [rising_eq hl'.2 hr'.2 fun z => ?_]
    constructor
    · intro hz
      rcases List.mem_cons.mp ((h z).mp (List.mem_cons_of_mem _ hz)) with e | e
      · exact absurd (hl'.1 z hz) (by omega)
      · exact e
    · intro hz
      rcases List.mem_cons.mp ((h z).mpr (List.mem_cons_of_mem _ hz)) with e | e
      · exact absurd (hr'.1 z hz) (by omega)
      · exact e
def bSet (d : PyData) : M PyData := match d with
  | .list ds | .tuple ds => match intsOf ds with
    | some ns => if ns.length < 64 then .ok (.list ((sset ns).map .int)) else .err
    | none => .err
  | _ => .err
theorem vals_intsAre {us : List Value} {ns : List Int} (r : Vals (ns.map V.int) us) : IntsAre us ns := r.ints
theorem rpInts {K : PySem.W.Frag} {h : Hp} : ∀ ns : List Int, RpAll K h (ns.map V.int) (ns.map PyData.int)
  | [] => .nil
  | n :: ns => .cons (.int n) (rpInts ns)
section
variable {X : Cx}
def rSetI (X : Cx) : List V → Hp → VK → Prop := fun vs H Q => ∃ (a : Addr) (ns : List Int), vs = [.ref a] ∧ (SqL X.K H a (ns.map V.int) ∨ SqT X.K H a (ns.map V.int)) ∧ ns.length < 64 ∧ ∀ p c, H p = none → c ≤ ns.length → Q (.ref p) (upd H p (.ext fun h => SetR X.w h p (fun j => decide (j ∈ ns)) c))
def rSortI (X : Cx) : List V → Hp → VK → Prop := fun vs H Q => ∃ (p : Addr) (ns : List Int) (c : Nat), vs = [.ref p] ∧ H p = some (.ext fun h => SetR X.w h p (fun j => decide (j ∈ ns)) c) ∧ c < 64 ∧ ∀ q, H q = none → Q (.ref q) (upd H q (.lst ((sset ns).map V.int)))
theorem call_set_ints (hc : X.calm = true) : CallR X (.type "set") (rSetI X) := by
  intro pins s σ H vs us Q I rv h
  obtain ⟨a, ns, rfl, hs, hl, q⟩ := h
  obtain ⟨u, rfl, ru⟩ := vals1 rv
  cases ru
  have few : ns.length + 1 < scanBound := by show _ < 4096; omega
  have nh : X.A.handled = none := I.ok.hd hc
  have fin : ∀ (h' : Heap) (tk c : Nat), SetR X.w h' s.heap.objs.size (fun j => decide (j ∈ ns)) c → c ≤ ns.length → (∀ b o, s.heap.get? b = some o → h'.get? b = some o) → EP X pins σ Q (.ref s.heap.objs.size) { s with heap := h', toks := tk } := fun h' tk c SR cl kp =>
    ⟨.ref s.heap.objs.size, _, I.laid (o := .ext fun h => SetR X.w h s.heap.objs.size (fun j => decide (j ∈ ns)) c) kp (Nat.le_refl _) ⟨SR, by obtain ⟨o, _, _, _, z, _⟩ := SR; exact ⟨o, z⟩, fun h1 h2 z k => z.at k⟩, rfl, q _ c (I.hok.fresh (Nat.le_refl _)) cl⟩
  rcases hs with hs | hs
  · obtain ⟨its, r, pl, hz⟩ := I.list hs
    exact set_of_list ns nh pl.isList r.ints few fin
  · obtain ⟨its, r, pl, hz⟩ := I.tuple hs
    exact call_set_tupI ns nh pl (by simpa using r.ints) few fin
theorem call_sorted_set (hc : X.calm = true) : CallR X (.builtin "sorted") (rSortI X) := by
  intro pins s σ H vs us Q I rv h
  obtain ⟨p, ns, c, rfl, hp, hl, q⟩ := h
  obtain ⟨u, rfl, ru⟩ := vals1 rv
  cases ru
  have SR : SetR X.w s.heap p (fun j => decide (j ∈ ns)) c := (I.hok p _ hp).1
  refine sorted_set SR (I.ok.hd hc) hl fun s' q' out cc ms kp hg ho lo oq ia pw mem hlen => ?_
  have e : ms = sset ns := rising_eq pw sset_sorted fun z => by rw [mem z, sset_mem]; simp
  subst e
  have lz : ((sset ns).map V.int).length ≤ sizeLine := by
    rw [List.length_map, hlen, sizeLine_eq]; omega
  have new : ObjOk X.prog X.w (upd H q' (.lst ((sset ns).map V.int))) s'.heap q' (.lst ((sset ns).map V.int)) := ⟨lz, out.toList, cc, vals_of_ints ia, by simpa [seqObj] using oq⟩
  exact ⟨.ref q', upd H q' (.lst ((sset ns).map V.int)), I.call' (ch := []) ho (Un.laid kp lo (I.hok.fresh lo)) (I.hok.laid kp lo new) (by rw [hg]; exact I.bare) (fun b m => nomatch m), rfl, q q' (I.hok.fresh lo)⟩
end
section
variable {G : Glb} {N : List Str} {sc : Scope} {k : Lv} {env : Slots} {pos p p2 p3 : Pos} {e e2 : Expr} {es : List Expr} {me me2 : M PyData} {ms : M (List PyData)} {x : Str}
theorem el_sset (he : EvE G N sc k env e me) (hm : G.mg "sorted" = none) (hm2 : G.mg "set" = none) (hv : bootBuiltins ("sorted" : Str) = some (.builtin "sorted") := by decide +kernel) (hv2 : bootBuiltins ("set" : Str) = some (.type "set") := by decide +kernel) (hg : sc.names.lookup ("sorted" : Str) = some .globalImplicit := by rfl) (hg2 : sc.names.lookup ("set" : Str) = some .globalImplicit := by rfl) (h1 : notStar e = true := by rfl) :
    EvL G N sc k env (.Call (.Name "sorted" p) [.Call (.Name "set" p2) [e] [] p3] [] pos) (me.bind bSet) :=
  ⟨fun X hX P O => PE_imp (pe_callB (call_sorted_set hX.calm) (by show X.env.scope.names.lookup _ = _; rw [hX.eSc]; exact hg) (by rw [hX.eMg]; exact hm) hv (pa_cons (pe_callTy (call_set_ints hX.calm) (by show X.env.scope.names.lookup _ = _; rw [hX.eSc]; exact hg2) (by rw [hX.eMg]; exact hm2) hv2 (pa_cons (he.run X hX P O) pa_nil (star_no h1)) (by decide) (by decide) (star_no h1) rfl) pa_nil)) fun σ H Q ⟨r, q⟩ => by
    refine ⟨r, (M.sat_bind.mp q).mono fun d q1 v H1 e1 r1 => ?_⟩
    have go : ∀ {a : Addr} {ds : List PyData} {vs : List V}, v = .ref a → (SqL X.K H1 a vs ∨ SqT X.K H1 a vs) → RpAll G.K (msk O H1) vs ds → ((match intsOf ds with | some ns => if ns.length < 64 then M.ok (PyData.list ((sset ns).map PyData.int)) else M.err | none => M.err).Sat fun (d : PyData) => ∀ (a : Addr) (vs : List V) (ds : List PyData) (H' : Hp), d = PyData.list ds → Ext G.T P H H' → Fr0 H a → H' a = some (HO.lst vs) → RpAll G.K (msk (a :: O) H') vs ds → Q (.ref a) H') → rSetI X [v] H1 fun y H2 => rSortI X [y] H2 Q := fun {a ds vs} ev hs ha q2 => by
      cases hi : intsOf ds with
      | none => rw [hi] at q2; exact q2.elim
      | some ns =>
        rw [hi] at q2
        obtain ⟨hl, q3⟩ := sat_if q2
        have z := ints_rp ha hi
        subst z
        exact ⟨a, ns, by rw [ev], hs, hl, fun p0 c hp hcl => ⟨p0, ns, c, rfl, upd_same, by omega, fun q0 hq => q3 q0 _ _ _ rfl ((e1.trans (Ext.new hp)).trans (Ext.new hq)) ((e1.trans (Ext.new hp)).back hq) upd_same (rpInts _)⟩⟩
    cases r1 with
    | lst h1 a1 => exact go rfl (.inl (SqL.of (msk_some h1).2)) a1 q1
    | tup h1 a1 => exact go rfl (.inr (by rw [hX.eK]; exact kp_sqt kp_msk h1)) a1 q1
    | _ => exact q1.elim⟩
end
end Ev

set_option Elab.async false
set_option linter.all false
set_option autoImplicit false
set_option maxRecDepth 100000
set_option maxHeartbeats 2000000
namespace Ev
open PySem PySem.Spec L2 LamX PyProof.Rows

/-! ### _law_draw -/
/-- a bound that no evaluation unfolds -/
noncomputable def drawTop : Int := (Classical.choice (⟨⟨1073741824, rfl⟩⟩ : Nonempty { k : Int // k = 1073741824 })).1
theorem drawTop_eq : drawTop = 1073741824 := (Classical.choice (⟨⟨1073741824, rfl⟩⟩ : Nonempty { k : Int // k = 1073741824 })).2
noncomputable def bDraw (as : List AV) : M PyData := match as with
  | [.p, .d (.int n)] => if n < drawTop then .draw n fun d => .ok (.int d) else .err
  | _ => .err
section
variable {G : Glb} {sz : Str} {st : Stmt} {fa : Addr} {fd : FuncData} {cA cB cC cD cE : Int}
theorem ix2 {x y : V} : atI [x, y] 0 = some x ∧ atI [x, y] 1 = some y := ⟨rfl, rfl⟩
theorem ext_pot {T : List (Addr × Str)} {P : List Addr} {H : Hp} {a : Addr} {xs : List V} {x y : Int} (ma : a ∈ P) (h : H a = some (.lst xs)) (x0 : 0 ≤ x) (y0 : 0 ≤ y) (y1 : y < 4611686018427387904) : Ext T P H (upd H a (.lst [.int x, .int y])) := by
  refine ⟨fun b o e n t => ?_, fun b m e => ?_, fun b o e t => ?_, fun t p m => tab_upd (t p m) fun u e => by rw [h] at e; cases e; trivial⟩
  · rw [upd_ne fun e0 : b = a => n (by rw [e0]; exact ma)]; exact e
  · by_cases hb : b = a
    · subst hb; exact ⟨x, y, upd_same, x0, y0, y1⟩
    · obtain ⟨x', y', e1, e2⟩ := e
      exact ⟨x', y', (upd_ne hb).trans e1, e2⟩
  · by_cases hb : b = a
    · subst hb; exact ⟨_, upd_same, trivial⟩
    · exact ⟨o, (upd_ne hb).trans e, t⟩
structure DrawC (cA cB cC cD cE : Int) : Prop where
  a : -(2 ^ 64) < cA ∧ cA < 2 ^ 64
  c : 0 < cC ∧ cC < 4611686018427387904
  d : 0 < cD
  e : 0 < cE ∧ cE < 1073741824
theorem draw_ok {j1 j2 j3 j4 j5 j6 j7 j8 j9 j10 j11 j12 j13 j14 : Nat} {p1 p2 p3 p4 p5 p6 p7 p8 p9 p10 p11 p12 p13 p14 p15 p16 p17 p18 p19 p20 p21 p22 p23 p24 p25 p26 p27 p28 p29 p30 p31 p32 p33 p34 p35 p36 p37 p38 p39 p40 p41 p42 p43 p44 p45 p46 p47 p48 p49 p50 p51 p52 p53 : Pos} (F : FunD G.K "_law_draw" "_law_draw" (defArgs st) (defBody st) (defScope st) [] [] fa fd) (hm : G.mg "_law_draw" = some (.ref fa)) (S : FnScope ["pot", sz, "digit"] ["pot", sz] (defScope st)) (c : DrawC cA cB cC cD cE)
    (h1 : (defScope st).names.lookup ("pot" : Str) = some .local) (h2 : (defScope st).names.lookup sz = some .local) (h3 : (defScope st).names.lookup ("digit" : Str) = some .local) (h4 : (defScope st).names.lookup ("divmod" : Str) = some .globalImplicit) (h5 : (defScope st).names.lookup ("int" : Str) = some .globalImplicit)
    (g1 : G.mg "divmod" = none) (g2 : G.mg "int" = none) (hd : (sz == ("__debug__" : Str)) = false) (hcd : (sz == ("__classdict__" : Str)) = false)
    (hb : defBody st = [.If (.Compare (.Subscript (.Name "pot" p1) (.Constant (.int 0) j1 p2) p3) [.Gt] [.Constant (.int 0) j2 p4] p5)
        [.Assign [.Tuple [.Subscript (.Name "pot" p6) (.Constant (.int 0) j3 p7) p8, .Name "digit" p9] j4 p10] (.Call (.Name "divmod" p11) [.Subscript (.Name "pot" p12) (.Constant (.int 0) j5 p13) p14, .Name sz p15] [] p16) p17, .Return (some (.Name "digit" p18)) p19] [] p20,
      .Assign [.Subscript (.Name "pot" p21) (.Constant (.int 1) j6 p22) p23] (.BinOp (.Call (.Name "int" p24) [.BinOp (.BinOp (.Subscript (.Name "pot" p25) (.Constant (.int 1) j7 p26) p27) .Mult (.Constant (.int cA) j8 p28) p29) .Add (.Constant (.int cB) j9 p30) p31] [] p32) .Mod (.Constant (.int cC) j10 p33) p34) p35,
      .Return (some (.BinOp (.Call (.Name "int" p36) [.BinOp (.BinOp (.Call (.Name "int" p37) [.BinOp (.Subscript (.Name "pot" p38) (.Constant (.int 1) j11 p39) p40) .Mult (.Subscript (.Name "pot" p41) (.Constant (.int 1) j12 p42) p43) p44] [] p45) .Mod (.Constant (.int cD) j13 p46) p47) .FloorDiv (.Constant (.int cE) j14 p48) p49] [] p50) .Mod (.Name sz p51) p52)) p53]) : FnD G 1 "_law_draw" st ["pot", sz] (spF G 2 bDraw) :=
  ⟨fa, fd, hm, F, fg_of (N := ["pot", sz, "digit"]) F S (fun vs H Q E h => h.1) fun A outer s H vs Q hr hg hsp => by
    obtain ⟨hl, P, O, as, w, tb, r, q⟩ := hsp
    rw [hb]
    let X := (cxOf CX0 G.P G.w G.K G.mg G.base ["pot", sz, "digit"] "_law_draw" (defScope st) fa (cdOf fd) A outer s H E0).nox
    have pot : ∀ {p : Pos}, PE X (.Name "pot" p) (tVar 0) := fun {p} => pe_var (X := X) rfl (.inl h1)
    have siz : ∀ {p : Pos}, PE X (.Name sz p) (tVar 1) := fun {p} => pe_var (X := X) rfl (.inl h2) hd hcd
    have dig : ∀ {p : Pos}, PE X (.Name "digit" p) (tVar 2) := fun {p} => pe_var (X := X) rfl (.inl h3)
    have at_ : ∀ {p p' p'' : Pos} {i : Int} {j : Nat}, PE X (.Subscript (.Name "pot" p) (.Constant (.int i) j p') p'') (tOp (rIxL X.K) (tVar 0) (tC (.int i))) := fun {p p' p'' i j} => pe_ix ix_list pot (PE_imp pe_int fun _ _ _ q => q) (fun _ _ => rfl)
    have sub : ∀ {p p' p'' : Pos} {i : Int} {j : Nat}, PG X (.Subscript (.Name "pot" p) (.Constant (.int i) j p') p'') (gSub (tVar 0) (tC (.int i)) rSetL) := fun {p p' p'' i j} => pg_sub pot (PE_imp pe_int fun _ _ _ q => q) set_list
    have num : ∀ {p : Pos} {i : Int} {j : Nat}, PE X (.Constant (.int i) j p) (tC (.int i)) := fun {p i j} => PE_imp pe_int fun _ _ _ q => q
    refine ⟨_, pss_cons (ps_if (pt_cmpR op_gt at_ num (nomark _)) (pss_cons (ps_asg (pe_callB call_divmod h4 g1 (by decide +kernel) (pa_cons at_ (pa_cons siz pa_nil))) (pg_tup rfl (pgs_cons sub (pgs_cons (pg_name (i := 2) S.nd rfl (.inl h3)) pgs_nil)))) (pss_one (ps_ret dig))) pss_nil)
      (pss_cons (ps_asg (pe_op op_modN (pe_callTy call_int1 h5 g2 (by decide +kernel) (pa_cons (pe_op op_add (pe_op op_mul at_ num) num) pa_nil)) num) sub)
        (pss_one (ps_ret (pe_op op_modN (pe_callTy call_int1 h5 g2 (by decide +kernel) (pa_cons (pe_op op_fdivN (pe_op op_modN (pe_callTy call_int1 h5 g2 (by decide +kernel) (pa_cons (pe_op op_mul at_ at_) pa_nil)) num) num) pa_nil)) siz)))), ?_⟩
    match as, r, q with
    | [.p, .d (.int n)], r, q =>
      obtain ⟨hn, q⟩ := sat_if q
      rw [drawTop_eq] at hn
      obtain ⟨n0, q⟩ := q
      match vs, r with
      | [v0, v1], ⟨⟨a, ma, e0⟩, e1, _⟩ =>
      subst e0
      cases e1
      obtain ⟨_, x, y, hH, x0, y0, y1⟩ := w.pots a ma
      have two : ∀ {z : Int}, (if z = 0 then some (V.int x) else some (V.int y)) = some (V.int x) ∨ True := .inr trivial
      refine ⟨.ref a, rfl, a, _, 0, .int x, rfl, rfl, SqL.of hH, rfl, x, 0, rfl, rfl, _, rfl, ?_⟩
      by_cases hx : (0 : Int) < x
      · rw [decide_eq_true hx]
        refine iteT ?_
        refine ⟨.ref a, rfl, a, _, 0, .int x, rfl, rfl, SqL.of hH, rfl, .int n, rfl, x, n, rfl, ⟨n0, hn⟩, fun p hp => ?_⟩
        have ne : a ≠ p := ne_of_none hH hp
        refine ⟨p, _, rfl, SqT.of upd_same, rfl, _, _, rfl, ⟨.ref a, rfl, a, _, 0, 0, rfl, rfl, (upd_ne ne).trans hH, rfl, _, _, rfl, rfl, .int (x % n), rfl, ?_⟩⟩
        refine q (x % n) (Int.emod_nonneg _ (by omega)) (Int.emod_lt_of_pos _ n0) _ _ ((Ext.new hp).trans (ext_pot ma ((upd_ne ne).trans hH) (Int.ediv_nonneg x0 (by omega)) y0 y1)) (.int _)
      · rw [decide_eq_false hx]
        refine iteF ?_
        have m0 : 0 ≤ (y * cA + cB).fmod cC := Int.fmod_nonneg_of_pos _ c.c.1
        have m1 : (y * cA + cB).fmod cC < cC := Int.fmod_lt_of_pos _ c.c.1
        have ey := ext_pot (T := G.T) (P := P) (x := x) (y := (y * cA + cB).fmod cC) ma hH x0 m0 (Int.lt_trans m1 c.c.2)
        refine ⟨.ref a, rfl, a, _, 1, .int y, rfl, rfl, SqL.of hH, rfl, y, cA, rfl, rfl, .inr c.a, y * cA, cB, rfl, rfl, .inl ⟨_, rfl, _, cC, rfl, rfl, Int.ne_of_gt c.c.1, ⟨.ref a, rfl, a, _, 1, 1, rfl, rfl, hH, rfl, ?_⟩⟩⟩
        refine ⟨.ref a, rfl, a, _, 1, _, rfl, rfl, SqL.of upd_same, rfl, .ref a, rfl, a, _, 1, _, rfl, rfl, SqL.of upd_same, rfl, _, _, rfl, rfl, .inl ⟨by omega, by have := c.c.2; omega⟩, .inl ⟨_, rfl, _, cD, rfl, rfl, Int.ne_of_gt c.d, _, cE, rfl, rfl, ⟨Int.ne_of_gt c.e.1, by have := c.e; omega⟩, .inl ⟨_, rfl, .int n, rfl, _, n, rfl, rfl, Int.ne_of_gt n0, ?_⟩⟩⟩
        exact q _ (Int.fmod_nonneg_of_pos _ n0) (Int.fmod_lt_of_pos _ n0) _ _ ey (.int _)⟩
end
end Ev

set_option Elab.async false
set_option linter.all false
set_option autoImplicit false
set_option maxRecDepth 100000
set_option maxHeartbeats 2000000
namespace Ev
open PySem PySem.Spec L2 LamX PyProof.Rows

/-! ### repr, max, min -/
def bRepr : List PyData → M PyData
  | [d] => if (d.showable && !d.hasDict && decide (d.shown.length ≤ sizeLine) && decide (d.depth ≤ 60)) = true then .ok (.str d.shown) else .err
  | _ => .err
def bMax2 : List PyData → M PyData
  | [.int i, .int j] => .ok (.int (if j > i then j else i))
  | _ => .err
def bMin2 : List PyData → M PyData
  | [.int i, .int j] => .ok (.int (if j < i then j else i))
  | _ => .err
section
variable {G : Glb} {k : Lv}
theorem cd_max2 : CalD G k (.builtin "max") bMax2 := fun N sc X hX => callr_imp (call_max2 hX.calm) fun vs H Q h => by
  obtain ⟨P, O, ds, w, r, q⟩ := h
  match ds, r, q with
  | [.int i, .int j], r, q =>
    obtain ⟨v, w', rfl, r1, r2⟩ := rp2 r
    cases r1
    cases r2
    exact ⟨i, j, rfl, q _ H Ext.refl (.int _)⟩
theorem cd_min2 : CalD G k (.builtin "min") bMin2 := fun N sc X hX => callr_imp (call_min2 hX.calm) fun vs H Q h => by
  obtain ⟨P, O, ds, w, r, q⟩ := h
  match ds, r, q with
  | [.int i, .int j], r, q =>
    obtain ⟨v, w', rfl, r1, r2⟩ := rp2 r
    cases r1
    cases r2
    exact ⟨i, j, rfl, q _ H Ext.refl (.int _)⟩
theorem cd_repr : CalD G k (.builtin "repr") bRepr := fun N sc X hX => by
  intro pins s σ H vs us Q I rv h
  obtain ⟨P, O, ds, w, r, q⟩ := h
  match ds, r, q with
  | [d], r, q =>
    obtain ⟨v, rfl, r1⟩ := rp1 r
    obtain ⟨u, rfl, ru⟩ := vals1 rv
    obtain ⟨hc, q⟩ := sat_if q
    simp only [Bool.and_eq_true, decide_eq_true_eq, Bool.not_eq_true'] at hc
    obtain ⟨⟨⟨c1, c2⟩, c3⟩, c4⟩ := hc
    obtain ⟨as, a1⟩ := rp_reads I (rp_up hX r1) ru
    have room := room60 hX c4
    have fin : ∀ h' u tk, (∀ b o, s.heap.get? b = some o → h'.get? b = some o) → EP X pins σ Q (.str d.shown u) { s with heap := h', toks := tk } := fun h' u tk kp => ⟨.str d.shown, H, I.kept (t' := tk) kp, ⟨u, rfl⟩, q _ H Ext.refl (.str _)⟩
    cases r1 with
    | non => cases ru; exact PySem.P.repr_of_none (fin _ _ _ fun _ _ e => e)
    | bl b => cases ru; exact PySem.P.repr_of_bool (fin _ _ _ fun _ _ e => e)
    | int i =>
      obtain ⟨t, rfl⟩ := ru
      exact PySem.P.repr_of_int (by simpa [PyData.showable] using c1) (fin _ _ _ fun _ _ e => e)
    | str x =>
      obtain ⟨t, rfl⟩ := ru
      exact PySem.P.repr_of_str (fin _ _ _ fun _ _ e => e) c3
    | lst h1 a0 =>
      cases ru
      exact repr_of_reads' a1 c1 (PyData.noDict_hsm c2) hX.gu (by omega) (fun _ _ e => e) fin c3
    | tup h1 a0 =>
      cases ru
      exact repr_of_reads' a1 c1 (PyData.noDict_hsm c2) hX.gu (by omega) (fun _ _ e => e) fin c3
    | dk0 h1 => exact absurd c2 (by simp [PyData.hasDict])
end
/-! ### list(range(e)) -/
section
variable {G : Glb} {N : List Str} {sc : Scope} {k : Lv} {env : Slots} {pos p p2 p3 apos : Pos} {e e2 : Expr} {es : List Expr} {me me2 : M PyData} {ms : M (List PyData)} {x : Str}
def bRg1 (d : PyData) : M PyData := match d with
  | .int n => if 0 ≤ n ∧ n ≤ 16777216 then .ok (.list (rangeD 0 n.toNat)) else .err
  | _ => .err
theorem rp_range {K : PySem.W.Frag} {h : Hp} (lo : Int) : ∀ n : Nat, RpAll K h ((List.range n).map fun i => V.int (lo + (i : Nat))) (rangeD lo n) := fun n => by
  have z : ∀ l : List Nat, RpAll K h (l.map fun i => V.int (lo + (i : Nat))) (l.map fun i => PyData.int (lo + (i : Nat))) := fun l => by
    induction l with
    | nil => exact .nil
    | cons i l ih => exact .cons (.int _) ih
  exact z _
theorem el_listRg (he : EvE G N sc k env e me) (hm : G.mg "list" = none) (hm2 : G.mg "range" = none) (hg : sc.names.lookup ("list" : Str) = some .globalImplicit := by rfl) (hg2 : sc.names.lookup ("range" : Str) = some .globalImplicit := by rfl) (h1 : notStar e = true := by rfl) :
    EvL G N sc k env (.Call (.Name "list" p) [.Call (.Name "range" p2) [e] [] p3] [] pos) (me.bind bRg1) :=
  ⟨fun X hX P O => PE_imp (pe_listRg hX.calm (by show X.env.scope.names.lookup _ = _; rw [hX.eSc]; exact hg) (by rw [hX.eMg]; exact hm) (prg_1 (by show X.env.scope.names.lookup _ = _; rw [hX.eSc]; exact hg2) (by rw [hX.eMg]; exact hm2) (he.run X hX P O) (star_no h1))) fun σ H Q ⟨r, q⟩ => by
    refine ⟨r, (M.sat_bind.mp q).mono fun d q1 v H1 e1 r1 => ?_⟩
    cases r1 with
    | int n =>
      obtain ⟨hc, q2⟩ := sat_if q1
      have ok : RgOk 0 n := .of_le (by omega) (by omega) (by omega) (by omega)
      refine ⟨n, rfl, ok, fun p0 hp => q2 p0 _ _ _ rfl (e1.trans (Ext.new hp)) (e1.back hp) upd_same ?_⟩
      have ez : rgV 0 n = (List.range n.toNat).map fun i => V.int (0 + (i : Nat)) := by unfold rgV; rw [Int.sub_zero]
      rw [ez]
      exact rp_range 0 n.toNat
    | _ => exact q1.elim⟩
def bRgT (d : PyData) : M PyData := match d with
  | .int n => if 0 ≤ n ∧ n ≤ 16777216 then .ok (.tuple (rangeD 0 n.toNat)) else .err
  | _ => .err
theorem ev_tupRg (he : EvE G N sc k env e me) (hm : G.mg "tuple" = none) (hm2 : G.mg "range" = none) (hg : sc.names.lookup ("tuple" : Str) = some .globalImplicit := by rfl) (hg2 : sc.names.lookup ("range" : Str) = some .globalImplicit := by rfl) (h1 : notStar e = true := by rfl) :
    EvE G N sc k env (.Call (.Name "tuple" p) [.Call (.Name "range" p2) [e] [] p3] [] pos) (me.bind bRgT) :=
  ⟨fun X hX P O => PE_imp (pe_tupRg hX.calm (by show X.env.scope.names.lookup _ = _; rw [hX.eSc]; exact hg) (by rw [hX.eMg]; exact hm) (prg_1 (by show X.env.scope.names.lookup _ = _; rw [hX.eSc]; exact hg2) (by rw [hX.eMg]; exact hm2) (he.run X hX P O) (star_no h1))) fun σ H Q ⟨r, q⟩ => by
    refine ⟨r, (M.sat_bind.mp q).mono fun d q1 v H1 e1 r1 => ?_⟩
    cases r1 with
    | int n =>
      obtain ⟨hc, q2⟩ := sat_if q1
      have ok : RgOk 0 n := .of_le (by omega) (by omega) (by omega) (by omega)
      refine ⟨n, rfl, ok, fun p0 hp => q2 _ _ (e1.trans (Ext.new hp)) (.tup (SqT.of (msk_upd ((r.wf.ext e1).fresh hp))) ?_)⟩
      have ez : rgV 0 n = (List.range n.toNat).map fun i => V.int (0 + (i : Nat)) := by unfold rgV; rw [Int.sub_zero]
      rw [ez]
      exact rp_range 0 n.toNat
    | _ => exact q1.elim⟩
/-! ### the script -/
theorem ev_lenS {ns : List Int} (i : Nat) (he : env[i]? = some (.v (.s ns)) := by rfl) (hm : G.mg "len" = none) (hN : N[i]? = some x := by rfl) (hv : Vis sc x := by first | exact Or.inl rfl | exact Or.inr (Or.inl rfl) | exact Or.inr (Or.inr rfl)) (hvl : bootBuiltins ("len" : Str) = some (.builtin "len") := by decide +kernel) (hg : sc.names.lookup ("len" : Str) = some .globalImplicit := by rfl)
    (hd : (x == ("__debug__" : Str)) = false := by decide) (hcd : (x == ("__classdict__" : Str)) = false := by decide) : EvE G N sc k env (.Call (.Name "len" p) [.Name x p2] [] pos) (.ok (.int ns.length)) :=
  ⟨fun X hX P O => PE_imp (pe_callB call_len_seq (by show X.env.scope.names.lookup _ = _; rw [hX.eSc]; exact hg) (by rw [hX.eMg]; exact hm) hvl (pa_cons (pe_var (i := i) (by rw [hX.eN]; exact hN) (by rw [hX.eSc]; exact hv) hd hcd) pa_nil)) fun σ H Q ⟨r, q⟩ => by
    obtain ⟨v, h1, a, rfl, h3⟩ := r.at_ i _ he
    refine ⟨_, h1, a, _, rfl, .inl (by rw [hX.eK]; exact kp_sql kp_msk h3), ?_⟩
    rw [List.length_map]
    exact q _ H Ext.refl (.int _)⟩
def sIdx (ns : List Int) (d : PyData) : M PyData := match d with
  | .int j => match atI ns j with
    | some z => .ok (.int z)
    | none => .err
  | _ => .err
theorem atI_map {α β : Type} (f : α → β) (xs : List α) (i : Int) : atI (xs.map f) i = (atI xs i).map f := by
  unfold atI
  rw [List.length_map]
  cases ixN xs.length i with
  | none => rfl
  | some j => simp
theorem ev_ixS {ns : List Int} (i : Nat) (hb : EvE G N sc k env e me) (he : env[i]? = some (.v (.s ns)) := by rfl) (hN : N[i]? = some x := by rfl) (hv : Vis sc x := by first | exact Or.inl rfl | exact Or.inr (Or.inl rfl) | exact Or.inr (Or.inr rfl)) (hs : PlainIx e := by intro _ _; rfl)
    (hd : (x == ("__debug__" : Str)) = false := by decide) (hcd : (x == ("__classdict__" : Str)) = false := by decide) : EvE G N sc k env (.Subscript (.Name x p) e pos) (me.bind (sIdx ns)) :=
  ⟨fun X hX P O => PE_imp (pe_ix ix_list (pe_var (i := i) (by rw [hX.eN]; exact hN) (by rw [hX.eSc]; exact hv) hd hcd) (hb.run X hX P O) hs) fun σ H Q ⟨r, q⟩ => by
    obtain ⟨v, h1, a, rfl, h3⟩ := r.at_ i _ he
    refine ⟨_, h1, r, (M.sat_bind.mp q).mono fun d q1 v H1 e1 r1 => ?_⟩
    have h4 := kp_sql kp_msk (kp_sql (e1.kp r.wf) h3)
    rw [hX.eK]
    cases r1 with
    | int j =>
      unfold sIdx at q1
      dsimp only at q1
      cases hx : atI ns j with
      | none => rw [hx] at q1; exact q1.elim
      | some z =>
        rw [hx] at q1
        exact ⟨a, _, j, .int z, rfl, rfl, h4, by rw [atI_map, hx]; rfl, q1 _ H1 e1 (.int z)⟩
    | _ => exact q1.elim⟩
theorem ev_slcS {ns : List Int} {lo hi : Option Expr} {ml mh : M (Option Int)} (i : Nat) (hl : EvO G N sc k env lo ml) (hh : EvO G N sc k env hi mh) (he : env[i]? = some (.v (.s ns)) := by rfl) (hN : N[i]? = some x := by rfl) (hv : Vis sc x := by first | exact Or.inl rfl | exact Or.inr (Or.inl rfl) | exact Or.inr (Or.inr rfl))
    (hd : (x == ("__debug__" : Str)) = false := by decide) (hcd : (x == ("__classdict__" : Str)) = false := by decide) : EvE G N sc k env (.Subscript (.Name x p) (.Slice lo hi none p2) pos) (ml.bind fun l => mh.bind fun h => .ok (.list ((cutD ns l h).map .int))) :=
  ⟨fun X hX P O => PE_imp (pe_slice sl_list (pe_var (i := i) (by rw [hX.eN]; exact hN) (by rw [hX.eSc]; exact hv) hd hcd) (hl.run X hX P O) (hh.run X hX P O)) fun σ H Q ⟨r, q⟩ => by
    obtain ⟨v, h1, a, rfl, h3⟩ := r.at_ i _ he
    refine ⟨_, h1, r, (M.sat_bind.mp q).mono fun l q2 H2 e2 => ⟨r.ext e2, (M.sat_bind.mp q2).mono fun h q3 H3 e3 => ?_⟩⟩
    have h4 := kp_sql kp_msk (kp_sql ((e2.trans e3).kp r.wf) h3)
    rw [hX.eK]
    have w3 := r.wf.ext (e2.trans e3)
    refine ⟨a, _, rfl, h4, fun p n => q3 _ _ ((e2.trans e3).trans (Ext.new n)) ?_⟩
    have z : cutV (ns.map V.int) l h = (cutD ns l h).map V.int := by
      unfold cutV cutD
      rw [List.length_map, List.map_take, List.map_drop]
    rw [z]
    exact rp_new_lst w3 n (rpInts _)⟩
end
end Ev

set_option Elab.async false
set_option linter.all false
set_option autoImplicit false
set_option maxRecDepth 100000
set_option maxHeartbeats 2000000
namespace Ev
open PySem PySem.Spec L2 LamX PyProof.Rows

/-! ### the end: the law's call, told of the heap where it stands -/
/-- what is tracked at the law's entry: the tables, the script where the written part does not hold it -/
def entH (K : PySem.W.Frag) (ts : List Addr) (a : Addr) (o : Obj) (ns : List Int) : Hp := fun b => if b ∈ ts then some (.tbl #[]) else if b = a ∧ K.lookup a = none then some (.frz o (.lst (ns.map V.int))) else none
section
variable {P : Program} {w : World} {K : PySem.W.Frag} {mg mb : Str → Option Value} {k : Nat} {fa a : Addr} {cs : List (Addr × Addr)} {fd : FuncData} {x : Str} {s : Shared} {vs : List Value} {ns : List Int} {T : List (Addr × Str)} {f : List AV → M PyData}
abbrev listO (vs : List Value) : Obj := { cls := .type "list", data := .seq vs.toArray }
theorem law_run (KX : K.In s.heap) (hns : s.heap.Ns mainGlobals mg) (hb : s.heap.Ns builtinsNs mb) (hbb : ∀ x : Str, x ≠ "__name__" → mb x = bootBuiltins x) (lim : s.heap.NoLimit) (hg : s.gens = #[])
    (hT : ∀ p ∈ cs, s.heap.get? p.2 = some { cls := .none, data := .fields #[] }) (nT : ∀ p ∈ cs, K.lookup p.2 = none) (C : ∀ p ∈ cs, PySem.W.CodeHd s.heap p.1 p.2)
    (hbm : ∃ (bm : Addr) (ob : Obj), mg "__builtins__" = some (.ref bm) ∧ bm ≠ builtinsNs ∧ s.heap.get? bm = some ob ∧ ob.cls = .type "module" ∧ ob.dict = some builtinsNs ∧ ob.data = .plain)
    (ha : s.heap.get? a = some (listO vs)) (hi : IntsAre vs ns) (hl : ns.length ≤ sizeLine) (hr : Room k callerA) (eT : ∀ p ∈ T, p.1 ∈ cs.map (·.2))
    (F : ∀ base : Heap, K.In base → base.Ns mainGlobals mg → (∀ p ∈ cs, TabB base mg p.1 p.2) → FnG ⟨P, w, K, mg, base, T⟩ k fa fd [x] (spF ⟨P, w, K, mg, base, T⟩ 1 f)) (hbd : ∀ (s : Shared) (u : Value), BindsTo s fd ⟨[u], []⟩ [(x, u)]) (hf : (f [.s ns]).Sat fun d => d = .bool true) :
    codeAny (model P w) callerA (.call (.ref fa) ⟨[.ref a], []⟩) (fun r s' => r = .ok (.ret (.bool true)) ∧ OldK s.heap s'.heap ∧ s'.os = s.os ∧ AllBare s'.gens) s := by
  have rv := vals_ints hi
  -- the addresses of the tables
  have tab : ∀ b ∈ cs.map (·.2), s.heap.get? b = some { cls := .none, data := .fields #[] } ∧ K.lookup b = none := fun b m => by
    obtain ⟨p, hp, rfl⟩ := List.mem_map.mp m
    exact ⟨hT p hp, nT p hp⟩
  generalize hts : cs.map (·.2) = ts at tab eT
  have tin : ∀ p ∈ cs, p.2 ∈ ts := fun p m => by rw [← hts]; exact List.mem_map.mpr ⟨p, m, rfl⟩
  have aT : a ∉ ts := fun m => by
    have z := (tab a m).1
    rw [ha] at z
    exact absurd (congrArg Obj.data (Option.some.inj z)) (fun y => nomatch y)
  generalize hH : entH K ts a (listO vs) ns = H
  have Ht : ∀ b ∈ ts, H b = some (.tbl #[]) := fun b m => by rw [← hH]; exact if_pos m
  have Ho : ∀ b, b ∉ ts → (b = a → K.lookup a ≠ none) → H b = none := fun b n m => by
    rw [← hH]
    exact (if_neg n).trans (if_neg fun z => m z.1 z.2)
  have Ha : K.lookup a = none → H a = some (.frz (listO vs) (.lst (ns.map V.int))) := fun z => by
    rw [← hH]
    exact (if_neg aT).trans (if_pos ⟨rfl, z⟩)
  -- what an entry of H can be
  have cases3 : ∀ b, H b = none ∨ (b ∈ ts ∧ H b = some (.tbl #[])) ∨ (b = a ∧ K.lookup a = none) := fun b => by
    by_cases h1 : b ∈ ts
    · exact .inr (.inl ⟨h1, Ht b h1⟩)
    · by_cases h2 : b = a ∧ K.lookup a = none
      · exact .inr (.inr h2)
      · exact .inl (Ho b h1 fun e z => h2 ⟨e, z⟩)
  have ok : HOk P w H s.heap := fun b o z => by
    rcases cases3 b with y | ⟨y1, y2⟩ | ⟨rfl, y⟩
    · rw [y] at z; cases z
    · rw [y2] at z; cases z
      exact (tab b y1).1
    · rw [Ha y] at z; cases z
      exact ⟨ha, by rw [List.length_map]; exact hl, vs, 0, rv, ha⟩
  have scr : SqL K H a (ns.map V.int) := by
    cases z : K.lookup a with
    | none => exact .inl (.inr ⟨_, Ha z⟩)
    | some o =>
      have y := KX a o z
      rw [ha] at y; cases y
      exact .inr ⟨_, vs.toArray, _, z, rfl, rfl, rfl, by rw [List.size_toArray, hi.length]; exact hl, by simpa using rv⟩
  -- objects that are neither lists nor tables are not tracked
  have plain : ∀ {b : Addr} {o : Obj}, s.heap.get? b = some o → (∀ n, o.data ≠ .seq vs.toArray n) → o.data ≠ .fields #[] → H b = none := fun {b o} z y1 y2 => by
    rcases cases3 b with y | ⟨y, _⟩ | ⟨rfl, _⟩
    · exact y
    · rw [(tab b y).1] at z; cases z
      exact absurd rfl y2
    · rw [ha] at z; cases z
      exact absurd rfl (y1 _)
  have dic : ∀ {b : Addr} {m : Str → Option Value}, s.heap.Ns b m → (hidT s.heap H).Ns b m := fun {b m} ⟨o, es, ep, z, d, r⟩ => ⟨o, es, ep, hidT_get z (plain z (fun n y => by rw [d] at y; cases y) fun y => by rw [d] at y; cases y), d, r⟩
  have inB : K.In (hidT s.heap H) := fun b o z => hidT_get (KX b o z) (by
    rcases cases3 b with y | ⟨y, _⟩ | ⟨rfl, y⟩
    · exact y
    · rw [(tab b y).2] at z; cases z
    · rw [y] at z; cases z)
  obtain ⟨gb, mc, gm⟩ : ∃ (o : Obj) (es : Array DictEntry × Nat), s.heap.get? mainGlobals = some o ∧ o.data = .dict es.1 es.2 := by
    obtain ⟨o, es, ep, z, d, _⟩ := hns
    exact ⟨o, (es, ep), z, d⟩
  have TB : ∀ p ∈ cs, TabB (hidT s.heap H) mg p.1 p.2 := fun p hp => by
    refine ⟨?_, ?_, fun z => ?_⟩
    · obtain ⟨o, us, fl, tf, gs, tg, io, tx, tt, c1, c2, c3, c4, rest⟩ := C p hp
      exact ⟨o, us, fl, tf, gs, tg, io, tx, tt, hidT_get c1 (plain c1 (fun n y => by rw [c3] at y; cases y) fun y => by rw [c3] at y; cases y; simp at c4), c2, c3, c4, rest⟩
    · obtain ⟨bm, ob, b1, b2, b3, b4, b5, b6⟩ := hbm
      refine ⟨bm, ob, b1, b2, fun z => ?_, fun z => ?_, hidT_get b3 (plain b3 (fun n y => by rw [b6] at y; cases y) fun y => by rw [b6] at y; cases y), b4, b5, b6⟩
      · rw [z, gm.1] at b3; cases b3
        have := gm.2
        rw [b6] at this; cases this
      · rw [z, hT p hp] at b3; cases b3
        cases b6
    · have g1 := gm.1
      rw [z, hT p hp] at g1; cases g1
      cases gm.2
  have lim2 : (hidT s.heap H).NoLimit := by
    obtain ⟨m2, l1, l2⟩ := lim
    exact ⟨m2, dic l1, l2⟩
  have e0 : Env0 P w K mg (hidT s.heap H) callerA [] s H := ⟨rfl, ⟨inB, dic hns, ⟨mb, dic hb, hbb⟩, lim2⟩, fun b o z => of_hidT z, Nat.le_of_eq (hidT_size _ _), trivial, fun b m => (nomatch (show b ∈ ([] : List Addr) from m)), ok, .of_eq hg⟩
  have tabs : Tabs T H := fun p m => TabS.nil (Ht p.1 (eT p m))
  have go := (F _ inB (dic hns) TB).run callerA [] s H ⟨[.ref a], []⟩ [.ref a] [.ref a] (fun v _ => v = .bl true) hr rfl e0 (hbd s (.ref a)) (.cons rfl .nil)
    ⟨rfl, [], [], [.s ns], ⟨fun b m => (nomatch m), fun b m => (nomatch m)⟩, tabs, ⟨⟨a, rfl, kp_sql (fun b o z t => (msk_out (by simp)).trans z) scr⟩, trivial⟩, hf.mono fun d e v H' _ rd => by subst e; cases rd; rfl⟩
  refine codeAny_mono go fun r s' q => ?_
  match r, q with
  | .ok (.ret u), ⟨v, H', os, bare, un, hok', r', e⟩ =>
    subst e
    obtain rfl : u = Value.bool true := r'
    have keep : ∀ b o, b ∉ ts → s.heap.get? b = some o → s'.heap.get? b = some o := fun b o n z => by
      rcases cases3 b with y | ⟨y, _⟩ | ⟨rfl, y⟩
      · exact un.keep b o z y (fun m => nomatch (show b ∈ ([] : List Addr) from m)) (fun m => nomatch m)
      · exact absurd y n
      · have y2 := (hok' b _ (un.frzs b _ _ (Ha y))).1
        rw [ha] at z; cases z
        exact y2
    have grown : ∀ b ∈ ts, ∃ more : Array Value, s'.heap.get? b = some { cls := .none, data := .fields more } := fun b m => by
      obtain ⟨more, z⟩ := un.tbls b #[] (Ht b m)
      exact ⟨_, hok' b _ z⟩
    refine ⟨rfl, ⟨fun b o z => ?_, fun b o z => ?_⟩, os, bare⟩
    · by_cases m : b ∈ ts
      · obtain ⟨more, y⟩ := grown b m
        rw [← hts] at m
        obtain ⟨p, hp, rfl⟩ := List.mem_map.mp m
        rw [hT p hp] at z; cases z
        exact .inr (.inl ⟨((C p hp).tab (hT p hp)).isCodeTable, rfl, #[], more, rfl, by rw [Array.empty_append]; exact y⟩)
      · exact .inl (keep b o m z)
    · by_cases m : b ∈ ts
      · obtain ⟨more, y⟩ := grown b m
        exact ⟨_, y⟩
      · exact ⟨o, keep b o m z⟩
end
/-- what is to be shown of the law's def at the head's heap -/
def LawAtG (l : PySem.W.OpenLaw) (w : World) (K : PySem.W.Frag) (k n : Nat) (x : Str) (mg : Str → Option Value) (fa : Addr) (h : Heap) : Prop :=
  ∃ (fd : FuncData) (cs : List (Addr × Addr)) (T : List (Addr × Str)) (f : List AV → M PyData), (∀ p ∈ cs, h.get? p.2 = some { cls := .none, data := .fields #[] }) ∧ (∀ p ∈ cs, K.lookup p.2 = none) ∧ (∀ p ∈ cs, PySem.W.CodeHd h p.1 p.2) ∧ (∀ (s : Shared) (u : Value), BindsTo s fd ⟨[u], []⟩ [(x, u)]) ∧
    (∀ p ∈ T, p.1 ∈ cs.map (·.2)) ∧ (∀ ns : List Int, ns.length ≤ n → (∀ z ∈ ns, Builtin.Int.intBits z ≤ 1048576) → (f [.s ns]).Sat fun d => d = .bool true) ∧
    ∀ base : Heap, K.In base → base.Ns mainGlobals mg → (∀ p ∈ cs, TabB base mg p.1 p.2) → FnG ⟨l.prog, w, K, mg, base, T⟩ k fa fd [x] (spF ⟨l.prog, w, K, mg, base, T⟩ 1 f)
theorem walk_ofG {l : PySem.W.OpenLaw} {n k : Nat} {q : Program} {loose : List Str} {XP : (Str → Option Value) → Heap → Prop} {YP : World → Heap → Prop} {d : DefRec} {x : Str} (hn : l.most = some n) (hn2 : n ≤ sizeLine) (hdf : d.params.defaults = []) (hr : Room k callerA)
    (F : ∀ (w : World) (mg : Str → Option Value) (fa : Addr) (h : Heap), YP w h → h.Ns mainGlobals mg → mg d.name = some (.ref fa) → ∃ K : PySem.W.Frag, K.In h ∧ LawAtG l w K k n x mg fa h) :
    PySem.W.WalkO q loose XP YP l.row.toRowW d [] (fun f vs => PySem.call f vs) := by
  refine Att.attach_callB hn hdf fun w s0 s1 mg mb fa o pm cd doc a vs ns G Y ho hd hcd hmg hobj hints hlen hbits hg => ?_
  obtain ⟨K, KX, fd, cs, T, f, y1, y2, y3, y4, y5, y6, y7⟩ := F w mg fa _ Y G.T.g hmg
  exact law_run KX G.T.g G.T.b G.T.builtins G.T.nolimit hg y1 y2 y3 G.T.bmain hobj hints (Nat.le_trans hlen hn2) hr y5 y7 y4 (y6 ns hlen hbits)
end Ev

set_option Elab.async false
set_option linter.all false
set_option autoImplicit false
set_option maxRecDepth 100000
set_option maxHeartbeats 2000000
namespace Ev
open PySem PySem.Spec L2 LamX PyProof.Rows

/-! ### short names for mirrors -/
def bin (g : PyData → PyData → M PyData) (a b : M PyData) : M PyData := a.bind fun x => b.bind fun y => g x y
def aNil : M (List PyData) := .ok []
def aCons (m : M PyData) (ms : M (List PyData)) : M (List PyData) := m.bind fun d => ms.bind fun ds => .ok (d :: ds)
def vNil : M (List AV) := .ok []
def vCons (m : M AV) (ms : M (List AV)) : M (List AV) := m.bind fun a => ms.bind fun as => .ok (a :: as)
def vD (m : M PyData) : M AV := m.bind fun d => .ok (.d d)
def callM (n : Nat) (f : List AV → M PyData) (ms : M (List AV)) : M PyData := ms.bind fun as => if as.length = n then f as else .err
def callKM (l : Nat) (π : List Nat) (n : Nat) (f : List AV → M PyData) (ms : M (List AV)) : M PyData := ms.bind fun as => if as.length = l ∧ (perm π as).length = n then f (perm π as) else .err
def comp1 (mi : M (List PyData)) (c : PyData → M Bool) (f : PyData → M PyData) : M PyData := mi.bind fun ds => (compL ds c f).bind mkLst
def comp2 (mi : M (List PyData)) (c f2 : PyData → PyData → M PyData) : M PyData := .err
def comp2' (mi : M (List PyData)) (c : PyData → PyData → M Bool) (f2 : PyData → PyData → M PyData) : M PyData := mi.bind fun ds => (compL ds (fun d => un2 d c) fun d => un2 d f2).bind mkLst
def lam1 (f : PyData → M PyData) : List PyData → M PyData
  | [a] => f a
  | _ => .err
def lam2 (f : PyData → PyData → M PyData) : List PyData → M PyData
  | [a, b] => f a b
  | _ => .err
theorem lam2_no {f : PyData → PyData → M PyData} : ∀ ds : List PyData, ds.length ≠ 2 → lam2 f ds = .err
  | [], _ => rfl
  | [_], _ => rfl
  | [_, _], h => absurd rfl h
  | _ :: _ :: _ :: _, _ => rfl

/-! ### less told, for written slots -/
def EnvLs : Slots → Slots → Prop
  | [], [] => True
  | a :: as, b :: bs => (b = .un ∨ a = b) ∧ EnvLs as bs
  | _, _ => False
theorem envLe : ∀ {a b : Slots}, EnvLs a b → EnvLe a b
  | [], [], _ => ⟨rfl, fun i sl h => .inr h⟩
  | a :: as, b :: bs, h => by
    obtain ⟨h1, h2⟩ := envLe h.2
    refine ⟨by rw [List.length_cons, List.length_cons, h1], fun i sl e => ?_⟩
    cases i with
    | zero =>
      rw [List.getElem?_cons_zero] at e
      cases e
      rcases h.1 with z | z
      · exact .inl z
      · exact .inr (by rw [List.getElem?_cons_zero, z])
    | succ i =>
      rw [List.getElem?_cons_succ] at e
      rw [List.getElem?_cons_succ]
      exact h2 i sl e
  | [], _ :: _, h => h.elim
  | _ :: _, [], h => h.elim
theorem bo_len : bootBuiltins ("len" : Str) = some (.builtin "len") := by decide +kernel
theorem bo_all : bootBuiltins ("all" : Str) = some (.builtin "all") := by decide +kernel
theorem bo_any : bootBuiltins ("any" : Str) = some (.builtin "any") := by decide +kernel
theorem bo_sum : bootBuiltins ("sum" : Str) = some (.builtin "sum") := by decide +kernel
theorem bo_abs : bootBuiltins ("abs" : Str) = some (.builtin "abs") := by decide +kernel
theorem bo_repr : bootBuiltins ("repr" : Str) = some (.builtin "repr") := by decide +kernel
theorem bo_max : bootBuiltins ("max" : Str) = some (.builtin "max") := by decide +kernel
theorem bo_min : bootBuiltins ("min" : Str) = some (.builtin "min") := by decide +kernel
theorem bo_divmod : bootBuiltins ("divmod" : Str) = some (.builtin "divmod") := by decide +kernel
theorem bo_isinstance : bootBuiltins ("isinstance" : Str) = some (.builtin "isinstance") := by decide +kernel
theorem bo_sorted : bootBuiltins ("sorted" : Str) = some (.builtin "sorted") := by decide +kernel
theorem bo_int : bootBuiltins ("int" : Str) = some (.type "int") := by decide +kernel
theorem bo_bool : bootBuiltins ("bool" : Str) = some (.type "bool") := by decide +kernel
theorem bo_str : bootBuiltins ("str" : Str) = some (.type "str") := by decide +kernel
theorem bo_list : bootBuiltins ("list" : Str) = some (.type "list") := by decide +kernel
theorem bo_tuple : bootBuiltins ("tuple" : Str) = some (.type "tuple") := by decide +kernel
theorem bo_dict : bootBuiltins ("dict" : Str) = some (.type "dict") := by decide +kernel
theorem bo_set : bootBuiltins ("set" : Str) = some (.type "set") := by decide +kernel
section
variable {G : Glb} {N : List Str} {sc : Scope} {k : Lv} {env : Slots} {pos p lpos : Pos} {e : Expr} {x : Str} {me : M PyData} {j k0 : Nat} {st : Stmt} {psF : List Str} {f : List AV → M PyData} {params : Arguments} {body : Expr} {scope : Scope} {c P : Addr} {q a b : Str}
theorem ev_globE {i : Int} (hm : ∃ t, G.mg x = some (.int i t)) (hg : sc.names.lookup x = some .globalImplicit := by rfl) (hd : (x == ("__debug__" : Str)) = false := by decide) : EvE G N sc k env (.Name x pos) (.ok (.int i)) := by
  obtain ⟨t, h⟩ := hm
  exact ev_glob h hg hd
theorem ev_callLam2 {g : PyData → PyData → M PyData} (ja jb : Nat) (F : FnD G j x st psF (spF G 2 f)) (hbF : BindN x st psF) (ha : EvE G N sc k env e me) (hme : k.me = some (c, P, q)) (B : TabB G.base G.mg c P) (hin : (P, q ++ "<lambda>") ∈ G.T) (huq : ∀ p ∈ G.T, p.1 = P → p.2 = q ++ "<lambda>") (S : LamN N sc scope [a, b])
    (hb : ∀ u v, EvE G N scope ⟨k0, none⟩ (setE (wipeE (lamE env) [ja, jb]) [ja, jb] [u, v]) body (g u v))
    (hbind : ∀ (qq : Str) (cl : List (Str × Addr)) (pm cv ctv : Value) (us : List Value), us.length = [a, b].length → bindArgs (PySem.W.kla_fn "<lambda>" qq params body scope cl pm cv ctv) ⟨us, []⟩ = pure ([a, b].zip us))
    (hjs : [ja, jb].map (fun j => N[j]?) = [a, b].map some := by rfl) (hdf : ∀ env : PySem.Env, defaultsOf params env = ([], []) := by intro _; rfl) (hn : psF.length = 2 := by rfl) (hj : j ≤ k.n := by exact Nat.le_of_ble_eq_true rfl) (hgx : sc.names.lookup x = some .globalImplicit := by rfl) (hdb : (x == ("__debug__" : Str)) = false := by decide) (h1 : notStar e = true := by rfl) :
    EvE G N sc k env (.Call (.Name x p) [e, .Lambda params body scope lpos] [] pos) (me.bind fun d => f [.d d, .c (k0 + 1) (lam2 g)]) :=
  ev_callLam F hbF ha hme B hin huq S hjs (fun ds hl => by
    match ds, hl with
    | [u, v], _ => exact hb u v) lam2_no hbind hdf hn hj hgx hdb h1
end
end Ev

set_option Elab.async false
set_option linter.all false
set_option autoImplicit false
set_option maxRecDepth 100000
set_option maxHeartbeats 2000000
namespace Ev
open PySem PySem.W PySem.Calls PySem.SeqAt PyProof.Rows

/-! ### sorting tuples, the empty one too -/
section
variable {prog : Program} {w : World} {A : Around} {E : Value → Shared → Prop} {s : Shared}
theorem call_tuple_less {Q : Value → Shared → Prop} {l b : Addr} {items items2 : Array Value} {e r : Nat → Bool} (hl : s.heap.IsTuple l items) (hb : s.heap.IsTuple b items2)
    (he : ∀ j (h1 : j < items.size) (h2 : j < items2.size), EqAt A.in1 s items[j] items2[j] (e j)) (hr : ∀ j (h1 : j < items.size) (h2 : j < items2.size), e j = false → RcLt A.in1 s items[j] items2[j] (r j))
    (h : Q (.bool (firstLt e r (decide (items.size < items2.size)) (List.range (min items.size items2.size)))) s) : wpAny (model prog w) A (call (.builtin "tuple.__lt__") [.ref l, .ref b]) Q E s := by
  obtain ⟨⟨k1, d1, u1, s1⟩, g1, hk1, m1, hd1⟩ := id hl
  obtain ⟨⟨k2, d2, u2, s2⟩, g2, hk2, m2, hd2⟩ := id hb
  simp only at hk1 hd1 hk2 hd2
  subst hk1 hd1 hk2 hd2
  exact call_meets F.slot_tuple_lt ⟨_, g1, rfl⟩ F.entry_tuple_lt (F.args_tuple_lt_2 _ _) (tuple_ltAt l b items items2 m1 m2 d1 d2 s1 s2 e r) ⟨g1, g2, he, hr, h⟩
theorem oneLt_tup {xs ys : List PyData} {a b : Value} {as bs : List Addr} {Q : Bool → Shared → Prop} (ra : Reads s.heap a (.tuple xs) as) (rb : Reads s.heap b (.tuple ys) bs) (h : alike (.tuple xs) (.tuple ys) = true)
    (hu : A.units + min (PyData.tuple xs).depth (PyData.tuple ys).depth < cLine) (hq : Q (dataLt (.tuple xs) (.tuple ys)) s) : wpAny (model prog w) A (oneLt' true a b) Q E s := by
  have hal : alikeAll xs ys = true := by simpa [alike] using h
  cases ra with
  | @tuple l o vs n _ _ h1 h2 h3 h4 =>
    cases rb with
    | @tuple l' o' vs' n' _ _ k1 k2 k3 k4 =>
      have z1 : vs.size = xs.length := by simpa using SeqAt.ReadsAll.length _ _ _ h4
      have z2 : vs'.size = ys.length := by simpa using SeqAt.ReadsAll.length _ _ _ k4
      rw [dataLt_tuple, ← firstLt_toks xs ys hal, ← z1, ← z2] at hq
      rw [oneLt'_eq]
      simp only [if_true]
      refine wpAny_bind (wpAny_cRoomFor (room_here hu) (wpAny_bind (wpAny_callSpecialIfBound?_slot (T := "tuple") ⟨_, h1, h2⟩ F.slot_tuple_lt (call_tuple_less (e := pairEq xs ys) (r := fun j => dataLt (xs.getD j .none) (ys.getD j .none)) ⟨_, h1, h2, _, h3⟩ ⟨_, k1, k2, _, k3⟩ (fun j j1 j2 => ?_) (fun j j1 j2 hj => ?_) (wpAny_truthy_bool hq)))))
      · have z := eqAt_alikeAll xs ys A.in1 s vs.toList vs'.toList _ _ h4 k4 hal (room_in hu) j (by simpa using j1) (by simpa using j2)
        simpa using z
      · have z := rcLt_alikeAll xs ys A.in1 s vs.toList vs'.toList _ _ h4 k4 hal (room_in hu) j (by simpa using j1) (by simpa using j2) hj
        simpa using z
/-- a tuple with an item -/
def hasOne : PyData → Bool
  | .tuple (_ :: _) => true
  | _ => false
theorem firsts_of {Mo : Model} : ∀ {vs : List Value} {ds : List PyData} {Q : List (Option Value) → Shared → Prop}, EachIs (fun v d => ∃ as, Reads s.heap v d as) vs ds → (∀ d, d ∈ ds → ∃ xs, d = .tuple xs) → (∀ fs : List (Option Value), fs.map Option.isSome = ds.map hasOne → Q fs s) → wpAny Mo A (vs.mapM firstOfTuple') Q E s
  | _, _, Q, .nil, _, h => by
    rw [List.mapM_nil]
    exact wpAny_pure (h [] rfl)
  | _, _, Q, .cons (b := d) (as := vs) (bs := ds) ⟨as, r⟩ t, ht, h => by
    obtain ⟨xs, rfl⟩ := ht d List.mem_cons_self
    cases r with
    | @tuple a o its n _ _ g1 g2 g3 g4 =>
      rw [List.mapM_cons]
      refine wpAny_bind ?_
      rw [kas_first_eq]
      refine wpAny_bind (Looks.here (show Looks Mo s.heap (typeOf (.ref a)) o.cls from (Looks.ld g1).andThen .now) ?_)
      rw [g2, if_neg (by first | decide | simp)]
      refine wpAny_bind (listItems_at g1 g3 (wpAny_pure ?_))
      refine wpAny_bind (firsts_of (Q := fun fs s' => wpAny Mo A (pure (its[0]? :: fs)) Q E s') t (fun d hd => ht d (List.mem_cons_of_mem _ hd)) fun fs hf => wpAny_pure (h _ ?_))
      rw [List.map_cons, List.map_cons, hf]
      congr 1
      rw [← Array.getElem?_toList]
      cases e : its.toList with
      | nil =>
        rw [e] at g4
        cases g4
        rfl
      | cons f fr =>
        rw [e] at g4
        cases g4
        rfl
theorem sorts_tups {vs : List Value} {ds : List PyData} (e : EachIs (fun v d => ∃ as, Reads s.heap v d as) vs ds) (hal : AllAlike ds) (ht : ∀ d, d ∈ ds → ∃ xs, d = .tuple xs) (hu : ∀ d, d ∈ ds → A.units + d.depth < cLine) : SortsAt prog w A s (dataKind s.heap ds) vs := by
  by_cases hne : ∀ d, d ∈ ds → hasOne d = true
  · refine SortsAt.data e hal (.inl fun d hd => ?_) hu
    obtain ⟨xs, rfl⟩ := ht d hd
    cases xs with
    | nil => exact absurd (hne _ hd) (by simp [hasOne])
    | cons x r => exact ⟨x, r, rfl⟩
  have room : ∀ {d d' : PyData}, d ∈ ds → A.units + min d.depth d'.depth < cLine := fun {d d'} hd => Nat.lt_of_le_of_lt (Nat.add_le_add_left (Nat.min_le_left _ _) _) (hu d hd)
  refine ⟨fun v hv => ?_, ?_⟩
  · obtain ⟨d, hd, as, r⟩ := e.left v hv
    exact ⟨_, dataKind_some hal hd r⟩
  have notAll : ∀ fs : List (Option Value), fs.map Option.isSome = ds.map hasOne → ¬ ((fs.toArray.all fun x => x.isSome) = true) := fun fs hf z => by
    apply hne
    rw [List.all_toArray] at z
    have z2 : ∀ b ∈ fs.map Option.isSome, b = true := fun b hb => by
      obtain ⟨x, hx, rfl⟩ := List.mem_map.mp hb
      exact List.all_eq_true.mp z x hx
    rw [hf] at z2
    exact fun d hd => z2 _ (List.mem_map.mpr ⟨d, hd, rfl⟩)
  cases ds with
  | nil => exact absurd (fun d hd => nomatch hd) hne
  | cons d0 ds0 =>
  cases hd0 : hasOne d0 with
  | true =>
    refine ⟨general', fun E x y a b Q ha hb hq => ?_, fun h2 E Q hq => ?_⟩
    · obtain ⟨d, as, hd, ra, rfl⟩ := dataKind_inv ha
      obtain ⟨d', as', hd', rb, rfl⟩ := dataKind_inv hb
      obtain ⟨xs, rfl⟩ := ht d hd
      show wpAny (model prog w) A (oneLt' false x y) Q E s
      exact oneLt_alike (fun z => nomatch z) ra rb (hal _ hd _ hd') (fun z => nomatch z) (room hd) hq
    · rw [kat_kind_eq, List.mapM_toArray, map_eq_pure_bind]
      refine wpAny_bind (wpAny_bind (firsts_of e ht fun fs hf => wpAny_pure ?_))
      rw [if_neg (notAll fs hf)]
      cases fs with
      | nil => cases hf
      | cons f fr =>
        rw [List.map_cons, List.map_cons, hd0] at hf
        rw [if_pos (by simpa using (List.cons.inj hf).1)]
        exact wpAny_pure hq
  | false =>
    refine ⟨oneType', fun E x y a b Q ha hb hq => ?_, fun h2 E Q hq => ?_⟩
    · obtain ⟨d, as, hd, ra, rfl⟩ := dataKind_inv ha
      obtain ⟨d', as', hd', rb, rfl⟩ := dataKind_inv hb
      obtain ⟨xs, rfl⟩ := ht d hd
      obtain ⟨ys, rfl⟩ := ht d' hd'
      rw [keyLt'_oneType]
      exact oneLt_tup ra rb (hal _ hd _ hd') (room hd) hq
    · rw [kat_kind_eq, List.mapM_toArray, map_eq_pure_bind]
      refine wpAny_bind (wpAny_bind (firsts_of e ht fun fs hf => wpAny_pure ?_))
      rw [if_neg (notAll fs hf)]
      cases fs with
      | nil => cases hf
      | cons f fr =>
        rw [List.map_cons, List.map_cons, hd0] at hf
        rw [if_neg (by simpa using (List.cons.inj hf).1)]
        rw [oneTypeOnly'_eq, List.mapM_toArray, map_eq_pure_bind]
        refine wpAny_bind (wpAny_bind (wpAny_bind (kas_mapM (r := Value.type "tuple") _ (fun v hv Q' hq => ?_) (wpAny_pure ?_))))
        · obtain ⟨d, hd, as, r⟩ := e.left v hv
          obtain ⟨xs, rfl⟩ := ht d hd
          exact (looks_reads r).here hq
        · obtain ⟨v0, vr, rfl⟩ : ∃ v0 vr, vs = v0 :: vr := by
            cases vs with
            | nil => simp at h2
            | cons a b => exact ⟨a, b, rfl⟩
          have a2 : ((List.map (fun _ => Value.type "tuple") (v0 :: vr)).toArray.all fun x => x == Value.type "tuple") = true := by
            simp only [List.all_toArray, List.all_map, List.all_eq_true]
            intro _ _
            exact beq_self_eq_true _
          have a0 : (List.map (fun _ => Value.type "tuple") (v0 :: vr)).toArray[0]? = some (Value.type "tuple") := by simp
          rw [a0]
          simp only [a2, if_true]
          exact wpAny_pure (wpAny_pure hq)
/-- what sorted takes -/
def canSort (ds : List PyData) : Bool := (ds.all fun d => ds.all fun e => alike d e) && decide (PyData.depthAll ds ≤ 60) && decide (ds.length ≤ sizeLine) && ((ds.all fun d => match d with | .tuple _ => true | _ => false) || ds.all fun d => match d with | .tuple _ => false | .none => false | _ => true)
theorem depth_mem : ∀ {ds : List PyData} {d : PyData}, d ∈ ds → d.depth ≤ PyData.depthAll ds
  | x :: r, d, h => by
    rw [PyData.depthAll]
    rcases List.mem_cons.mp h with e | h
    · rw [e]; omega
    · have := depth_mem h
      omega
theorem sorts_can {vs : List Value} {ds : List PyData} (e : EachIs (fun v d => ∃ as, Reads s.heap v d as) vs ds) (hc : canSort ds = true) (hu : A.units + 61 < cLine) : SortsAt prog w A s (dataKind s.heap ds) vs := by
  unfold canSort at hc
  simp only [Bool.and_eq_true, Bool.or_eq_true, decide_eq_true_eq, List.all_eq_true] at hc
  obtain ⟨⟨⟨c1, c2⟩, c3⟩, c4⟩ := hc
  have hu2 : ∀ d, d ∈ ds → A.units + d.depth < cLine := fun d hd => by
    have := depth_mem hd
    omega
  rcases c4 with c4 | c4
  · exact sorts_tups e c1 (fun d hd => by
      have := c4 d hd
      cases d with
      | tuple xs => exact ⟨xs, rfl⟩
      | _ => cases this) hu2
  · exact SortsAt.data e c1 (.inr fun d hd => by
      have := c4 d hd
      cases d with
      | tuple xs => cases this
      | none => cases this
      | _ => exact ⟨(fun z => nomatch z), (fun xs z => nomatch z)⟩) hu2
theorem sorted_can {l : Addr} {vs : List Value} {ds : List PyData} {Q : Value → Shared → Prop} {R : Value → PyData → Prop} (hl : s.heap.IsList l vs.toArray) (e : EachIs R vs ds) (er : EachIs (fun v d => ∃ as, Reads s.heap v d as) vs ds) (hc : canSort ds = true) (hu : A.units + 63 < cLine)
    (h : ∀ out : List Value, out.length = ds.length → EachIs R out (ds.mergeSort (dataLe false id)) → Q (.ref (s.heap.objs.size + 1)) { s with heap := sortedAll s.heap vs out.toArray }) : wpAny (model prog w) A (call (.builtin "sorted") [.ref l]) Q E s := by
  have er' : EachIs (fun v d => ∃ as, Reads (sortingHeap (copyHeap s.heap vs) (s.heap.objs.size + 1) vs) v d as) vs ds := er.mono fun _ _ ⟨as, r⟩ => ⟨as, PyProof.Rows.Reads.keeps (fun _ _ => sorting_copy_old) r⟩
  have hal : AllAlike (ds.map id) := by
    rw [List.map_id]
    unfold canSort at hc
    simp only [Bool.and_eq_true, List.all_eq_true] at hc
    exact hc.1.1.1
  have hL : ds.length ≤ sizeLine := by
    unfold canSort at hc
    simp only [Bool.and_eq_true, decide_eq_true_eq] at hc
    exact hc.1.2
  have hu' : A.in1.in1.units + 61 < cLine := by
    show A.units + 1 + 1 + 61 < cLine
    omega
  refine sorted_vals hl (sorts_can (s := { s with heap := sortingHeap (copyHeap s.heap vs) (s.heap.objs.size + 1) vs }) er' hc hu') (by rw [e.length]; exact hL) ?_
  have z := sortVals_data (h' := sortingHeap (copyHeap s.heap vs) (s.heap.objs.size + 1) vs) (enc := id) false e er' hal
  rw [List.map_id] at z
  exact h _ (by rw [sortVals_length false rfl]; exact e.length) z
end
end Ev
namespace Ev
open PySem PySem.Spec L2 LamX PyProof.Rows
/-- merging and sorting by merging, with a measure -/
def mgF {α : Type} (le : α → α → Bool) : Nat → List α → List α → List α
  | 0, _, _ => []
  | _ + 1, [], ys => ys
  | _ + 1, x :: xs, [] => x :: xs
  | n + 1, x :: xs, y :: ys => if le x y = true then x :: mgF le n xs (y :: ys) else y :: mgF le n (x :: xs) ys
theorem mgF_eq {α : Type} {le : α → α → Bool} : ∀ {n : Nat} {xs ys : List α}, xs.length + ys.length < n → mgF le n xs ys = xs.merge ys le
  | 0, _, _, h => absurd h (Nat.not_lt_zero _)
  | n + 1, [], ys, _ => by rw [mgF, List.nil_merge]
  | n + 1, x :: xs, [], _ => by rw [mgF, List.merge_right]
  | n + 1, x :: xs, y :: ys, h => by
    rw [List.length_cons, List.length_cons] at h
    rw [mgF, List.merge, mgF_eq (xs := xs) (ys := y :: ys) (by rw [List.length_cons]; omega), mgF_eq (xs := x :: xs) (ys := ys) (by rw [List.length_cons]; omega)]
def msF {α : Type} (le : α → α → Bool) : Nat → List α → List α
  | 0, _ => []
  | _ + 1, [] => []
  | _ + 1, [a] => [a]
  | n + 1, a :: b :: xs => mgF le (xs.length + 3) (msF le n ((a :: b :: xs).take ((xs.length + 2 + 1) / 2))) (msF le n ((a :: b :: xs).drop ((xs.length + 2 + 1) / 2)))
theorem msF_eq {α : Type} {le : α → α → Bool} : ∀ {n : Nat} {xs : List α}, xs.length < n → msF le n xs = xs.mergeSort le
  | 0, _, h => absurd h (Nat.not_lt_zero _)
  | n + 1, [], _ => by rw [msF, List.mergeSort_nil]
  | n + 1, [a], _ => by rw [msF, List.mergeSort_singleton]
  | n + 1, a :: b :: xs, h => by
    rw [List.length_cons, List.length_cons] at h
    rw [msF, List.mergeSort, msF_eq (by simp; omega), msF_eq (by simp; omega)]
    rw [mgF_eq (by rw [List.length_mergeSort, List.length_mergeSort, List.length_take, List.length_drop, List.length_cons, List.length_cons]; omega)]
    simp only [List.MergeSort.Internal.splitInTwo_fst, List.MergeSort.Internal.splitInTwo_snd, List.length_cons]
def dSort (xs : List PyData) : List PyData := msF (W.dataLe false id) (xs.length + 1) xs
theorem dSort_eq (xs : List PyData) : dSort xs = xs.mergeSort (W.dataLe false id) := msF_eq (Nat.lt_succ_self _)
def bSorted (ds : List PyData) : M PyData := match ds with
  | [.list xs] => if canSort xs = true then .ok (.list (dSort xs)) else .err
  | _ => .err
theorem each_rp {K : PySem.W.Frag} {h : Hp} : ∀ {vs : List V} {us : List Value} {ds : List PyData}, Vals vs us → RpAll K h vs ds → W.EachIs (fun u d => ∃ v, RelV v u ∧ Rp K h v d) us ds
  | _, _, _, .nil, .nil => .nil
  | _, _, _, .cons r rs, .cons q qs => .cons ⟨_, r, q⟩ (each_rp rs qs)
theorem rp_each {K : PySem.W.Frag} {h : Hp} : ∀ {us : List Value} {ds : List PyData}, W.EachIs (fun u d => ∃ v, RelV v u ∧ Rp K h v d) us ds → ∃ vs, Vals vs us ∧ RpAll K h vs ds
  | _, _, .nil => ⟨[], .nil, .nil⟩
  | _, _, .cons ⟨v, r, q⟩ t => by
    obtain ⟨vs, r2, q2⟩ := rp_each t
    exact ⟨v :: vs, .cons r r2, .cons q q2⟩
section
variable {G : Glb} {N : List Str} {sc : Scope} {k : Lv} {env : Slots} {pos p : Pos} {e : Expr} {ms : M (List PyData)}
variable {X : Cx}
def rSortD (X : Cx) : List V → Hp → VK → Prop := fun vs H Q => ∃ (a : Addr) (xs : List V) (ds : List PyData) (O : List Addr), vs = [.ref a] ∧ H a = some (.lst xs) ∧ RpAll X.K (msk O H) xs ds ∧ canSort ds = true ∧ ∀ (ys : List V) (p : Addr), RpAll X.K (msk O H) ys (ds.mergeSort (W.dataLe false id)) → H p = none → Q (.ref p) (upd H p (.lst ys))
theorem call_sortD (hu : X.A.units + 63 < cLine) : CallR X (.builtin "sorted") (rSortD X) := by
  intro pins s σ H vs us Q I r h
  obtain ⟨a, xs, ds, O, rfl, hs, ha, hc, q⟩ := h
  obtain ⟨its, rv, hl, hz⟩ := I.list (SqL.of hs)
  rw [Vals.ref1 r]
  have e := each_rp rv ha
  refine sorted_can hl.isList e (e.mono fun u d ⟨v, r1, r2⟩ => rp_reads I (rp_mono kp_msk r2) r1) hc hu fun out ho eo => ?_
  obtain ⟨ys, y1, y2⟩ := rp_each eo
  obtain ⟨ep, he'⟩ := PyProof.Rows.sortedAll_at s.heap its out.toArray
  have hlen : ys.length ≤ sizeLine := by rw [y1.length, ho, ← rpAll_length ha]; exact hz
  exact ⟨.ref _, upd H (s.heap.objs.size + 1) (.lst ys), I.laid (t' := s.toks) (fun _ _ => PyProof.Rows.sortedAll_old) (Nat.le_succ _) ⟨hlen, out, ep, y1, he'⟩, rfl, q ys _ y2 (I.hok.fresh (Nat.le_succ _))⟩
theorem el_sorted (ha : EvA G N sc k env [e] ms) (hm : G.mg "sorted" = none) (hv : bootBuiltins ("sorted" : Str) = some (.builtin "sorted") := by decide +kernel) (hg : sc.names.lookup ("sorted" : Str) = some .globalImplicit := by rfl) (h1 : notStar e = true := by rfl) :
    EvL G N sc k env (.Call (.Name "sorted" p) [e] [] pos) (ms.bind bSorted) :=
  ⟨fun X hX P O => PE_imp (pe_callB (call_sortD (by have := hX.room.un; omega)) (by show X.env.scope.names.lookup _ = _; rw [hX.eSc]; exact hg) (by rw [hX.eMg]; exact hm) hv (ha.run X hX P O) (by decide) (by decide) (star_no h1) (noStars rfl)) fun σ H Q ⟨r, q⟩ => by
    refine ⟨r, (M.sat_bind.mp q).mono fun ds q1 vs H1 e1 r1 => ?_⟩
    have w := r.wf.ext e1
    match ds, r1, q1 with
    | [.list xs], r1, q1 =>
      obtain ⟨v, rfl, r2⟩ := rp1 r1
      obtain ⟨hc, q2⟩ := sat_if q1
      cases r2 with
      | lst h1 a1 => exact ⟨_, _, xs, O, rfl, (msk_some h1).2, by rw [hX.eK]; exact a1, hc, fun ys p n => by
          rw [hX.eK] at n
          exact fun hn => q2 p ys _ _ (by rw [dSort_eq]) (e1.trans (Ext.new hn)) (e1.back hn) upd_same (fresh_els (H1 := H1) w hn n _)⟩⟩
end
end Ev

set_option Elab.async false
set_option linter.all false
set_option autoImplicit false
set_option maxRecDepth 100000
set_option maxHeartbeats 2000000
namespace Ev
open PySem PySem.Spec L2 LamX PyProof.Rows

/-! ### the head's facts, for the law -/
def lamName (x : Str) : Str := x ++ ".<locals>." ++ "<lambda>"
def lamT (K : PySem.W.Frag) (tf : List He.Defn) : List (Addr × Str) := tf.map fun p => ((He.cT K p).2, lamName p.1)
/-- no two makers have one table -/
def apart (tf : List He.Defn) (K : PySem.W.Frag) : Bool := tf.all fun p => tf.all fun q => decide ((He.cT K p).2 ≠ (He.cT K q).2) || decide (p.1 = q.1)
section
variable {K : PySem.W.Frag} {x qual : Str} {params : Arguments} {body : List Stmt} {scope : Scope} {dvs : List V} {kws : List (Str × V)} {f : Addr} {fd fd' : FuncData} {p : He.Defn} {tf : List He.Defn} {base : Heap} {mg : Str → Option Value}
theorem maker_code (F : FunD K x qual params body scope dvs kws (He.fAd K p) fd) : fd.code = .ref (He.codeOf K p) := by
  obtain ⟨oc, od, dV, kV, doc, pm, an, cdv, ct, osl, e, lk, cd, _, _⟩ := F.ex
  obtain ⟨c, hc⟩ := He.codeIn_ref cd
  have e2 : fd.code = .ref c := by rw [e]; exact hc
  rw [e2, He.codeOf_eq lk e2]
theorem fund_one (F : FunD K x qual params body scope dvs kws f fd) (F' : FunD K x qual params body scope dvs kws f fd') : fd = fd' := by
  obtain ⟨_, _, _, _, _, _, _, _, _, _, _, lk, _⟩ := F.ex
  obtain ⟨_, _, _, _, _, _, _, _, _, _, _, lk', _⟩ := F'.ex
  rw [lk] at lk'
  have z := congrArg Obj.data (Option.some.inj lk')
  injection z
theorem maker_facts (hp : p ∈ tf) (ap : apart tf K = true) (F : FunD K x qual params body scope dvs kws (He.fAd K p) fd) (B : ∀ q ∈ tf.map (He.cT K), TabB base mg q.1 q.2) :
    ∃ c P, fd.code = .ref c ∧ TabB base mg c P ∧ (P, lamName p.1) ∈ lamT K tf ∧ ∀ q ∈ lamT K tf, q.1 = P → q.2 = lamName p.1 := by
  refine ⟨_, (He.cT K p).2, maker_code F, B _ (List.mem_map.mpr ⟨p, hp, rfl⟩), List.mem_map.mpr ⟨p, hp, rfl⟩, fun q hq e => ?_⟩
  obtain ⟨r, hr, rfl⟩ := List.mem_map.mp hq
  have z := List.all_eq_true.mp (List.all_eq_true.mp ap r hr) p hp
  simp only [Bool.or_eq_true, decide_eq_true_eq] at z
  rcases z with z | z
  · exact absurd e z
  · show lamName r.1 = lamName p.1
    rw [z]
theorem law_at {l : PySem.W.OpenLaw} {w : World} {k n : Nat} {sn : Str} {fa : Addr} {h : Heap} {fas : List He.Fa} {fns : List He.DefD} {ex : PySem.W.Frag → Bool} {st : Stmt} {g : List AV → M PyData} (c : He.SaysX fas fns [] tf ex w h K) (X : K.In h) (hm : mg ("law" : Str) = some (.ref fa))
    (F : FunD K "law" "law" (defArgs st) (defBody st) (defScope st) [] [] fa fd) (hb : BindN "law" st [sn]) (ok : ∀ base : Heap, (∀ q ∈ tf.map (He.cT K), TabB base mg q.1 q.2) → FnD ⟨l.prog, w, K, mg, base, lamT K tf⟩ k "law" st [sn] (spF ⟨l.prog, w, K, mg, base, lamT K tf⟩ 1 g))
    (math : ∀ ns : List Int, ns.length ≤ n → (∀ z ∈ ns, Builtin.Int.intBits z ≤ 1048576) → (g [.s ns]).Sat fun d => d = .bool true) : LawAtG l w K k n sn mg fa h := by
  refine ⟨fd, tf.map (He.cT K), lamT K tf, g, fun p hp => ?_, fun p hp => ?_, fun p hp => ?_, fun s u => FunD.bindsA F hb s [u] rfl, fun p hp => ?_, math, fun base _ _ B => ?_⟩
  · obtain ⟨q, hq, rfl⟩ := List.mem_map.mp hp
    exact c.empty q hq
  · obtain ⟨q, hq, rfl⟩ := List.mem_map.mp hp
    exact c.out q hq
  · obtain ⟨q, hq, rfl⟩ := List.mem_map.mp hp
    exact PySem.W.codeHd_of_K X (c.hd q hq)
  · obtain ⟨q, hq, rfl⟩ := List.mem_map.mp hp
    exact List.mem_map.mpr ⟨_, List.mem_map.mpr ⟨q, hq, rfl⟩, rfl⟩
  · obtain ⟨fa', fd', m', F', go⟩ := (ok base B).ex
    have m2 : mg ("law" : Str) = some (.ref fa') := m'
    rw [hm] at m2
    cases m2
    rw [fund_one F F']
    exact go
end
end Ev

set_option Elab.async false
set_option linter.all false
set_option autoImplicit false
set_option maxRecDepth 100000
set_option maxHeartbeats 2000000
namespace Ev
open PySem PySem.Spec L2 LamX PyProof.Rows

/-! ### isinstance(e, (T, U)) -/
def pIsi2 (T U : String) (d : PyData) : M PyData := match kitB (tyName d) T with
  | some true => .ok (.bool true)
  | some false => match kitB (tyName d) U with
    | some b => .ok (.bool b)
    | none => .err
  | none => .err
section
variable {G : Glb} {N : List Str} {sc : Scope} {k : Lv} {env : Slots} {pos p p2 p3 apos : Pos} {e e2 : Expr} {es : List Expr} {me me2 : M PyData} {ms : M (List PyData)} {x y : Str} {ρ : Type} {rest : List Stmt} {I : ρ → Outc}
theorem kit_two {K : PySem.W.Frag} {a T U : String} {d : PyData} {Q : PyData → Prop} (hd : a = tyName d) (q : (pIsi2 T U d).Sat Q) : ∃ b, PySem.W.kitAny K (.type a) [.type T, .type U] = some b ∧ Q (.bool b) := by
  subst hd
  unfold pIsi2 at q
  cases h1 : kitB (tyName d) T with
  | none => rw [h1] at q; exact q.elim
  | some b =>
    rw [h1] at q
    cases b with
    | true => exact ⟨true, kitAny_cons (kit_ty h1) (fun e => by cases e) fun _ => rfl, q⟩
    | false =>
      dsimp only at q
      cases h2 : kitB (tyName d) U with
      | none => rw [h2] at q; exact q.elim
      | some b =>
        rw [h2] at q
        refine ⟨b, kitAny_cons (kit_ty h1) (fun _ => ?_) fun e => (by cases e), q⟩
        exact kitAny_cons (kit_ty h2) (fun e => by subst e; rfl) fun e => e
theorem ev_isi2 {x' : Str} {T U : String} {tk : Nat} (he : EvE G N sc k env e me) (hm : G.mg "isinstance" = none) (hm2 : G.mg x = none) (hm3 : G.mg x' = none) (hv : bootBuiltins x = some (.type T) := by decide +kernel) (hv' : bootBuiltins x' = some (.type U) := by decide +kernel) (hvi : bootBuiltins ("isinstance" : Str) = some (.builtin "isinstance") := by decide +kernel) (hg : sc.names.lookup ("isinstance" : Str) = some .globalImplicit := by rfl) (hg2 : sc.names.lookup x = some .globalImplicit := by rfl) (hg3 : sc.names.lookup x' = some .globalImplicit := by rfl)
    (hn : x ≠ "__name__" := by decide) (hd : (x == ("__debug__" : Str)) = false := by decide) (hn' : x' ≠ "__name__" := by decide) (hd' : (x' == ("__debug__" : Str)) = false := by decide) (h1 : notStar e = true := by rfl) : EvE G N sc k env (.Call (.Name "isinstance" p) [e, .Tuple [.Name x p2, .Name x' p3] tk apos] [] pos) (me.bind (pIsi2 T U)) :=
  ⟨fun X hX P O => PE_imp (pe_callB call_isiT (by show X.env.scope.names.lookup _ = _; rw [hX.eSc]; exact hg) (by rw [hX.eMg]; exact hm) hvi (pa_cons (he.run X hX P O) (pa_cons (pe_tup (pa_cons (pe_bltn (v := .ty T) (by show X.env.scope.names.lookup _ = _; rw [hX.eSc]; exact hg2) (by rw [hX.eMg]; exact hm2) hv rfl hn hd) (pa_cons (pe_bltn (v := .ty U) (by show X.env.scope.names.lookup _ = _; rw [hX.eSc]; exact hg3) (by rw [hX.eMg]; exact hm3) hv' rfl hn' hd') pa_nil))) pa_nil) (star_no h1)) (by decide) (by decide) (star_no h1) rfl) fun σ H Q ⟨r, q⟩ => by
    refine ⟨r, (M.sat_bind.mp q).mono fun d q1 v H1 e1 r1 => ?_⟩
    obtain ⟨b, hk, q2⟩ := kit_two (K := X.K) (a := tyName d) rfl q1
    refine ⟨Nat.le_of_ble_eq_true rfl, fun a n => ?_⟩
    have n' : Ext G.T P H1 (upd H1 a (.tup [.ty T, .ty U])) := Ext.new n
    exact ⟨v, a, [.ty T, .ty U], _, _, b, rfl, upd_same, .cons (.ty T) (.cons (.ty U) .nil), by rw [hX.eK]; exact rp_ty (rp_mono (n'.kp (r.wf.ext e1)) r1), hk, q2 _ _ (e1.trans n') (.bl b)⟩⟩
theorem sat_no {α : Type} : ∀ {m : M α}, m.Sat (fun _ => False) → False
  | .ok _, h => h
  | .err, h => h
  | .draw _ _, h => sat_no (h.2 0 (Int.le_refl 0) h.1)
/-! ### xs.index(e) -/
def pIndex (x y : PyData) : M PyData := match x with
  | .list ds => if (PyData.plainAll ds && y.plain && SeqAt.shaped (.list ds) && SeqAt.shaped y) = true then match ds.findIdx? fun z => PyData.eqv z y with
    | some j => .ok (.int (j : Nat))
    | none => .err
    else .err
  | _ => .err
theorem b4 {a b c d : Bool} (h : (a && b && c && d) = true) : a = true ∧ b = true ∧ c = true ∧ d = true := by
  simp only [Bool.and_eq_true] at h
  exact ⟨h.1.1.1, h.1.1.2, h.1.2, h.2⟩
theorem units66 {N : List Str} {sc : Scope} {X : Cx} (hX : XOk G N sc k X) : X.A.units + 65 < cLine := by
  have := hX.room.un
  omega
theorem ev_index {o : Expr} {mo : M PyData} (ho : EvE G N sc k env o mo) (he : EvE G N sc k env e me) (hline : (apos.endLine == pos.line) = true := by rfl) (hn : notStar e = true := by rfl) (hbase : ∀ env : PySem.Env, attributeBase o "index" env (eval o env) = eval o env := by intro _; rfl) :
    EvE G N sc k env (.Call (.Attribute o "index" apos) [e] [] pos) (mo.bind fun x => me.bind fun y => pIndex x y) :=
  ⟨fun X hX P O => PE_imp (pe_bm PySem.F.plainAttrs_list PySem.F.slot_list_index PySem.F.type_list_index (mt_indexD (units66 hX)) (ho.run X hX P O) (pa_cons (he.run X hX P O) pa_nil (star_no hn)) (hbase := hbase _) (hline := hline) (hs := star_no hn) (hfew := by rw [star_no hn]; rfl) (hplain := rfl)) fun σ H Q ⟨r, q⟩ => by
    refine ⟨r, (M.sat_bind.mp q).mono fun dx q1 v H1 e1 r1 => ?_⟩
    have q1' := M.sat_bind.mp q1
    cases r1 with
    | lst h1 a1 =>
      rename_i a xs ds
      refine ⟨.inl ⟨rfl, _, SqL.of (msk_some h1).2⟩, r.ext e1, q1'.mono fun dy q2 w H2 e2 r2 => ?_⟩
      unfold pIndex at q2
      dsimp only at q2
      obtain ⟨hc, q2⟩ := sat_if q2
      obtain ⟨c1, c2, c3, c4⟩ := b4 hc
      have kp2 := e2.kp (r.wf.ext e1)
      cases hx : ds.findIdx? (fun z => PyData.eqv z dy) with
      | none => rw [hx] at q2; exact q2.elim
      | some j =>
        rw [hx] at q2
        obtain ⟨hj, hz, hno⟩ := List.findIdx?_eq_some_iff_getElem.mp hx
        rw [hX.eK]
        refine ⟨a, w, dy, ds, j, ds[j], rfl, rfl, rp_dp kp_msk (.lst (kp2 _ _ h1 trivial) (rpAll_mono kp2 a1)) ?_, rp_dp kp_msk r2 c2, c3, c4, List.getElem?_eq_getElem hj, hz, fun m z' hm e => ?_, q2 _ _ (e1.trans e2) (.int _)⟩
        · exact c1
        · obtain ⟨hm', rfl⟩ := List.getElem?_eq_some_iff.mp e
          have := hno m hm
          exact Bool.eq_false_iff.mpr this
    | _ => exact (sat_no (q1'.mono fun dy q2 => q2)).elim⟩
end
end Ev

set_option Elab.async false
set_option linter.all false
set_option autoImplicit false
set_option maxRecDepth 100000
set_option maxHeartbeats 2000000
namespace Ev
open PySem PySem.Spec L2 LamX PyProof.Rows

/-! ### own lists read while they are still to be changed: what is told holds no list -/
mutual
def noL : PyData → Bool
  | .list _ => false
  | .dict _ => false
  | .tuple xs => noLAll xs
  | .none => true
  | .bool _ => true
  | .int _ => true
  | .str _ => true
def noLAll : List PyData → Bool
  | [] => true
  | x :: xs => noL x && noLAll xs
end
section
variable {K : PySem.W.Frag} {P O : List Addr} {H : Hp}
theorem msk_tup {a : Addr} {u : HO} (oc : ∀ a ∈ O, ∃ o, H a = some o ∧ OwnO o) (hu : ¬ OwnO u) (h : msk P H a = some u) : msk O H a = some u := by
  have h2 := (msk_some h).2
  rw [msk_out fun m => by
    obtain ⟨xs, e, t⟩ := oc a m
    rw [e] at h2
    cases h2
    exact hu t]
  exact h2
theorem sqt_noL {a : Addr} {xs : List V} (oc : ∀ a ∈ O, ∃ o, H a = some o ∧ OwnO o) (h : SqT K (msk P H) a xs) : SqT K (msk O H) a xs := by
  rcases h with (h | ⟨o, h⟩) | h
  · exact .inl (.inl (msk_tup oc (fun e => e.elim) h))
  · exact .inl (.inr ⟨o, msk_tup oc (fun e => e.elim) h⟩)
  · exact .inr h
mutual
theorem rp_noL (oc : ∀ a ∈ O, ∃ o, H a = some o ∧ OwnO o) : ∀ {v : V} {d : PyData}, Rp K (msk P H) v d → noL d = true → Rp K (msk O H) v d
  | _, _, .non, _ => .non
  | _, _, .bl b, _ => .bl b
  | _, _, .int i, _ => .int i
  | _, _, .str x, _ => .str x
  | _, _, .lst q r, e => by rw [noL] at e; cases e
  | _, _, .dk0 q, e => by rw [noL] at e; cases e
  | _, _, .tup q r, e => by
    rw [noL] at e
    exact .tup (sqt_noL oc q) (rpAll_noL oc r e)
theorem rpAll_noL (oc : ∀ a ∈ O, ∃ o, H a = some o ∧ OwnO o) : ∀ {vs : List V} {ds : List PyData}, RpAll K (msk P H) vs ds → noLAll ds = true → RpAll K (msk O H) vs ds
  | _, _, .nil, _ => .nil
  | _, _, .cons q r, e => by
    rw [noLAll, Bool.and_eq_true] at e
    exact .cons (rp_noL oc q e.1) (rpAll_noL oc r e.2)
end
end
def flat (d : PyData) : M PyData := if noL d = true then .ok d else .err
def flatL (d : PyData) : M PyData := match d with
  | .list ds => if noLAll ds = true then .ok (.list ds) else .err
  | _ => .err
section
variable {G : Glb} {N : List Str} {sc : Scope} {k : Lv} {env : Slots} {pos p p2 p3 apos : Pos} {e e2 : Expr} {es : List Expr} {me me2 : M PyData} {ms : M (List PyData)} {x y : Str} {ρ : Type} {rest : List Stmt} {I : ρ → Outc}
theorem ev_frzD (h : EvE G N sc k (frz env) e me) : EvE G N sc k env e (me.bind flat) :=
  ⟨fun X hX P O => PE_imp (h.run X hX P P) fun σ H Q ⟨r, q⟩ => ⟨r.frz, (M.sat_bind.mp q).mono fun d q1 v H1 e1 r1 => by
    obtain ⟨hd, q1⟩ := sat_if q1
    exact q1 _ _ e1 (rp_noL (r.wf.ext e1).occ r1 hd)⟩⟩
theorem tL_frz {P O : List Addr} {m : M PyData} {σ : L2.St} {H : Hp} {Q : VK} (h : tL G P O env (m.bind flatL) σ H Q) : tL G P P (frz env) m σ H Q := by
  obtain ⟨r, q⟩ := h
  refine ⟨r.frz, (M.sat_bind.mp q).mono fun d q1 a vs ds H1 hd e1 hn hl r1 => ?_⟩
  subst hd
  obtain ⟨hd, q1⟩ := sat_if q1
  have w := r.wf.ext e1
  refine q1 a vs ds H1 rfl e1 hn hl (rpAll_noL (fun b m => ?_) r1 hd)
  rcases List.mem_cons.mp m with rfl | m
  · exact ⟨_, hl, trivial⟩
  · exact w.occ b m
theorem el_frzD (h : EvL G N sc k (frz env) e me) : EvL G N sc k env e (me.bind flatL) :=
  ⟨fun X hX P O => PE_imp (h.run X hX P P) fun σ H Q h => tL_frz h⟩
theorem ec_frzD {elt tg iter : Expr} {ifs : List Expr} {scope : Scope} (h : EvC G N sc k (frz env) elt tg iter ifs scope me) : EvC G N sc k env elt tg iter ifs scope (me.bind flatL) :=
  ⟨fun X hX => by
    obtain ⟨wi, g, tt, te, own, h1, h2, h3, h4, h5, h6⟩ := h.gen X hX
    exact ⟨wi, g, tt, te, own, h1, h2, h3, h4, h5, fun σ H Q ⟨P, O, q⟩ => h6 σ H Q ⟨P, P, tL_frz q⟩⟩, h.hs⟩
/-! ### max(xs), min(xs) of whole numbers -/
def maxI : List Int → Int
  | [] => 0
  | [a] => a
  | a :: l => max a (maxI l)
def minI : List Int → Int
  | [] => 0
  | [a] => a
  | a :: l => min a (minI l)
theorem maxI_mem : ∀ {l : List Int}, l ≠ [] → maxI l ∈ l ∧ ∀ y ∈ l, y ≤ maxI l
  | [], h => absurd rfl h
  | [a], _ => ⟨List.mem_cons_self, fun y m => by rw [List.mem_singleton.mp m]; exact Int.le_refl _⟩
  | a :: b :: l, _ => by
    obtain ⟨h1, h2⟩ := maxI_mem (l := b :: l) (by simp)
    have e : maxI (a :: b :: l) = max a (maxI (b :: l)) := rfl
    rw [e]
    refine ⟨?_, fun y m => ?_⟩
    · rcases Int.le_total a (maxI (b :: l)) with z | z
      · rw [Int.max_eq_right z]; exact List.mem_cons_of_mem _ h1
      · rw [Int.max_eq_left z]; exact List.mem_cons_self
    · rcases List.mem_cons.mp m with rfl | m
      · exact Int.le_max_left _ _
      · exact Int.le_trans (h2 y m) (Int.le_max_right _ _)
theorem minI_mem : ∀ {l : List Int}, l ≠ [] → minI l ∈ l ∧ ∀ y ∈ l, minI l ≤ y
  | [], h => absurd rfl h
  | [a], _ => ⟨List.mem_cons_self, fun y m => by rw [List.mem_singleton.mp m]; exact Int.le_refl _⟩
  | a :: b :: l, _ => by
    obtain ⟨h1, h2⟩ := minI_mem (l := b :: l) (by simp)
    have e : minI (a :: b :: l) = min a (minI (b :: l)) := rfl
    rw [e]
    refine ⟨?_, fun y m => ?_⟩
    · rcases Int.le_total a (minI (b :: l)) with z | z
      · rw [Int.min_eq_left z]; exact List.mem_cons_self
      · rw [Int.min_eq_right z]; exact List.mem_cons_of_mem _ h1
    · rcases List.mem_cons.mp m with rfl | m
      · exact Int.min_le_left _ _
      · exact Int.le_trans (Int.min_le_right _ _) (h2 y m)
def bMaxL : List PyData → M PyData
  | [.list ds] => match intsOf ds with
    | some ns => if ns ≠ [] then .ok (.int (maxI ns)) else .err
    | none => .err
  | _ => .err
def bMinL : List PyData → M PyData
  | [.list ds] => match intsOf ds with
    | some ns => if ns ≠ [] then .ok (.int (minI ns)) else .err
    | none => .err
  | _ => .err
theorem cd_maxL : CalD G k (.builtin "max") bMaxL := fun N sc X hX => callr_imp (cr_max hX.calm) fun vs H Q h => by
  obtain ⟨P, O, ds, w, r, q⟩ := h
  match ds, r, q with
  | [.list xs], r, q =>
    obtain ⟨v, rfl, r1⟩ := rp1 r
    cases r1 with
    | lst h1 a1 =>
      unfold bMaxL at q
      dsimp only at q
      cases hi : intsOf xs with
      | none => rw [hi] at q; exact q.elim
      | some ns =>
        rw [hi] at q
        obtain ⟨hne, q⟩ := sat_if q
        have e := ints_rp a1 hi
        subst e
        obtain ⟨m1, m2⟩ := maxI_mem hne
        rw [hX.eK]
        refine ⟨_, ns, rfl, SqL.of (msk_some h1).2, List.length_pos_iff.mpr hne, fun m hm hle => ?_⟩
        have : m = maxI ns := Int.le_antisymm (m2 m hm) (hle _ m1)
        subst this
        exact q _ H Ext.refl (.int _)
theorem cd_minL : CalD G k (.builtin "min") bMinL := fun N sc X hX => callr_imp (cr_min hX.calm) fun vs H Q h => by
  obtain ⟨P, O, ds, w, r, q⟩ := h
  match ds, r, q with
  | [.list xs], r, q =>
    obtain ⟨v, rfl, r1⟩ := rp1 r
    cases r1 with
    | lst h1 a1 =>
      unfold bMinL at q
      dsimp only at q
      cases hi : intsOf xs with
      | none => rw [hi] at q; exact q.elim
      | some ns =>
        rw [hi] at q
        obtain ⟨hne, q⟩ := sat_if q
        have e := ints_rp a1 hi
        subst e
        obtain ⟨m1, m2⟩ := minI_mem hne
        rw [hX.eK]
        refine ⟨_, ns, rfl, SqL.of (msk_some h1).2, List.length_pos_iff.mpr hne, fun m hm hle => ?_⟩
        have : m = minI ns := Int.le_antisymm (hle _ m1) (m2 m hm)
        subst this
        exact q _ H Ext.refl (.int _)
/-! ### ys.append(xs.pop(e)) -/
def pPopAt (ds : List PyData) (i : PyData) : Option (PyData × List PyData) := match i with
  | .int j => if ds.length ≤ sizeLine then match ixN ds.length j with
    | some n => match ds[n]? with
      | some d => some (d, ds.eraseIdx n)
      | none => none
    | none => none
    else none
  | _ => none
theorem rpAll_erase {K : PySem.W.Frag} {h : Hp} : ∀ {vs : List V} {ds : List PyData} (n : Nat), RpAll K h vs ds → RpAll K h (vs.eraseIdx n) (ds.eraseIdx n)
  | _, _, _, .nil => .nil
  | _, _, 0, .cons _ r => r
  | _, _, n + 1, .cons q r => .cons q (rpAll_erase n r)
theorem popAt_some {ds es : List PyData} {i d : PyData} (h : pPopAt ds i = some (d, es)) : ∃ j n, i = .int j ∧ ds.length ≤ sizeLine ∧ ixN ds.length j = some n ∧ ds[n]? = some d ∧ es = ds.eraseIdx n := by
  unfold pPopAt at h
  cases i with
  | int j =>
    dsimp only at h
    by_cases hz : ds.length ≤ sizeLine
    · rw [if_pos hz] at h
      cases h1 : ixN ds.length j with
      | none => rw [h1] at h; cases h
      | some n =>
        rw [h1] at h
        dsimp only at h
        cases h2 : ds[n]? with
        | none => rw [h2] at h; cases h
        | some d' =>
          rw [h2] at h
          cases h
          exact ⟨j, n, rfl, hz, h1, h2, rfl⟩
    · rw [if_neg hz] at h; cases h
  | _ => cases h
def popK {α : Type} (o : Option (PyData × List PyData)) (f : PyData → List PyData → M α) : M α := match o with
  | some (d, es) => f d es
  | none => .err
theorem popK_sat {α : Type} {o : Option (PyData × List PyData)} {f : PyData → List PyData → M α} {Q : α → Prop} (h : (popK o f).Sat Q) : ∃ d es, o = some (d, es) ∧ (f d es).Sat Q := by
  match o, h with
  | some (d, es), h => exact ⟨d, es, rfl, h⟩
theorem es_appPop {p4 p5 : Pos} (i j : Nat) {ds es : List PyData} {kl : PyData → List PyData → M ρ} (he : env[i]? = some (.ow ds)) (he2 : env[j]? = some (.ow es)) (ha : EvE G N sc k env e me) (hr : ∀ d es', EvS G N sc k ((env.set j (.ow es')).set i (.ow (ds ++ [d]))) rest (kl d es') I) (hij : i ≠ j := by decide)
    (hN : N[i]? = some x := by rfl) (hv : Vis sc x := by first | exact Or.inl rfl | exact Or.inr (Or.inl rfl) | exact Or.inr (Or.inr rfl)) (hN2 : N[j]? = some y := by rfl) (hv2 : Vis sc y := by first | exact Or.inl rfl | exact Or.inr (Or.inl rfl) | exact Or.inr (Or.inr rfl))
    (hd : (x == ("__debug__" : Str)) = false := by decide) (hcd : (x == ("__classdict__" : Str)) = false := by decide) (hd2 : (y == ("__debug__" : Str)) = false := by decide) (hcd2 : (y == ("__classdict__" : Str)) = false := by decide) (hline : (apos.endLine == pos.line) = true := by rfl) (hline2 : (p4.endLine == p5.line) = true := by rfl) (hn : notStar e = true := by rfl) :
    EvS G N sc k env (.Expr (.Call (.Attribute (.Name x p) "append" apos) [.Call (.Attribute (.Name y p3) "pop" p4) [e] [] p5] [] pos) p2 :: rest) (me.bind fun u => popK (pPopAt es u) fun d es' => if ds.length < sizeLine then kl d es' else .err) I :=
  ⟨fun X hX P0 O0 H0 Kx => by
    have o := hX.ok
    refine pss_step (ps_expr (pe_bm PySem.F.plainAttrs_list PySem.F.slot_list_append PySem.F.type_list_append mt_append (pe_var (i := i) (by rw [o.eN]; exact hN) (by rw [o.eSc]; exact hv) hd hcd) (pa_cons (pe_bm PySem.F.plainAttrs_list PySem.F.slot_list_pop PySem.F.type_list_pop mt_popAt (pe_var (i := j) (by rw [o.eN]; exact hN2) (by rw [o.eSc]; exact hv2) hd2 hcd2) (pa_cons (PE_some fun q : List Addr × List Addr => ha.run X o q.1 q.2) pa_nil (star_no hn)) (hline := hline2) (hs := star_no hn) (hfew := by rw [star_no hn]; rfl) (hplain := rfl)) pa_nil) (hline := hline))) (fun u : PyData × List PyData => (hr u.1 u.2).run X hX P0 O0 H0 Kx) fun D σ H ⟨s, q⟩ => ?_
    obtain ⟨P, O, s⟩ := s
    obtain ⟨a, vs, z1, z2, z3, z4, z5⟩ := own_at s.r he
    obtain ⟨b, ws, y1, y2, y3, y4, y5⟩ := own_at s.r he2
    refine ⟨_, z1, .inl ⟨rfl, vs, SqL.of z4⟩, _, y1, .inl ⟨rfl, ws, SqL.of y4⟩, (P, O), s.r, (M.sat_bind.mp q).mono fun u q1 v H1 e1 r1 => ?_⟩
    have s1 := s.ext e1
    obtain ⟨b', ws', x1, x2, x3, x4, x5⟩ := own_at s1.r he2
    rw [y1] at x1; cases x1
    obtain ⟨d, es', hp, q1⟩ := popK_sat q1
    obtain ⟨jj, n, rfl, hz, hix, hg, rfl⟩ := popAt_some hp
    obtain ⟨hl, q1⟩ := sat_if q1
    cases r1
    have hlen := rpAll_length x5
    obtain ⟨w, hw, rw_⟩ := rpAll_get' x5 hg
    rw [← hlen] at hix hz
    obtain ⟨f1, f2, f3, f4⟩ := ixN_seq hix
    have sz : sizeLine = 16777216 := by decide +kernel
    have s2 := s1.mut he2 y1 (rpAll_erase n x5)
    have he' : (env.set j (.ow (es.eraseIdx n)))[i]? = some (.ow ds) := by rw [List.getElem?_set_ne (Ne.symm hij)]; exact he
    obtain ⟨a', vs', u1, u2, u3, u4, u5⟩ := own_at s2.r he'
    rw [z1] at u1; cases u1
    have hm : Kp (msk O H1) (msk O (upd H1 b (.lst (ws'.eraseIdx n)))) := fun c o q t => by
      obtain ⟨h1, h2⟩ := msk_some q
      rw [msk_out h1, upd_ne (fun e : c = b => h1 (by rw [e]; exact x2))]
      exact h2
    exact ⟨b, ws', jj, n, w, rfl, rfl, x4, by omega, by omega, f1, hw, a, vs', w, rfl, rfl, u4, by rw [rpAll_length u5]; exact hl, (d, es.eraseIdx n), ⟨P, O, s2.mut he' z1 (rpAll_append u5 (.cons (rp_mono hm rw_) .nil))⟩, q1⟩⟩
variable {α β γ δ : Type} {a b c d : Expr} {m1 : M α} {m2 : M β} {m3 : M γ} {m4 : M δ} {s1 : α → Slot} {s2 : β → Slot} {s3 : γ → Slot} {s4 : δ → Slot} {z t : Str} {px py pz pt pw : Pos}
theorem es_tup3 {kt k2 : Nat} {pt2 : Pos} {kk : α → β → γ → M ρ} (i j l : Nat) (h1 : EvP G N sc k env a m1 s1) (h2 : EvP G N sc k env b m2 s2) (h3 : EvP G N sc k env c m3 s3) (hr : ∀ u w t, EvS G N sc k (((env.set i (s1 u)).set j (s2 w)).set l (s3 t)) rest (kk u w t) I) (hs1 : HasSlot s1 := by intro _ h; cases h) (hs2 : HasSlot s2 := by intro _ h; cases h) (hs3 : HasSlot s3 := by intro _ h; cases h)
    (hw : swappedStores [.Tuple [.Name x px, .Name y py, .Name z pz] kt pt] (.Tuple [a, b, c] k2 pt2) (envSc sc) = pure none := by rfl) (hN : N[i]? = some x := by rfl) (hl : Loc sc x := by first | exact Or.inl rfl | exact Or.inr rfl) (hi : i < env.length := by exact Nat.le_of_ble_eq_true rfl) (hN2 : N[j]? = some y := by rfl) (hl2 : Loc sc y := by first | exact Or.inl rfl | exact Or.inr rfl) (hj : j < env.length := by exact Nat.le_of_ble_eq_true rfl)
    (hN3 : N[l]? = some z := by rfl) (hl3 : Loc sc z := by first | exact Or.inl rfl | exact Or.inr rfl) (hll : l < env.length := by exact Nat.le_of_ble_eq_true rfl) (hn1 : notStar a = true := by rfl) (hn2 : notStar b = true := by rfl) (hn3 : notStar c = true := by rfl) :
    EvS G N sc k env (.Assign [.Tuple [.Name x px, .Name y py, .Name z pz] kt pt] (.Tuple [a, b, c] k2 pt2) pos :: rest) (m1.bind fun u => m2.bind fun w => m3.bind fun t => kk u w t) I :=
  ⟨fun X hX P0 O0 H0 Kx => by
    have o := hX.ok
    refine pss_step (ps_asg (pe_tup (pa_cons (PE_some fun q : List Addr × List Addr => h1.run X o q.1 q.2) (pa_cons (PE_some fun q : List Addr × List Addr => h2.run X o q.1 q.2) (pa_cons (PE_some fun q : List Addr × List Addr => h3.run X o q.1 q.2) pa_nil (star_no hn3)) (star_no hn2)) (star_no hn1)))
      (pg_tup o.calm (pgs_cons (pg_name (i := i) (by rw [o.eN]; exact o.nd) (by rw [o.eN]; exact hN) (by rw [o.eSc]; exact hl) (.inl (hX.fn x))) (pgs_cons (pg_name (i := j) (by rw [o.eN]; exact o.nd) (by rw [o.eN]; exact hN2) (by rw [o.eSc]; exact hl2) (.inl (hX.fn y))) (pgs_cons (pg_name (i := l) (by rw [o.eN]; exact o.nd) (by rw [o.eN]; exact hN3) (by rw [o.eSc]; exact hl3) (.inl (hX.fn z))) pgs_nil)))) rfl (sw_env hw _ o.eSc)) (fun u : α × β × γ => (hr u.1 u.2.1 u.2.2).run X hX P0 O0 H0 Kx) fun D σ H ⟨s, q⟩ => ?_
    obtain ⟨P, O, s⟩ := s
    refine ⟨(P, O), s.r, sat_goes (M.sat_bind.mp q) (fun u q1 v H1 O1 g1 => ?_) hs1⟩
    have r1 := g1.more s.r
    refine ⟨(P, O1), r1, sat_goes (M.sat_bind.mp q1) (fun w q2 v2 H2 O2 g2 => ?_) hs2⟩
    refine ⟨(P, O2), g2.more r1, sat_goes (M.sat_bind.mp q2) (fun t q3 v3 H3 O3 g3 => ?_) hs3⟩
    refine ⟨by show 3 ≤ sizeLine; decide, fun q hq => ⟨q, [v, v2, v3], rfl, SqT.of upd_same, rfl, v, [v2, v3], rfl, v2, [v3], rfl, v3, [], rfl, rfl, (u, w, t), ⟨P, O3, (g3.at (g2.at (g1.at s hi) (by rw [List.length_set]; exact hj)) (by rw [List.length_set, List.length_set]; exact hll)).ext (Ext.new hq)⟩, q3⟩⟩⟩
theorem es_tup4 {kt k2 : Nat} {pt2 : Pos} {kk : α → β → γ → δ → M ρ} (i j l o' : Nat) (h1 : EvP G N sc k env a m1 s1) (h2 : EvP G N sc k env b m2 s2) (h3 : EvP G N sc k env c m3 s3) (h4 : EvP G N sc k env d m4 s4) (hr : ∀ u w t v, EvS G N sc k ((((env.set i (s1 u)).set j (s2 w)).set l (s3 t)).set o' (s4 v)) rest (kk u w t v) I) (hs1 : HasSlot s1 := by intro _ h; cases h) (hs2 : HasSlot s2 := by intro _ h; cases h) (hs3 : HasSlot s3 := by intro _ h; cases h) (hs4 : HasSlot s4 := by intro _ h; cases h)
    (hw : swappedStores [.Tuple [.Name x px, .Name y py, .Name z pz, .Name t pw] kt pt] (.Tuple [a, b, c, d] k2 pt2) (envSc sc) = pure none := by rfl) (hN : N[i]? = some x := by rfl) (hl : Loc sc x := by first | exact Or.inl rfl | exact Or.inr rfl) (hi : i < env.length := by exact Nat.le_of_ble_eq_true rfl) (hN2 : N[j]? = some y := by rfl) (hl2 : Loc sc y := by first | exact Or.inl rfl | exact Or.inr rfl) (hj : j < env.length := by exact Nat.le_of_ble_eq_true rfl)
    (hN3 : N[l]? = some z := by rfl) (hl3 : Loc sc z := by first | exact Or.inl rfl | exact Or.inr rfl) (hll : l < env.length := by exact Nat.le_of_ble_eq_true rfl) (hN4 : N[o']? = some t := by rfl) (hl4 : Loc sc t := by first | exact Or.inl rfl | exact Or.inr rfl) (hl4l : o' < env.length := by exact Nat.le_of_ble_eq_true rfl) (hn1 : notStar a = true := by rfl) (hn2 : notStar b = true := by rfl) (hn3 : notStar c = true := by rfl) (hn4 : notStar d = true := by rfl) :
    EvS G N sc k env (.Assign [.Tuple [.Name x px, .Name y py, .Name z pz, .Name t pw] kt pt] (.Tuple [a, b, c, d] k2 pt2) pos :: rest) (m1.bind fun u => m2.bind fun w => m3.bind fun t => m4.bind fun v => kk u w t v) I :=
  ⟨fun X hX P0 O0 H0 Kx => by
    have o := hX.ok
    refine pss_step (ps_asg (pe_tup (pa_cons (PE_some fun q : List Addr × List Addr => h1.run X o q.1 q.2) (pa_cons (PE_some fun q : List Addr × List Addr => h2.run X o q.1 q.2) (pa_cons (PE_some fun q : List Addr × List Addr => h3.run X o q.1 q.2) (pa_cons (PE_some fun q : List Addr × List Addr => h4.run X o q.1 q.2) pa_nil (star_no hn4)) (star_no hn3)) (star_no hn2)) (star_no hn1)))
      (pg_tup o.calm (pgs_cons (pg_name (i := i) (by rw [o.eN]; exact o.nd) (by rw [o.eN]; exact hN) (by rw [o.eSc]; exact hl) (.inl (hX.fn x))) (pgs_cons (pg_name (i := j) (by rw [o.eN]; exact o.nd) (by rw [o.eN]; exact hN2) (by rw [o.eSc]; exact hl2) (.inl (hX.fn y))) (pgs_cons (pg_name (i := l) (by rw [o.eN]; exact o.nd) (by rw [o.eN]; exact hN3) (by rw [o.eSc]; exact hl3) (.inl (hX.fn z))) (pgs_cons (pg_name (i := o') (by rw [o.eN]; exact o.nd) (by rw [o.eN]; exact hN4) (by rw [o.eSc]; exact hl4) (.inl (hX.fn t))) pgs_nil))))) rfl (sw_env hw _ o.eSc)) (fun u : α × β × γ × δ => (hr u.1 u.2.1 u.2.2.1 u.2.2.2).run X hX P0 O0 H0 Kx) fun D σ H ⟨s, q⟩ => ?_
    obtain ⟨P, O, s⟩ := s
    refine ⟨(P, O), s.r, sat_goes (M.sat_bind.mp q) (fun u q1 v H1 O1 g1 => ?_) hs1⟩
    have r1 := g1.more s.r
    refine ⟨(P, O1), r1, sat_goes (M.sat_bind.mp q1) (fun w q2 v2 H2 O2 g2 => ?_) hs2⟩
    have r2 := g2.more r1
    refine ⟨(P, O2), r2, sat_goes (M.sat_bind.mp q2) (fun t q3 v3 H3 O3 g3 => ?_) hs3⟩
    refine ⟨(P, O3), g3.more r2, sat_goes (M.sat_bind.mp q3) (fun t4 q4 v4 H4 O4 g4 => ?_) hs4⟩
    refine ⟨by show 4 ≤ sizeLine; decide, fun q hq => ⟨q, [v, v2, v3, v4], rfl, SqT.of upd_same, rfl, v, [v2, v3, v4], rfl, v2, [v3, v4], rfl, v3, [v4], rfl, v4, [], rfl, rfl, (u, w, t, t4), ⟨P, O4, (g4.at (g3.at (g2.at (g1.at s hi) (by rw [List.length_set]; exact hj)) (by rw [List.length_set, List.length_set]; exact hll)) (by rw [List.length_set, List.length_set, List.length_set]; exact hl4l)).ext (Ext.new hq)⟩, q4⟩⟩⟩
end
end Ev

set_option Elab.async false
set_option linter.all false
set_option autoImplicit false
set_option maxRecDepth 100000
set_option maxHeartbeats 2000000
namespace Ev
open PySem PySem.Spec L2 LamX PyProof.Rows

/-! ### texts and tuples of the module's own top -/
section
variable {G : Glb} {N : List Str} {sc : Scope} {k : Lv} {env : Slots} {pos p p2 p3 apos : Pos} {e e2 : Expr} {es : List Expr} {me me2 : M PyData} {ms : M (List PyData)} {x y : Str} {ρ : Type} {rest : List Stmt} {I : ρ → Outc}
theorem ev_globS {z : Str} (hm : ∃ t, G.mg x = some (.str z t)) (hg : sc.names.lookup x = some .globalImplicit := by rfl) (hd : (x == ("__debug__" : Str)) = false := by decide) : EvE G N sc k env (.Name x pos) (.ok (.str z)) := by
  obtain ⟨t, hm⟩ := hm
  exact ⟨fun X hX P O => PE_imp (pe_glob (by show X.env.scope.names.lookup x = _; rw [hX.eSc]; exact hg) (by rw [hX.eMg]; exact hm) (v := .str z) ⟨t, rfl⟩ hd) fun σ H Q ⟨r, q⟩ => q _ H Ext.refl (.str z)⟩
/-- the value v of the module's top is the data d -/
def isB : Value → PyData → Bool
  | .int i _, .int j => decide (i = j)
  | .str x _, .str y => decide (x = y)
  | .bool a, .bool b => decide (a = b)
  | .none, .none => true
  | _, _ => false
def isAll (f : Value → PyData → Bool) : List Value → List PyData → Bool
  | [], [] => true
  | v :: vs, d :: ds => f v d && isAll f vs ds
  | _, _ => false
def isT (K : PySem.W.Frag) (f : Value → PyData → Bool) (v : Value) (d : PyData) : Bool := match v, d with
  | .ref a, .tuple ds => match K.lookup a with
    | some ⟨.type "tuple", _, .seq vs _, _⟩ => decide (vs.size ≤ sizeLine) && isAll f vs.toList ds
    | _ => false
  | _, _ => false
def isD (K : PySem.W.Frag) : Nat → Value → PyData → Bool
  | 0, v, d => isB v d
  | n + 1, v, d => isB v d || isT K (isD K n) v d
theorem isB_rp {K : PySem.W.Frag} {v : Value} {d : PyData} (e : isB v d = true) : ∃ x, L2.RelV x v ∧ ∀ h : Hp, Rp K h x d := by
  unfold isB at e
  split at e
  · have e := of_decide_eq_true e
    subst e
    exact ⟨.int _, ⟨_, rfl⟩, fun _ => .int _⟩
  · have e := of_decide_eq_true e
    subst e
    exact ⟨.str _, ⟨_, rfl⟩, fun _ => .str _⟩
  · have e := of_decide_eq_true e
    subst e
    exact ⟨.bl _, rfl, fun _ => .bl _⟩
  · exact ⟨.non, rfl, fun _ => .non⟩
  · cases e
theorem isAll_rp {K : PySem.W.Frag} {f : Value → PyData → Bool} (ih : ∀ v d, f v d = true → ∃ x, L2.RelV x v ∧ ∀ h : Hp, Rp K h x d) : ∀ {vs : List Value} {ds : List PyData}, isAll f vs ds = true → ∃ xs, Vals xs vs ∧ ∀ h : Hp, RpAll K h xs ds
  | [], [], _ => ⟨[], .nil, fun _ => .nil⟩
  | v :: vs, d :: ds, e => by
    unfold isAll at e
    obtain ⟨h1, h2⟩ := Bool.and_eq_true_iff.mp e
    obtain ⟨x, r1, q1⟩ := ih v d h1
    obtain ⟨xs, r2, q2⟩ := isAll_rp ih h2
    exact ⟨x :: xs, .cons r1 r2, fun h => .cons (q1 h) (q2 h)⟩
theorem isT_rp {K : PySem.W.Frag} {f : Value → PyData → Bool} (ih : ∀ v d, f v d = true → ∃ x, L2.RelV x v ∧ ∀ h : Hp, Rp K h x d) {v : Value} {d : PyData} (e : isT K f v d = true) : ∃ x, L2.RelV x v ∧ ∀ h : Hp, Rp K h x d := by
  unfold isT at e
  split at e
  · split at e
    · rename_i a ds _ dd vs m sl hk
      obtain ⟨h1, h2⟩ := Bool.and_eq_true_iff.mp e
      obtain ⟨xs, hx, hr⟩ := isAll_rp ih h2
      exact ⟨.ref a, rfl, fun h => .tup (.inr ⟨_, vs, m, hk, rfl, rfl, of_decide_eq_true h1, hx⟩) (hr h)⟩
    · cases e
  · cases e
theorem isD_rp {K : PySem.W.Frag} : ∀ {n : Nat} {v : Value} {d : PyData}, isD K n v d = true → ∃ x, L2.RelV x v ∧ ∀ h : Hp, Rp K h x d
  | 0, _, _, e => isB_rp e
  | n + 1, v, d, e => by
    unfold isD at e
    rcases Bool.or_eq_true_iff.mp e with e | e
    · exact isB_rp e
    · exact isT_rp (fun _ _ e => isD_rp e) e
theorem ev_globD {d : PyData} {n : Nat} (hm : ∃ v, G.mg x = some v ∧ isD G.K n v d = true) (hg : sc.names.lookup x = some .globalImplicit := by rfl) (hd : (x == ("__debug__" : Str)) = false := by decide) : EvE G N sc k env (.Name x pos) (.ok d) := by
  obtain ⟨v, hm, hi⟩ := hm
  obtain ⟨u, r1, q1⟩ := isD_rp hi
  exact ⟨fun X hX P O => PE_imp (pe_glob (by show X.env.scope.names.lookup x = _; rw [hX.eSc]; exact hg) (by rw [hX.eMg]; exact hm) r1 hd) fun σ H Q ⟨r, q⟩ => q _ H Ext.refl (q1 _)⟩
/-! ### tuple(range(a, b)) -/
def bRgT2 (d e : PyData) : M PyData := match d, e with
  | .int i, .int j => if 0 ≤ i ∧ i ≤ 16777216 ∧ 0 ≤ j ∧ j ≤ 16777216 then .ok (.tuple (rangeD i (j - i).toNat)) else .err
  | _, _ => .err
def bRgL2 (d e : PyData) : M PyData := match d, e with
  | .int i, .int j => if 0 ≤ i ∧ i ≤ 16777216 ∧ 0 ≤ j ∧ j ≤ 16777216 then .ok (.list (rangeD i (j - i).toNat)) else .err
  | _, _ => .err
theorem ev_tupRg2 (he : EvE G N sc k env e me) (he2 : EvE G N sc k env e2 me2) (hm : G.mg "tuple" = none) (hm2 : G.mg "range" = none) (hg : sc.names.lookup ("tuple" : Str) = some .globalImplicit := by rfl) (hg2 : sc.names.lookup ("range" : Str) = some .globalImplicit := by rfl) (h1 : notStar e = true := by rfl) (h2 : notStar e2 = true := by rfl) :
    EvE G N sc k env (.Call (.Name "tuple" p) [.Call (.Name "range" p2) [e, e2] [] p3] [] pos) (me.bind fun x => me2.bind fun y => bRgT2 x y) :=
  ⟨fun X hX P O => PE_imp (pe_tupRg hX.calm (by show X.env.scope.names.lookup _ = _; rw [hX.eSc]; exact hg) (by rw [hX.eMg]; exact hm) (prg_2 (by show X.env.scope.names.lookup _ = _; rw [hX.eSc]; exact hg2) (by rw [hX.eMg]; exact hm2) (he.run X hX P O) (he2.run X hX P O) (star_no h1) (star_no h2) (by rw [star_no h2]; rfl))) fun σ H Q ⟨r, q⟩ => by
    refine ⟨r, (M.sat_bind.mp q).mono fun d q1 v H1 e1 r1 => ⟨r.ext e1, (M.sat_bind.mp q1).mono fun d2 q2 v2 H2 e2 r2 => ?_⟩⟩
    have w2 := (r.wf.ext e1).ext e2
    match d, d2, r1, r2, q2 with
    | .int i, .int j, .int _, .int _, q2 =>
      obtain ⟨hc, q3⟩ := sat_if q2
      have ok : RgOk i j := .of_le (by omega) (by omega) (by omega) (by omega)
      exact ⟨i, j, rfl, rfl, ok, fun p0 hp => q3 _ _ ((e1.trans e2).trans (Ext.new hp)) (.tup (SqT.of (msk_upd (w2.fresh hp))) (rp_range i _))⟩⟩
theorem el_listRg2 (he : EvE G N sc k env e me) (he2 : EvE G N sc k env e2 me2) (hm : G.mg "list" = none) (hm2 : G.mg "range" = none) (hg : sc.names.lookup ("list" : Str) = some .globalImplicit := by rfl) (hg2 : sc.names.lookup ("range" : Str) = some .globalImplicit := by rfl) (h1 : notStar e = true := by rfl) (h2 : notStar e2 = true := by rfl) :
    EvL G N sc k env (.Call (.Name "list" p) [.Call (.Name "range" p2) [e, e2] [] p3] [] pos) (me.bind fun x => me2.bind fun y => bRgL2 x y) :=
  ⟨fun X hX P O => PE_imp (pe_listRg hX.calm (by show X.env.scope.names.lookup _ = _; rw [hX.eSc]; exact hg) (by rw [hX.eMg]; exact hm) (prg_2 (by show X.env.scope.names.lookup _ = _; rw [hX.eSc]; exact hg2) (by rw [hX.eMg]; exact hm2) (he.run X hX P O) (he2.run X hX P O) (star_no h1) (star_no h2) (by rw [star_no h2]; rfl))) fun σ H Q ⟨r, q⟩ => by
    refine ⟨r, (M.sat_bind.mp q).mono fun d q1 v H1 e1 r1 => ⟨r.ext e1, (M.sat_bind.mp q1).mono fun d2 q2 v2 H2 e2 r2 => ?_⟩⟩
    match d, d2, r1, r2, q2 with
    | .int i, .int j, .int _, .int _, q2 =>
      obtain ⟨hc, q3⟩ := sat_if q2
      have ok : RgOk i j := .of_le (by omega) (by omega) (by omega) (by omega)
      exact ⟨i, j, rfl, rfl, ok, fun p0 hp => q3 p0 _ _ _ rfl ((e1.trans e2).trans (Ext.new hp)) ((e1.trans e2).back hp) upd_same (rp_range i _)⟩⟩
end
end Ev

set_option Elab.async false
set_option linter.all false
set_option autoImplicit false
set_option maxRecDepth 100000
set_option maxHeartbeats 2000000
namespace Ev
open PySem PySem.Spec L2 LamX PyProof.Rows

/-! ### f(a new pot, ..) -/
section
variable {G : Glb} {N : List Str} {sc : Scope} {k : Lv} {env : Slots} {pos p p2 p3 apos : Pos} {e e2 : Expr} {es : List Expr} {me me2 : M PyData} {ms : M (List PyData)} {mas : M (List AV)} {x y : Str}
theorem relAs_pots {P O : List Addr} {H : Hp} {a : Addr} : ∀ {vs : List V} {as : List AV}, RelAs G P O H vs as → RelAs G (a :: P) O H vs as
  | [], [], h => h
  | v :: vs, b :: as, h => ⟨by
      cases b with
      | d x => exact h.1
      | p => obtain ⟨c, m, e⟩ := h.1; exact ⟨c, List.mem_cons_of_mem _ m, e⟩
      | s ns => exact h.1
      | c k f => exact h.1, relAs_pots h.2⟩
  | [], _ :: _, h => h.elim
  | _ :: _, [], h => h.elim
theorem pot_at {K : PySem.W.Frag} {h H : Hp} {a : Addr} {vs : List V} {ds : List PyData} (z : H a = some (.lst vs)) (r : RpAll K h vs ds) (hp : potOk ds = true) : PotAt H a := by
  unfold potOk at hp
  split at hp
  · obtain ⟨v, w, rfl, r1, r2⟩ := rp2 r
    cases r1; cases r2
    obtain ⟨h1, h2, h3⟩ := of_decide_eq_true hp
    exact ⟨_, _, z, h1, h2, h3⟩
  · cases hp
theorem Ext.less {T : List (Addr × Str)} {P : List Addr} {H H1 H2 : Hp} {a : Addr} (e : Ext T P H H1) (hn : Fr0 H a) (e2 : Ext T (a :: P) H1 H2) : Ext T P H H2 :=
  ⟨fun b o q n t => e2.keep b o (e.keep b o q n t) (fun m => (List.mem_cons.mp m).elim (fun z => by subst z; exact hn _ q t) n) t, fun b m q => e2.pots b (List.mem_cons_of_mem _ m) (e.pots b m q), fun b o q t => by
    obtain ⟨o', q', t'⟩ := e.dom b o q t
    exact e2.dom b o' q' t', fun t => e2.tab (e.tab t)⟩
theorem PA_some {X : Cx} {es : List Expr} {ι : Type} {t : ι → TA} (h : ∀ i, PA X es (t i)) : PA X es fun σ H Q => ∃ i, t i σ H Q := ⟨fun pos pins s σ H Q I ⟨i, q⟩ => (h i).run pos pins s σ H Q I q⟩
theorem ev_callPot {j n : Nat} {st : Stmt} {ps : List Str} {f : List AV → M PyData} (F : FnD G j x st ps (spF G n f)) (hb : BindN x st ps) (he : EvL G N sc k env e me) (ha : EvAs G N sc k env es mas) (hn : ps.length = n := by rfl) (hj : j ≤ k.n := by exact Nat.le_of_ble_eq_true rfl) (hg : sc.names.lookup x = some .globalImplicit := by rfl) (hdb : (x == ("__debug__" : Str)) = false := by decide) (h1 : notStar e = true := by rfl) (h2 : es.all notStar = true := by rfl) :
    EvE G N sc k env (.Call (.Name x p) (e :: es) [] pos) (me.bind fun d => onL d fun ds => mas.bind fun as => if potOk ds = true ∧ as.length + 1 = n then f (.p :: as) else .err) :=
  ⟨fun X hX P O => ⟨fun pins s σ H Q I ⟨r, q⟩ => by
    obtain ⟨fa, fd, hm, FD, FO⟩ := F.ex
    refine wpAny_Call_Name_kw (ld_glob I (x := x) (by show X.env.scope.names.lookup x = _; rw [hX.eSc]; exact hg) (by rw [hX.eMg]; exact hm) ?_ hdb)
    refine PySem.W.callWith_K (h₀ := X.base) I.ok.mod.kin (by rw [hX.eK]; exact FD.kp) (thn ((pa_cons (he.run X hX P O) (PA_some fun a : Addr => ha.run X hX P (a :: O)) (star_no h1)).run pos pins s σ H (fun vs H1 => vs.length = n ∧ spF G n f vs H1 Q E0) I ⟨r, (M.sat_bind.mp q).mono fun d q1 a vs ds H1 hd e1 hn' hl r1 => ?_⟩) fun us s1 ⟨vs, H1, I1, rv, hlen, q1⟩ => ⟨I1.kIn, ?_⟩) (star_no h1) (noStars h2)
    · subst hd
      have rm := r.more e1 hn' ⟨_, hl, trivial⟩
      refine ⟨a, rm, (M.sat_bind.mp q1).mono fun as q2 ws H2 e2 r2 => ?_⟩
      obtain ⟨⟨hp, hlen⟩, q3⟩ := sat_if q2
      have naP : a ∉ P := fun m => (r.wf.freshF hn') (r.wf.pots a m).1
      have pa : PotAt H2 a := by
        obtain ⟨u, w, z, rest⟩ := pot_at hl r1 hp
        exact ⟨u, w, e2.keep _ _ z naP trivial, rest⟩
      have w2 := rm.wf.ext e2
      have hl2 : (V.ref a :: ws).length = n := by rw [List.length_cons, relAs_len r2]; exact hlen
      refine ⟨hl2, hl2, a :: P, a :: O, .p :: as, ⟨fun b m => ?_, w2.occ⟩, tabs_ext e2 rm.tabs, ⟨⟨a, List.mem_cons_self, rfl⟩, relAs_pots r2⟩, q3.mono fun d h v H' e' rv => h v H' ((e1.trans e2).less hn' e') (rp_mono kp_less rv)⟩
      rcases List.mem_cons.mp m with z | z
      · subst z; exact ⟨List.mem_cons_self, pa⟩
      · exact w2.pots b z
    · exact run_G hX FO hj I1 (FD.bindsA hb s1 us (by rw [← rv.length, hn]; exact hlen)) rv q1⟩⟩
/-- the slots written out anew -/
theorem es_norm {ρ : Type} {rest : List Stmt} {m : M ρ} {I : ρ → Outc} (env' : Slots) (h : EvS G N sc k env' rest m I) (e : env = env' := by rfl) : EvS G N sc k env rest m I := by
  rw [e]
  exact h
end
end Ev

set_option Elab.async false
set_option linter.all false
set_option autoImplicit false
set_option maxRecDepth 100000
set_option maxHeartbeats 2000000
namespace Ev
open PySem PySem.Spec L2 LamX PyProof.Rows

/-! ### dicts of one's own: keys are ints and texts -/
def keyOf : PyData → Option L2.Key
  | .int i => some (.inl i)
  | .str x => some (.inr x)
  | _ => none
theorem keyOf_kD : ∀ k : L2.Key, keyOf (kD k) = some k
  | .inl _ => rfl
  | .inr _ => rfl
def dGet (es : List (PyData × PyData)) (k : L2.Key) : Option PyData := match es with
  | [] => none
  | p :: r => if keyOf p.1 = some k then some p.2 else dGet r k
def dHas (es : List (PyData × PyData)) (k : L2.Key) : Bool := es.any fun p => decide (keyOf p.1 = some k)
def dPut (es : List (PyData × PyData)) (k : L2.Key) (d : PyData) : List (PyData × PyData) := if dHas es k = true then es.map (fun p => if keyOf p.1 = some k then (p.1, d) else p) else es ++ [(kD k, d)]
section
variable {K : PySem.W.Frag} {h : Hp}
theorem rpKv_len : ∀ {kvs : List (L2.Key × V)} {es : List (PyData × PyData)}, RpKv K h kvs es → kvs.length = es.length
  | [], [], _ => rfl
  | _ :: _, _ :: _, q => by rw [List.length_cons, List.length_cons, rpKv_len q.2.2]
  | [], _ :: _, q => q.elim
  | _ :: _, [], q => q.elim
theorem rpKv_get {k : L2.Key} : ∀ {kvs : List (L2.Key × V)} {es : List (PyData × PyData)}, RpKv K h kvs es → (dGet es k = none → valV kvs k = none) ∧ ∀ d, dGet es k = some d → ∃ v, valV kvs k = some v ∧ Rp K h v d
  | [], [], _ => ⟨fun _ => rfl, fun d e => nomatch e⟩
  | p :: r, q :: t, z => by
    obtain ⟨h1, h2⟩ := rpKv_get (k := k) z.2.2
    have e : keyOf q.1 = some p.1 := by rw [z.1, keyOf_kD]
    unfold dGet
    rw [e]
    by_cases hk : p.1 = k
    · rw [if_pos (by rw [hk]), valV_pos hk]
      exact ⟨(fun e => by cases e), fun d e => by cases e; exact ⟨_, rfl, z.2.1⟩⟩
    · rw [if_neg (fun e => hk (Option.some.inj e)), valV_neg hk]
      exact ⟨h1, h2⟩
  | [], _ :: _, z => z.elim
  | _ :: _, [], z => z.elim
theorem rpKv_isSome {k : L2.Key} {kvs : List (L2.Key × V)} {es : List (PyData × PyData)} (z : RpKv K h kvs es) : (valV kvs k).isSome = (dGet es k).isSome := by
  obtain ⟨g1, g2⟩ := rpKv_get (k := k) z
  cases hg : dGet es k with
  | none => rw [g1 hg]; rfl
  | some d =>
    obtain ⟨v, h1, _⟩ := g2 d hg
    rw [h1]
    rfl
theorem rpKv_has {k : L2.Key} : ∀ {kvs : List (L2.Key × V)} {es : List (PyData × PyData)}, RpKv K h kvs es → dHas es k = kvs.any fun kv => decide (kv.1 = k)
  | [], [], _ => rfl
  | p :: r, q :: t, z => by
    unfold dHas
    rw [List.any_cons, List.any_cons]
    have ih := rpKv_has (k := k) z.2.2
    unfold dHas at ih
    rw [ih, z.1, keyOf_kD]
    congr 1
    by_cases hk : p.1 = k
    · simp [hk]
    · have : ¬ (some p.1 = some k) := fun e => hk (Option.some.inj e)
      simp [hk]
  | [], _ :: _, z => z.elim
  | _ :: _, [], z => z.elim
theorem rpKv_app : ∀ {kvs : List (L2.Key × V)} {es : List (PyData × PyData)} {k : L2.Key} {v : V} {d : PyData}, RpKv K h kvs es → Rp K h v d → RpKv K h (kvs ++ [(k, v)]) (es ++ [(kD k, d)])
  | [], [], _, _, _, _, q => ⟨rfl, q, trivial⟩
  | _ :: _, _ :: _, _, _, _, z, q => ⟨z.1, z.2.1, rpKv_app z.2.2 q⟩
  | [], _ :: _, _, _, _, z, _ => z.elim
  | _ :: _, [], _, _, _, z, _ => z.elim
theorem rpKv_map {k : L2.Key} {v : V} {d : PyData} (q : Rp K h v d) : ∀ {kvs : List (L2.Key × V)} {es : List (PyData × PyData)}, RpKv K h kvs es → RpKv K h (kvs.map fun kv => if kv.1 = k then (kv.1, v) else kv) (es.map fun p => if keyOf p.1 = some k then (p.1, d) else p)
  | [], [], _ => trivial
  | p :: r, t :: u, z => by
    have ih := rpKv_map (k := k) q z.2.2
    rw [List.map_cons, List.map_cons]
    have e : keyOf t.1 = some p.1 := by rw [z.1, keyOf_kD]
    rw [e]
    by_cases hk : p.1 = k
    · rw [if_pos hk, if_pos (by rw [hk])]
      exact ⟨z.1, q, ih⟩
    · rw [if_neg hk, if_neg (fun e => hk (Option.some.inj e))]
      exact ⟨z.1, z.2.1, ih⟩
  | [], _ :: _, z => z.elim
  | _ :: _, [], z => z.elim
theorem rpKv_put {kvs : List (L2.Key × V)} {es : List (PyData × PyData)} {k : L2.Key} {v : V} {d : PyData} (z : RpKv K h kvs es) (q : Rp K h v d) : RpKv K h (putK kvs k v) (dPut es k d) := by
  unfold putK dPut
  rw [rpKv_has z]
  split
  · exact rpKv_map q z
  · exact rpKv_app z q
theorem rpKv_keys : ∀ {kvs : List (L2.Key × V)} {es : List (PyData × PyData)}, RpKv K h kvs es → ∀ h' : Hp, RpAll K h' (kvs.map fun kv => kV kv.1) (es.map (·.1))
  | [], [], _, _ => .nil
  | p :: r, q :: t, z, h' => by
    rw [List.map_cons, List.map_cons]
    refine .cons ?_ (rpKv_keys z.2.2 h')
    rw [z.1]
    cases p.1 with
    | inl i => exact .int i
    | inr x => exact .str x
  | [], _ :: _, z, _ => z.elim
  | _ :: _, [], z, _ => z.elim
end
def withKey {α : Type} (d : PyData) (f : L2.Key → M α) : M α := match keyOf d with
  | some k => f k
  | none => .err
theorem key_rp {α : Type} {K : PySem.W.Frag} {h : Hp} {v : V} {d : PyData} {f : L2.Key → M α} {Q : α → Prop} (r : Rp K h v d) (q : (withKey d f).Sat Q) : ∃ k, v = kV k ∧ (f k).Sat Q := by
  cases r with
  | int i => exact ⟨.inl i, rfl, q⟩
  | str x => exact ⟨.inr x, rfl, q⟩
  | _ => exact q.elim
section
variable {G : Glb} {N : List Str} {sc : Scope} {k : Lv} {env : Slots} {pos p p2 p3 p4 p5 apos : Pos} {e e2 : Expr} {es : List Expr} {me me2 : M PyData} {ms : M (List PyData)} {mas : M (List AV)} {x y : Str} {ρ α : Type} {m : M ρ} {ma : M α} {sh : α → Slot} {kk : α → M ρ} {rest : List Stmt} {I : ρ → Outc} {fs : List (PyData × PyData)}
theorem unitsD {X : Cx} (hX : XOk G N sc k X) : X.A.units + 1 < cLine := by
  have := hX.room.un
  omega
theorem dict_at {P O : List Addr} {σ : L2.St} {H : Hp} {i : Nat} (r : R G P O env σ H) (he : env[i]? = some (.own (.dict fs))) : ∃ a kvs, σ[i]? = some (some (.ref a)) ∧ a ∈ O ∧ a ∉ P ∧ H a = some (.dK kvs) ∧ RpKv G.K (msk O H) kvs fs := r.at_ i _ he
/-- e in x, x a dict of one's own -/
theorem ev_inD (i : Nat) (he : env[i]? = some (.own (.dict fs))) (ha : EvE G N sc k env e me) (hN : N[i]? = some x := by rfl) (hv : Vis sc x := by first | exact Or.inl rfl | exact Or.inr (Or.inl rfl) | exact Or.inr (Or.inr rfl))
    (hd : (x == ("__debug__" : Str)) = false := by decide) (hcd : (x == ("__classdict__" : Str)) = false := by decide) : EvE G N sc k env (.Compare e [.In] [.Name x p] pos) (me.bind fun d => withKey d fun k => .ok (.bool (dGet fs k).isSome)) :=
  ⟨fun X hX P O => PE_imp (pe_cmp (pc_din (unitsD hX) (ha.run X hX P O) (pe_var (i := i) (by rw [hX.eN]; exact hN) (by rw [hX.eSc]; exact hv) hd hcd)) rfl) fun σ H Q ⟨r, q⟩ => by
    refine ⟨r, (M.sat_bind.mp q).mono fun d q1 v H1 e1 r1 => ?_⟩
    obtain ⟨kk, rfl, q2⟩ := key_rp r1 q1
    obtain ⟨a, kvs, z1, z2, z3, z4, z5⟩ := dict_at (r.ext e1) he
    obtain ⟨g1, g2⟩ := rpKv_get (k := kk) z5
    refine ⟨_, z1, a, _, rfl, .inl ⟨kvs, kk, .inl z4, rfl, rfl⟩, ?_⟩
    rw [rpKv_isSome z5]
    exact q2 _ H1 e1 (.bl _)⟩
theorem ev_notinD (i : Nat) (he : env[i]? = some (.own (.dict fs))) (ha : EvE G N sc k env e me) (hN : N[i]? = some x := by rfl) (hv : Vis sc x := by first | exact Or.inl rfl | exact Or.inr (Or.inl rfl) | exact Or.inr (Or.inr rfl))
    (hd : (x == ("__debug__" : Str)) = false := by decide) (hcd : (x == ("__classdict__" : Str)) = false := by decide) : EvE G N sc k env (.Compare e [.NotIn] [.Name x p] pos) (me.bind fun d => withKey d fun k => .ok (.bool (!(dGet fs k).isSome))) :=
  ⟨fun X hX P O => PE_imp (pe_cmp (pc_dnotin (unitsD hX) (ha.run X hX P O) (pe_var (i := i) (by rw [hX.eN]; exact hN) (by rw [hX.eSc]; exact hv) hd hcd)) rfl) fun σ H Q ⟨r, q⟩ => by
    refine ⟨r, (M.sat_bind.mp q).mono fun d q1 v H1 e1 r1 => ?_⟩
    obtain ⟨kk, rfl, q2⟩ := key_rp r1 q1
    obtain ⟨a, kvs, z1, z2, z3, z4, z5⟩ := dict_at (r.ext e1) he
    obtain ⟨g1, g2⟩ := rpKv_get (k := kk) z5
    refine ⟨_, z1, a, _, rfl, .inl ⟨kvs, kk, .inl z4, rfl, rfl⟩, ?_⟩
    rw [rpKv_isSome z5]
    exact q2 _ H1 e1 (.bl _)⟩
/-- such tests -/
theorem et_inD (i : Nat) (he : env[i]? = some (.own (.dict fs))) (ha : EvE G N sc k env e me) (hN : N[i]? = some x := by rfl) (hv : Vis sc x := by first | exact Or.inl rfl | exact Or.inr (Or.inl rfl) | exact Or.inr (Or.inr rfl))
    (hd : (x == ("__debug__" : Str)) = false := by decide) (hcd : (x == ("__classdict__" : Str)) = false := by decide) : EvT G N sc k env (.Compare e [.In] [.Name x p] pos) ((me.bind fun d => withKey d fun k => .ok (.bool (dGet fs k).isSome)).bind tru) :=
  ⟨fun X hX P O => PT_imp (pt_cmp (pc_din (unitsD hX) (ha.run X hX P O) (pe_var (i := i) (by rw [hX.eN]; exact hN) (by rw [hX.eSc]; exact hv) hd hcd)) rfl) fun σ H Q ⟨r, q⟩ => by
    refine ⟨r, (M.sat_bind.mp (M.sat_bind.mp q)).mono fun d q1 v H1 e1 r1 => ?_⟩
    obtain ⟨kk, rfl, q2⟩ := key_rp r1 q1
    obtain ⟨a, kvs, z1, z2, z3, z4, z5⟩ := dict_at (r.ext e1) he
    obtain ⟨g1, g2⟩ := rpKv_get (k := kk) z5
    refine ⟨_, z1, a, _, rfl, .inl ⟨kvs, kk, .inl z4, rfl, rfl⟩, ?_⟩
    rw [rpKv_isSome z5]
    exact ⟨_, rfl, q2 H1 e1⟩⟩
theorem et_notinD (i : Nat) (he : env[i]? = some (.own (.dict fs))) (ha : EvE G N sc k env e me) (hN : N[i]? = some x := by rfl) (hv : Vis sc x := by first | exact Or.inl rfl | exact Or.inr (Or.inl rfl) | exact Or.inr (Or.inr rfl))
    (hd : (x == ("__debug__" : Str)) = false := by decide) (hcd : (x == ("__classdict__" : Str)) = false := by decide) : EvT G N sc k env (.Compare e [.NotIn] [.Name x p] pos) ((me.bind fun d => withKey d fun k => .ok (.bool (!(dGet fs k).isSome))).bind tru) :=
  ⟨fun X hX P O => PT_imp (pt_cmp (pc_dnotin (unitsD hX) (ha.run X hX P O) (pe_var (i := i) (by rw [hX.eN]; exact hN) (by rw [hX.eSc]; exact hv) hd hcd)) rfl) fun σ H Q ⟨r, q⟩ => by
    refine ⟨r, (M.sat_bind.mp (M.sat_bind.mp q)).mono fun d q1 v H1 e1 r1 => ?_⟩
    obtain ⟨kk, rfl, q2⟩ := key_rp r1 q1
    obtain ⟨a, kvs, z1, z2, z3, z4, z5⟩ := dict_at (r.ext e1) he
    obtain ⟨g1, g2⟩ := rpKv_get (k := kk) z5
    refine ⟨_, z1, a, _, rfl, .inl ⟨kvs, kk, .inl z4, rfl, rfl⟩, ?_⟩
    rw [rpKv_isSome z5]
    exact ⟨_, rfl, q2 H1 e1⟩⟩
/-- x[e] -/
theorem ev_ixD (i : Nat) (he : env[i]? = some (.own (.dict fs))) (ha : EvE G N sc k env e me) (hN : N[i]? = some x := by rfl) (hv : Vis sc x := by first | exact Or.inl rfl | exact Or.inr (Or.inl rfl) | exact Or.inr (Or.inr rfl)) (hs : NoSl e := by intro _ _; rfl)
    (hd : (x == ("__debug__" : Str)) = false := by decide) (hcd : (x == ("__classdict__" : Str)) = false := by decide) : EvE G N sc k env (.Subscript (.Name x p) e pos) (me.bind fun d => withKey d fun k => match dGet fs k with | some d => .ok d | none => .err) :=
  ⟨fun X hX P O => PE_imp (pe_dget (unitsD hX) (pe_var (i := i) (by rw [hX.eN]; exact hN) (by rw [hX.eSc]; exact hv) hd hcd) (ha.run X hX P O) hs) fun σ H Q ⟨r, q⟩ => by
    obtain ⟨a, kvs, z1, z2, z3, z4, z5⟩ := dict_at r he
    refine ⟨_, z1, r, (M.sat_bind.mp q).mono fun d q1 v H1 e1 r1 => ?_⟩
    obtain ⟨kk, rfl, q2⟩ := key_rp r1 q1
    obtain ⟨a', kvs', y1, y2, y3, y4, y5⟩ := dict_at (r.ext e1) he
    rw [z1] at y1; cases y1
    cases hg : dGet fs kk with
    | none => rw [hg] at q2; exact q2.elim
    | some d =>
      rw [hg] at q2
      obtain ⟨v, h1, h2⟩ := (rpKv_get (k := kk) y5).2 d hg
      exact ⟨a, v, rfl, .inl ⟨kvs', kk, .inl y4, rfl, h1.symm⟩, q2 v H1 e1 h2⟩⟩
/-- {} for a slot -/
theorem ep_newD : EvP G N sc k env (.Dict [] [] pos) (.ok ()) (fun _ : Unit => .own (.dict [])) :=
  ⟨fun X hX P O => PE_imp pe_dnewK fun σ H Q ⟨r, q⟩ a n => q a _ (Ext.new n) (.of n) ⟨[], upd_same, trivial⟩⟩
/-- x = e, by what e is -/
theorem es_setP (i : Nat) (he : EvP G N sc k env e ma sh) (hr : ∀ u, EvS G N sc k (env.set i (sh u)) rest (kk u) I) (hsh : HasSlot sh := by intro _ h; cases h) (hN : N[i]? = some x := by rfl) (hl : Loc sc x := by first | exact Or.inl rfl | exact Or.inr rfl) (hi : i < env.length := by exact Nat.le_of_ble_eq_true rfl)
    (hs : ∀ env : PySem.Env, env.scope = sc → swapsWith e (some (.Name x p)) pos.line env = pure false := by intro _ _; rfl) : EvS G N sc k env (.Assign [.Name x p] e pos :: rest) (ma.bind kk) I :=
  ⟨fun X hX P0 O0 H0 Kx => by
    have o := hX.ok
    refine pss_step (ps_set (i := i) (by rw [o.eN]; exact o.nd) (by rw [o.eN]; exact hN) (by rw [o.eSc]; exact hl) (PE_some fun q : List Addr × List Addr => he.run X o q.1 q.2) (hs _ o.eSc) (.inl (hX.fn x))) (fun u => (hr u).run X hX P0 O0 H0 Kx) fun D σ H ⟨s, q⟩ => ?_
    obtain ⟨P, O, s⟩ := s
    exact ⟨(P, O), s.r, sat_goes (M.sat_bind.mp q) (fun u q1 v H1 O1 g1 => ⟨u, ⟨P, O1, g1.at s hi⟩, q1⟩) hsh⟩⟩
/-- x[e] = e2 -/
theorem es_dput (i : Nat) {kl : List (PyData × PyData) → M ρ} (he : env[i]? = some (.own (.dict fs))) (hv2 : EvE G N sc k env e2 me2) (ha : EvE G N sc k env e me) (hr : ∀ gs, EvS G N sc k (env.set i (.own (.dict gs))) rest (kl gs) I) (hN : N[i]? = some x := by rfl) (hv : Vis sc x := by first | exact Or.inl rfl | exact Or.inr (Or.inl rfl) | exact Or.inr (Or.inr rfl))
    (hd : (x == ("__debug__" : Str)) = false := by decide) (hcd : (x == ("__classdict__" : Str)) = false := by decide)
    (hs : ∀ env : PySem.Env, swapsWith e2 (some (.Subscript (.Name x p) e p3)) pos.line env = pure false := by intro _; rfl) :
    EvS G N sc k env (.Assign [.Subscript (.Name x p) e p3] e2 pos :: rest) (me2.bind fun v => me.bind fun j => withKey j fun k => if fs.length < sizeLine then M.bind (.ok (dPut fs k v)) kl else .err) I :=
  ⟨fun X hX P0 O0 H0 Kx => by
    have o := hX.ok
    refine pss_step (ps_dput (unitsD o) (pe_var (i := i) (by rw [o.eN]; exact hN) (by rw [o.eSc]; exact hv) hd hcd) (PE_some fun q : List Addr × List Addr => ha.run X o q.1 q.2) (PE_some fun q : List Addr × List Addr => hv2.run X o q.1 q.2) (hs _)) (fun gs => (hr gs).run X hX P0 O0 H0 Kx) fun D σ H ⟨s, q⟩ => ?_
    obtain ⟨P, O, s⟩ := s
    refine ⟨(P, O), s.r, (M.sat_bind.mp q).mono fun d2 q1 w H1 e1 r1 => ?_⟩
    have s1 := s.ext e1
    obtain ⟨a, kvs, z1, z2, z3, z4, z5⟩ := dict_at s1.r he
    refine ⟨_, z1, (P, O), s1.r, (M.sat_bind.mp q1).mono fun j q2 jv H2 e2 r2 => ?_⟩
    have s2 := s1.ext e2
    obtain ⟨kk, rfl, q3⟩ := key_rp r2 q2
    obtain ⟨hl, q3⟩ := sat_if q3
    obtain ⟨a', kvs', y1, y2, y3, y4, y5⟩ := dict_at s2.r he
    rw [z1] at y1; cases y1
    have rw2 := rp_mono (e2.kp s1.r.wf) r1
    exact ⟨a, _, rfl, .inl ⟨kvs', kk, y4, rfl, by rw [rpKv_len y5]; exact hl, rfl⟩, _, ⟨P, O, s2.mutC (d := .dict fs) (d' := .dict (dPut fs kk d2)) he z1 trivial ⟨_, upd_same, by rw [msk_own y2]; exact rpKv_put y5 rw2⟩⟩, q3⟩⟩
/-! ### new objects as results -/
structure EvN (G : Glb) (N : List Str) (sc : Scope) (k : Lv) (env : Slots) (e : Expr) (m : M PyData) : Prop where
  run : ∀ X, XOk G N sc k X → ∀ P O, PE X e fun σ H Q => R G P O env σ H ∧ m.Sat fun d => ∀ a H', Ext G.T P H H' → Fr0 H a → OwnC G (a :: O) H' a d → Q (.ref a) H'
theorem ep_n (h : EvN G N sc k env e me) : EvP G N sc k env e me Slot.own := ⟨fun X hX P O => PE_imp (h.run X hX P O) fun σ H Q q => q⟩
def dcOf (d : PyData) : M (List (PyData × PyData)) := match d with
  | .dict fs => .ok fs
  | _ => .err
theorem ep_nd (h : EvN G N sc k env e me) : EvP G N sc k env e (me.bind dcOf) (fun fs => Slot.own (.dict fs)) := ⟨fun X hX P O => PE_imp (h.run X hX P O) fun σ H Q ⟨r, q⟩ => ⟨r, (M.sat_bind.mp q).mono fun d q1 a H' e1 hn hc => by
  cases d with
  | dict fs => exact q1 a H' e1 hn hc
  | _ => exact q1.elim⟩⟩
/-- an own object is returned -/
theorem es_retN {r : ρ} {d : PyData} (i : Nat) (he : env[i]? = some (.own d) := by rfl) (hI : I r = .fd d := by rfl) (hN : N[i]? = some x := by rfl) (hv : Vis sc x := by first | exact Or.inl rfl | exact Or.inr (Or.inl rfl) | exact Or.inr (Or.inr rfl))
    (hd : (x == ("__debug__" : Str)) = false := by decide) (hcd : (x == ("__classdict__" : Str)) = false := by decide) : EvS G N sc k env (.Return (some (.Name x p)) pos :: rest) (.ok r) I :=
  ⟨fun X hX P0 O0 H0 Kx => by
    have o := hX.ok
    refine pss_step (u := fun _ : Empty => tNever) (ps_ret (pe_var (i := i) (by rw [o.eN]; exact hN) (by rw [o.eSc]; exact hv) hd hcd)) (fun i => i.elim) fun D σ H ⟨s, q⟩ => ?_
    obtain ⟨P, O, s⟩ := s
    obtain ⟨a, z1, z2, z3, z4⟩ := slot_ownC (s.r.at_ i _ he)
    have n0 := s.ow i d a he z1
    have f : Fr0 H0 a := (s.on a z2).resolve_left n0
    have q2 : Fin G P0 O0 H0 Kx D (I r) := q
    rw [hI] at q2
    refine ⟨_, z1, q2 a H s.e0 f (z4.kept (fun b o q t => ?_) fun o h _ => h)⟩
    obtain ⟨h1, h2⟩ := msk_some q
    rw [msk_out fun m => h1 (by
      rcases List.mem_cons.mp m with z | z
      · rw [z]; exact z2
      · exact s.o0 b z)]
    exact h2⟩
def spO (G : Glb) (n : Nat) (f : List AV → M PyData) : Sp := fun vs H Q _ => vs.length = n ∧ ∃ P O as, Wf P O H ∧ LamX.Tabs G.T H ∧ RelAs G P O H vs as ∧ (f as).Sat fun d => ∀ a H', Ext G.T P H H' → Fr0 H a → OwnC G (a :: O) H' a d → Q (.ref a) H'
theorem fn_okO {kn : Nat} {st : Stmt} {ps : List Str} {f : List AV → M PyData} {fa : Addr} {fd : FuncData} (F : FunD G.K x x (defArgs st) (defBody st) (defScope st) [] [] fa fd) (hm : G.mg x = some (.ref fa)) (S : FnScope N ps (defScope st))
    (hb : ∀ as : List AV, as.length = ps.length → EvS G N (defScope st) ⟨kn, none⟩ (startE N as) (defBody st) (f as) Outc.fd) : FnD G (kn + 1) x st ps (spO G ps.length f) :=
  ⟨fa, fd, hm, F, fg_of F S (fun vs H Q E h => h.1) fun A outer s H vs Q hr hg hsp => by
    obtain ⟨hl, P, O, as, w, tb, r, q⟩ := hsp
    exact ⟨_, (hb as (by rw [← relAs_len r]; exact hl)).run _ (xfn_of (k := ⟨kn, none⟩) S.nd hr hg (fun _ _ _ e => nomatch e)) P O H (msk O H), start_stt w tb r, q⟩⟩
theorem en_call {j n : Nat} {st : Stmt} {ps : List Str} {f : List AV → M PyData} (F : FnD G j x st ps (spO G n f)) (hb : BindN x st ps) (ha : EvAs G N sc k env (e :: es) mas) (hn : ps.length = n := by rfl) (hj : j ≤ k.n := by exact Nat.le_of_ble_eq_true rfl) (hg : sc.names.lookup x = some .globalImplicit := by rfl) (hdb : (x == ("__debug__" : Str)) = false := by decide) (h1 : notStar e = true := by rfl) (h2 : es.all notStar = true := by rfl) :
    EvN G N sc k env (.Call (.Name x p) (e :: es) [] pos) (mas.bind fun as => if as.length = n then f as else .err) :=
  ⟨fun X hX P O => ⟨fun pins s σ H Q I ⟨r, q⟩ => by
    obtain ⟨fa, fd, hm, FD, FO⟩ := F.ex
    refine wpAny_Call_Name_kw (ld_glob I (x := x) (by show X.env.scope.names.lookup x = _; rw [hX.eSc]; exact hg) (by rw [hX.eMg]; exact hm) ?_ hdb)
    refine PySem.W.callWith_K (h₀ := X.base) I.ok.mod.kin (by rw [hX.eK]; exact FD.kp) (thn ((ha.run X hX P O).run pos pins s σ H (fun vs H1 => vs.length = n ∧ spO G n f vs H1 Q E0) I ⟨r, (M.sat_bind.mp q).mono fun as q1 vs H1 e1 r1 => ?_⟩) fun us s1 ⟨vs, H1, I1, rv, hlen, q1⟩ => ⟨I1.kIn, ?_⟩) (star_no h1) (noStars h2)
    · obtain ⟨hl, q1⟩ := sat_if q1
      have hl2 : vs.length = n := by rw [relAs_len r1]; exact hl
      exact ⟨hl2, hl2, P, O, as, r.wf.ext e1, tabs_ext e1 r.tabs, r1, q1.mono fun d h a H' e' hn hc => h a H' (e1.trans e') (e1.backF hn) hc⟩
    · exact run_G hX FO hj I1 (FD.bindsA hb s1 us (by rw [← rv.length, hn]; exact hlen)) rv q1⟩⟩
def bKeys (d : PyData) : M PyData := match d with
  | .dict es => .ok (.list (es.map (·.1)))
  | _ => .err
/-- list(e), e a new dict -/
theorem el_listN (he : EvN G N sc k env e me) (hm : G.mg "list" = none) (hv : bootBuiltins ("list" : Str) = some (.type "list") := by decide +kernel) (hg : sc.names.lookup ("list" : Str) = some .globalImplicit := by rfl) (h1 : notStar e = true := by rfl) :
    EvL G N sc k env (.Call (.Name "list" p) [e] [] pos) (me.bind bKeys) :=
  ⟨fun X hX P O => PE_imp (pe_callTy (call_listD hX.calm) (by show X.env.scope.names.lookup _ = _; rw [hX.eSc]; exact hg) (by rw [hX.eMg]; exact hm) hv (pa_cons (he.run X hX P O) pa_nil (star_no h1)) (by decide) (by decide) (star_no h1) (noStars rfl)) fun σ H Q ⟨r, q⟩ => by
    refine ⟨r, (M.sat_bind.mp q).mono fun d q1 a H1 e1 hn hc => ?_⟩
    cases d with
    | dict fs =>
      obtain ⟨kvs, h3, h4⟩ := hc
      exact ⟨a, kvs, rfl, .inl h3, fun p0 hp => q1 p0 _ _ _ rfl (e1.trans (Ext.new hp)) (e1.back hp) upd_same (rpKv_keys h4 _)⟩
    | _ => exact q1.elim⟩
/-- list(x), x a dict of one's own -/
theorem el_listOD (i : Nat) (he : env[i]? = some (.own (.dict fs))) (hm : G.mg "list" = none) (hv : bootBuiltins ("list" : Str) = some (.type "list") := by decide +kernel) (hg : sc.names.lookup ("list" : Str) = some .globalImplicit := by rfl) (hN : N[i]? = some x := by rfl) (hvx : Vis sc x := by first | exact Or.inl rfl | exact Or.inr (Or.inl rfl) | exact Or.inr (Or.inr rfl))
    (hd : (x == ("__debug__" : Str)) = false := by decide) (hcd : (x == ("__classdict__" : Str)) = false := by decide) : EvL G N sc k env (.Call (.Name "list" p) [.Name x p2] [] pos) (.ok (.list (fs.map (·.1)))) :=
  ⟨fun X hX P O => PE_imp (pe_callTy (call_listD hX.calm) (by show X.env.scope.names.lookup _ = _; rw [hX.eSc]; exact hg) (by rw [hX.eMg]; exact hm) hv (pa_cons (pe_var (i := i) (by rw [hX.eN]; exact hN) (by rw [hX.eSc]; exact hvx) hd hcd) pa_nil)) fun σ H Q ⟨r, q⟩ => by
    obtain ⟨a, kvs, z1, z2, z3, z4, z5⟩ := dict_at r he
    exact ⟨_, z1, a, kvs, rfl, .inl z4, fun p0 hp => q p0 _ _ _ rfl (Ext.new hp) (.of hp) upd_same (rpKv_keys z5 _)⟩⟩
end
end Ev

set_option Elab.async false
set_option linter.all false
set_option autoImplicit false
set_option maxRecDepth 100000
set_option maxHeartbeats 4000000
namespace Ev
open PySem PySem.Spec L2 LamX PyProof.Rows AutoSeq1

/-! ### enumerate over a tuple -/
theorem new_enum_tup (q : Addr) (its : Array Value) (m : Nat) (dd : Option Addr) (ss : Array (Option Value)) :
    Meets (Builtin.«enumerate.__new__» ⟨[.type "enumerate", .ref q], []⟩) (fun _ R s => s.heap.get? q = some ⟨.type "tuple", dd, .seq its m, ss⟩ ∧
      R (.ok (.ret (.ref (s.heap.push { cls := .type "tuple_iterator", data := .fields #[.ref q, .int 0 0] }).objs.size)))
        { s with heap := (s.heap.push { cls := .type "tuple_iterator", data := .fields #[.ref q, .int 0 0] }).push { cls := .type "enumerate", data := .fields #[.none, .bool false, .ref s.heap.objs.size, rawInt 0, .none, .none] } }) :=
  .of_wp fun prog w A R s hh => by
    obtain ⟨h0, g0, d0, t0, o0⟩ := s
    obtain ⟨hq, hr⟩ := hh
    have sub := sub_enumerate
    have isT : Heap.IsTuple (Shared.heap ⟨h0, g0, d0, t0, o0⟩) q its := ⟨_, hq, rfl, m, rfl⟩
    wp_walk using wpAny_loadPart' hq
    refine wpAny_stack_any fun st => wpAny_pure ?_
    split
    · rename_i c _ _ _ _ _
      cases (c == Value.type "enumerate")
      · wp_walk using wpAny_loadPart' hq, wpAny_pyIter_tuple isT
        exact ⟨_, rfl, hr⟩
      · wp_walk using wpAny_loadPart' hq, wpAny_pyIter_tuple isT
        exact ⟨_, rfl, hr⟩
    · wp_walk using wpAny_loadPart' hq, wpAny_pyIter_tuple isT
      exact ⟨_, rfl, hr⟩
section
variable {prog : Program} {w : World} {A : Around} {E : Value → Shared → Prop} {s : Shared}
theorem call_enum_tup {q : Addr} {its : Array Value} {Q : Value → Shared → Prop} (hT : s.heap.IsTuple q its)
    (h : ∀ h', IsEnum h' (s.heap.objs.size + 1) s.heap.objs.size 0 .none → h'.IsTupleIter s.heap.objs.size q 0 → h'.objs.size = s.heap.objs.size + 2 →
      (∀ b o, s.heap.get? b = some o → h'.get? b = some o) → Q (.ref (s.heap.objs.size + 1)) { s with heap := h' }) :
    wpAny (model prog w) A (call (.type "enumerate") [.ref q]) Q E s := by
  obtain ⟨⟨c, dd, dt, ss⟩, hq, hc, m, hd⟩ := hT
  replace hc : c = .type "tuple" := hc
  replace hd : dt = .seq its m := hd
  subst hc hd
  refine callType_new F.called_enumerate (by decide) (F.typeCall_enumerate_1 _) (F.newCall_enumerate_1 _) (fun obj => F.args_object_init_2 obj _) F.entry_enumerate_new (new_enum_tup q its m dd ss) ⟨hq, ?_⟩
  have z1 : (s.heap.push { cls := .type "tuple_iterator", data := .fields #[.ref q, .int 0 0] }).objs.size = s.heap.objs.size + 1 := Heap.size_push ..
  show _ ∧ _
  rw [z1]
  have he : IsEnum ((s.heap.push { cls := .type "tuple_iterator", data := .fields #[.ref q, .int 0 0] }).push { cls := .type "enumerate", data := .fields #[.none, .bool false, .ref s.heap.objs.size, rawInt 0, .none, .none] }) (s.heap.objs.size + 1) s.heap.objs.size 0 .none := by
    have y := Heap.get?_push_size (s.heap.push { cls := .type "tuple_iterator", data := .fields #[.ref q, .int 0 0] }) (o := { cls := .type "enumerate", data := .fields #[.none, .bool false, .ref s.heap.objs.size, rawInt 0, .none, .none] }) rfl
    rw [z1] at y; exact y
  exact ⟨⟨_, he, rfl⟩, h _ he ⟨_, Heap.get?_push_of_some _ (Heap.get?_push_size _ rfl), rfl, rfl⟩ (by rw [Heap.size_push, z1]) fun b o x => Heap.get?_push_of_some _ (Heap.get?_push_of_some _ x)⟩
end
/-- the tuple at a, each item in a new pair -/
def Itet (K : PySem.W.Frag) (a : Addr) : It :=
  ⟨fun i H => ∃ (xs : List V) (x : V), SqT K H a xs ∧ xs[i]? = some x, fun i H v H' => ∃ T x, v = .ref T ∧ H T = none ∧ H' = upd H T (.tup [.int (i : Nat), x]) ∧ ∀ xs, SqT K H a xs → xs[i]? = some x, fun i H => ∃ xs : List V, SqT K H a xs ∧ xs.length ≤ i⟩
theorem turn_enumT {P : Program} {w : World} {K : PySem.W.Frag} {elts : List Expr} {kk : Nat} {tpos : Pos} (a e it : Addr) :
    Turn P w K (.Tuple elts kk tpos) (Itet K a) [e, it] e (fun i h => (∃ old, IsEnum h e it ((i : Nat) : Int) old) ∧ h.IsTupleIter it a i ∧ e ≠ it) where
  mem := by simp
  obj := fun i h st b hb => by
    obtain ⟨⟨old, he⟩, ⟨o, ho, hc, hd⟩, _⟩ := st
    rcases (show b = e ∨ b = it by simpa using hb) with z | z
    · rw [z]; exact ⟨_, he, fun v q => nomatch q⟩
    · rw [z]; exact ⟨o, ho, fun v q => by rw [hd] at q; cases q⟩
  keep := fun i h h' st k => let ⟨⟨old, he⟩, hi, hne⟩ := st; ⟨⟨old, k e (by simp) _ he⟩, hi.at fun o q => k it (by simp) o q, hne⟩
  item := by
    intro X hP hw hK hc i pins s σ H E I hf st hg
    subst hP hw hK
    obtain ⟨⟨old, he⟩, hit, hne⟩ := st
    obtain ⟨xs, x, hq, hx⟩ := hg
    obtain ⟨its, rv, p, hz⟩ := I.tuple hq
    have pt : s.heap.IsTuple a its.toArray := p
    obtain ⟨u, hu, ru⟩ := rv.get hx
    have hel : e < s.heap.objs.size := Heap.lt_size he
    have hil : it < s.heap.objs.size := by obtain ⟨_, q, _⟩ := hit; exact Heap.lt_size q
    have nea : e ≠ a := fun z => by
      obtain ⟨o, ho, hc, _⟩ := pt
      rw [← z, he] at ho; cases ho
      injection hc with hc
      exact absurd hc (by decide)
    have nia : a ≠ it := fun z => by
      obtain ⟨o, ho, hc, _⟩ := pt
      obtain ⟨o', ho', hc', _⟩ := hit
      rw [z, ho'] at ho; cases ho
      rw [hc'] at hc
      injection hc with hc
      exact absurd hc (by decide)
    have hin : i < its.toArray.size := by
      have := (List.getElem?_eq_some_iff.mp hu).1
      simpa using this
    refine wpAny_pyNext_enum_itemD (Draws.tuple (A := X.A.in1) (show X.A.in1.handled = none from I.ok.hd hc) it a nia its.toArray) he ⟨hit, pt⟩ hin hne (by simp [hne, nea]) fun x' h' tk hx' ho st' hT hsz hk => ?_
    have ex : x' = u := by
      have z : its.toArray[i]? = some u := by simpa using hu
      rw [z] at hx'
      exact (Option.some.inj hx').symm
    subst ex
    refine ⟨_, rfl, wpAny_letOwnedTupleGo_enum (s := { s with heap := h', toks := tk + 1 }) ho fun h'' he' sb => ?_⟩
    have hT2 : h''.get? s.heap.objs.size = some { cls := .type "tuple", data := .seq #[.int i tk, x'] } := (sb.2 _ (Nat.ne_of_gt hel)).trans hT
    have new : ObjOk X.prog X.w (upd H s.heap.objs.size (.tup [.int (i : Nat), x])) h'' s.heap.objs.size (.tup [.int (i : Nat), x]) :=
      ⟨by show 2 ≤ sizeLine; decide, [.int i tk, x'], .cons ⟨_, rfl⟩ (.cons ru .nil), ⟨_, hT2, rfl, _, rfl⟩⟩
    have I1 : Inv X pins σ (upd H s.heap.objs.size (.tup [.int (i : Nat), x])) { s with heap := h'', toks := tk + 1 } :=
      I.turnedNew (ch := [e, it]) (fun b ob hb q => (sb.2 b (fun z => hb (by simp [z]))).trans (hk b ob (fun z => hb (by simp [z])) (fun z => hb (by simp [z])) q)) hf (Nat.le_refl _) new
    refine ⟨.ref s.heap.objs.size, _, I1, rfl, ⟨_, x, rfl, I.hok.fresh (Nat.le_refl _), rfl, fun ys hy => by rw [I.tuple_inj hy hq]; exact hx⟩, ⟨⟨x', ?_⟩, st'.1.at fun o q => (sb.2 it (Ne.symm hne)).trans q, hne⟩, fun b hb => ?_⟩
    · have e1 : ((i + 1 : Nat) : Int) = (i : Int) + 1 := by omega
      rw [e1]; exact he'
    · have hb' : b < s.heap.objs.size := by
        rcases (show b = e ∨ b = it by simpa using hb) with z | z
        · rw [z]; exact hel
        · rw [z]; exact hil
      rw [upd_ne (Nat.ne_of_lt hb')]
      exact (hf b hb).1
  done := by
    intro X hP hw hK hc i pins s σ H E I hf st hg
    subst hP hw hK
    obtain ⟨⟨old, he⟩, hit, hne⟩ := st
    obtain ⟨xs, hq, hx⟩ := hg
    obtain ⟨its, rv, p, hz⟩ := I.tuple hq
    have pt : s.heap.IsTuple a its.toArray := p
    obtain ⟨f0, f1, f2, f3, f4, f5⟩ := hf it (by simp)
    have hl := rv.length
    have hh : X.A.handled = none := I.ok.hd hc
    have hT : s.TypeIs (.ref e) "enumerate" := ⟨_, he, rfl⟩
    unfold pyNext
    refine wpAny_bind (wpAny_attempt (wpAny_callSpecial?_slot (name := Str.ofString "__next__") hT F.slot_enumerate_next (wpAny_call_entry F.slot_enumerate_next hT F.entry_enumerate_next ?_ (F.args_enumerate_next_1 _))))
    show wpAny _ _ (field (.ref e) 2 >>= _) _ _ _
    refine wpAny_bind (wpAny_field he rfl (x := .ref it) rfl ?_)
    refine wpAny_bind (wpAny_nextOf_tuple_end hh hit pt (by simp; omega) fun h' x he' hx' => ?_)
    obtain ⟨o, ho, hc2⟩ := hx'
    refine wpAny_bind (wpAny_isInstance (T := "StopIteration") (b := true) ⟨o, ho, hc2⟩ isSubtype_stop ?_)
    exact wpAny_pure ⟨rfl, I.turned (t' := s.toks) (fun b o hb q => he' b o hb q) f0 f1 f3 f4 f5⟩
  self := fun A i s Q E st h => let ⟨⟨_, he⟩, _⟩ := st; wpAny_pyIter_enum he h
def iEnumT (K : PySem.W.Frag) (ta : TA) : TI := fun σ H R => ta σ H fun vs H1 => ∃ a xs, vs = [.ref a] ∧ SqT K H1 a xs ∧ R (Itet K a) H1
theorem pi_enumT {X : Cx} {e : Expr} {ta : TA} {p pos tpos : Pos} {elts : List Expr} {kk : Nat} (hg : Gl X "enumerate") (hm : X.mg "enumerate" = none) (ha : PA X [e] ta) (hs : starEach [e] X.env = [(false, eval e X.env)] := by rfl) :
    PI X (.Tuple elts kk tpos) (.Call (.Name "enumerate" p) [e] [] pos) (iEnumT X.K ta) := by
  refine ⟨fun pins s σ H R I h => ?_⟩
  refine Call_ (ld_blt I hg hm boot_enumerate (PyProof.Rows.callWith_type1 (thn (ha.run pos pins s σ H _ I h) fun us s1 ⟨vs, H1, I1, r1, q1⟩ => ?_) hs rfl))
  obtain ⟨a, xs, ex, hq, q⟩ := q1
  subst ex
  cases r1 with
  | cons r rr =>
    cases rr
    cases r
    obtain ⟨its, rv, p', hz⟩ := I1.tuple hq
    refine call_enum_tup (show s1.heap.IsTuple a its.toArray from p') fun h' he hit hsz hk => wpAny_pyIter_enum he ?_
    have I2 : Inv X pins σ H1 { s1 with heap := h' } := I1.kept (t' := s1.toks) hk
    refine ⟨s1.heap.objs.size + 1, [s1.heap.objs.size + 1, s1.heap.objs.size], _, _, H1, rfl, I2, turn_enumT a (s1.heap.objs.size + 1) s1.heap.objs.size, ⟨⟨.none, he⟩, hit, Nat.succ_ne_self _⟩, fun b hb => ?_, q⟩
    have hle : s1.heap.objs.size ≤ b := by
      rcases (show b = s1.heap.objs.size + 1 ∨ b = s1.heap.objs.size by simpa using hb) with z | z
      · rw [z]; exact Nat.le_add_right _ _
      · rw [z]; exact Nat.le_refl _
    exact I1.fpOk hle (I1.hok.fresh hle)
section
variable {G : Glb} {N : List Str} {sc : Scope} {k : Lv} {env : Slots} {pos p tpos : Pos} {e : Expr} {O : List Addr} {H1 : Hp} {a : Addr} {vs : List V} {ds : List PyData}
theorem wk_enumT (h : SqT G.K (msk O H1) a vs) (r : RpAll G.K (msk O H1) vs ds) : WkOk G O (Itet G.K a) (enumD ds) H1 := by
  have hl := rpAll_length r
  have hle : (enumD ds).length = ds.length := by simp [enumD]
  have st : ∀ {H : Hp} {O2 : List Addr}, Kp (msk O H1) (msk O2 H) → SqT G.K H a vs := fun kp => kp_sqt kp_msk (kp_sqt kp h)
  refine ⟨fun i H O2 hi kp => ?_, fun H O2 kp => ⟨vs, st kp, by omega⟩, fun i H O2 x H' hi kp ho y => ?_⟩
  · obtain ⟨x, hx⟩ := getx (xs := vs) (i := i) (by omega)
    exact ⟨vs, x, st kp, hx⟩
  · obtain ⟨T, z, rfl, hT, rfl, y2⟩ := y
    obtain ⟨d, h1, h2⟩ := rpAll_get r (y2 vs (st kp))
    exact ⟨fun P => Ext.new hT, _, enumD_get h1, .tup (SqT.of (msk_upd (fresh_in ho hT))) (.cons (.int _) (.cons (rp_mono (kp_new hT) (rp_mono kp h2)) .nil))⟩
def enumT : List PyData → M (List PyData)
  | [.tuple ds] => .ok (enumD ds)
  | _ => .err
theorem ei_enumT {ms : M (List PyData)} {elts : List Expr} {kk : Nat} (ha : EvA G N sc k env [e] ms) (hm : G.mg "enumerate" = none) (hg : sc.names.lookup ("enumerate" : Str) = some .globalImplicit := by rfl) (h1 : notStar e = true := by rfl) :
    EvI G N sc k env (.Tuple elts kk tpos) (.Call (.Name "enumerate" p) [e] [] pos) (ms.bind enumT) :=
  ⟨fun X hX P O => PI_imp (pi_enumT (by show X.env.scope.names.lookup _ = _; rw [hX.eSc]; exact hg) (by rw [hX.eMg]; exact hm) (ha.run X hX P O) (star_no h1)) fun σ H R' ⟨r, q⟩ => ⟨r, (M.sat_bind.mp q).mono fun ds q1 vs H1 e1 r1 => by
    match ds, r1, q1 with
    | [.tuple xs], r1, q1 =>
      obtain ⟨v, rfl, r2⟩ := rp1 r1
      rw [hX.eK]
      cases r2 with
      | tup h1 a1 => exact ⟨_, _, rfl, kp_sqt kp_msk h1, q1 _ _ e1 (wk_enumT h1 a1)⟩⟩⟩
end
/-- a list or a tuple -/
def iEnumA (K : PySem.W.Frag) (ta : TA) : TI := fun σ H R => ta σ H fun vs H1 => (∃ a xs, vs = [.ref a] ∧ SqL K H1 a xs ∧ R (Ite K a) H1) ∨ ∃ a xs, vs = [.ref a] ∧ SqT K H1 a xs ∧ R (Itet K a) H1
theorem pi_enumA {X : Cx} {e : Expr} {ta : TA} {p pos tpos : Pos} {elts : List Expr} {kk : Nat} (hg : Gl X "enumerate") (hm : X.mg "enumerate" = none) (ha : PA X [e] ta) (hs : starEach [e] X.env = [(false, eval e X.env)] := by rfl) :
    PI X (.Tuple elts kk tpos) (.Call (.Name "enumerate" p) [e] [] pos) (iEnumA X.K ta) := by
  refine ⟨fun pins s σ H R I h => ?_⟩
  refine Call_ (ld_blt I hg hm boot_enumerate (PyProof.Rows.callWith_type1 (thn (ha.run pos pins s σ H _ I h) fun us s1 ⟨vs, H1, I1, r1, q1⟩ => ?_) hs rfl))
  have low : ∀ b ∈ [s1.heap.objs.size + 1, s1.heap.objs.size], s1.heap.objs.size ≤ b := fun b hb => by
    rcases (show b = s1.heap.objs.size + 1 ∨ b = s1.heap.objs.size by simpa using hb) with z | z
    · rw [z]; exact Nat.le_add_right _ _
    · rw [z]; exact Nat.le_refl _
  rcases q1 with ⟨a, xs, ex, hq, q⟩ | ⟨a, xs, ex, hq, q⟩
  · subst ex
    cases r1 with
    | cons r rr =>
      cases rr
      cases r
      obtain ⟨its, rv, p', hz⟩ := I1.list hq
      refine call_enumerate_list p'.isList fun h' he hit hsz hk => wpAny_pyIter_enum he ?_
      have I2 : Inv X pins σ H1 { s1 with heap := h' } := I1.kept (t' := s1.toks) hk
      exact ⟨s1.heap.objs.size + 1, [s1.heap.objs.size + 1, s1.heap.objs.size], _, _, H1, rfl, I2, turn_enum a (s1.heap.objs.size + 1) s1.heap.objs.size, ⟨⟨.none, he⟩, hit, Nat.succ_ne_self _⟩, fun b hb => I1.fpOk (low b hb) (I1.hok.fresh (low b hb)), q⟩
  · subst ex
    cases r1 with
    | cons r rr =>
      cases rr
      cases r
      obtain ⟨its, rv, p', hz⟩ := I1.tuple hq
      refine call_enum_tup (show s1.heap.IsTuple a its.toArray from p') fun h' he hit hsz hk => wpAny_pyIter_enum he ?_
      have I2 : Inv X pins σ H1 { s1 with heap := h' } := I1.kept (t' := s1.toks) hk
      exact ⟨s1.heap.objs.size + 1, [s1.heap.objs.size + 1, s1.heap.objs.size], _, _, H1, rfl, I2, turn_enumT a (s1.heap.objs.size + 1) s1.heap.objs.size, ⟨⟨.none, he⟩, hit, Nat.succ_ne_self _⟩, fun b hb => I1.fpOk (low b hb) (I1.hok.fresh (low b hb)), q⟩
section
variable {G : Glb} {N : List Str} {sc : Scope} {k : Lv} {env : Slots} {pos p tpos : Pos} {e : Expr}
def enumA : List PyData → M (List PyData)
  | [.tuple ds] => .ok (enumD ds)
  | [.list ds] => .ok (enumD ds)
  | _ => .err
theorem ei_enumA {ms : M (List PyData)} {elts : List Expr} {kk : Nat} (ha : EvA G N sc k env [e] ms) (hm : G.mg "enumerate" = none) (hg : sc.names.lookup ("enumerate" : Str) = some .globalImplicit := by rfl) (h1 : notStar e = true := by rfl) :
    EvI G N sc k env (.Tuple elts kk tpos) (.Call (.Name "enumerate" p) [e] [] pos) (ms.bind enumA) :=
  ⟨fun X hX P O => PI_imp (pi_enumA (by show X.env.scope.names.lookup _ = _; rw [hX.eSc]; exact hg) (by rw [hX.eMg]; exact hm) (ha.run X hX P O) (star_no h1)) fun σ H R' ⟨r, q⟩ => ⟨r, (M.sat_bind.mp q).mono fun ds q1 vs H1 e1 r1 => by
    match ds, r1, q1 with
    | [.tuple xs], r1, q1 =>
      obtain ⟨v, rfl, r2⟩ := rp1 r1
      rw [hX.eK]
      cases r2 with
      | tup h1 a1 => exact .inr ⟨_, _, rfl, kp_sqt kp_msk h1, q1 _ _ e1 (wk_enumT h1 a1)⟩
    | [.list xs], r1, q1 =>
      obtain ⟨v, rfl, r2⟩ := rp1 r1
      rw [hX.eK]
      cases r2 with
      | lst h1 a1 => exact .inl ⟨_, _, rfl, SqL.of (msk_some h1).2, q1 _ _ e1 (wk_enum (msk_some h1).2 (msk_some h1).1 a1)⟩⟩⟩
end
end Ev

set_option Elab.async false
set_option linter.all false
set_option autoImplicit false
set_option maxRecDepth 100000
set_option maxHeartbeats 2000000
namespace Ev
open PySem PySem.Spec L2 LamX PyProof.Rows

/-! ### len(set(e)), e of fewer than 64 whole numbers -/
def bLenSet (d : PyData) : M PyData := match d with
  | .list ds | .tuple ds => match intsOf ds with
    | some ns => if ns.length < 64 then .ok (.int ((sset ns).length : Nat)) else .err
    | none => .err
  | _ => .err
theorem nodup_same : ∀ {l r : List Int}, l.Nodup → r.Nodup → (∀ z, z ∈ l ↔ z ∈ r) → l.length = r.length
  | [], r, _, _, h => by
    cases r with
    | nil => rfl
    | cons x r => exact absurd ((h x).mpr List.mem_cons_self) List.not_mem_nil
  | x :: l, r, h1, h2, h => by
    have hx := (h x).mp List.mem_cons_self
    have n1 := List.nodup_cons.mp h1
    have e := nodup_same (l := l) (r := r.erase x) n1.2 (h2.erase x) fun z => by
      rw [h2.mem_erase_iff, ← h z, List.mem_cons]
      constructor
      · intro q
        exact ⟨fun w => n1.1 (w ▸ q), .inr q⟩
      · rintro ⟨w, q⟩
        exact q.resolve_left w
    rw [List.length_cons, e, List.length_erase_of_mem hx]
    have := List.length_pos_of_mem hx
    omega
section
variable {X : Cx}
def rLenI (X : Cx) : List V → Hp → VK → Prop := fun vs H Q => ∃ (p : Addr) (ns : List Int) (c : Nat), vs = [.ref p] ∧ H p = some (.ext fun h => SetR X.w h p (fun j => decide (j ∈ ns)) c) ∧ c < 64 ∧ Q (.int ((sset ns).length : Nat)) H
theorem call_len_setI (hc : X.calm = true) : CallR X (.builtin "len") (rLenI X) := by
  intro pins s σ H vs us Q I rv h
  obtain ⟨p, ns, c, rfl, hp, hl, q⟩ := h
  obtain ⟨u, rfl, ru⟩ := vals1 rv
  cases ru
  have SR : SetR X.w s.heap p (fun j => decide (j ∈ ns)) c := (I.hok p _ hp).1
  obtain ⟨o, es, ep, t, ho, hex, hd, _, nd, hm, hlt, hf, hn, _⟩ := SR
  have e : es.size = (sset ns).length := by
    have := nodup_same nd ((sset_sorted (l := ns)).imp fun h => Int.ne_of_lt h) fun z => by
      rw [← hm z, sset_mem]
      exact ⟨fun h => of_decide_eq_true h, fun h => decide_eq_true h⟩
    rw [List.length_map, Array.length_toList] at this
    exact this
  exact call_len_set ho hex hd hf (by omega) ⟨.int ((sset ns).length : Nat), H, I.tok _, ⟨_, by rw [e]⟩, q⟩
end
section
variable {G : Glb} {N : List Str} {sc : Scope} {k : Lv} {env : Slots} {pos p p2 p3 : Pos} {e e2 : Expr} {es : List Expr} {me me2 : M PyData} {ms : M (List PyData)} {x : Str}
theorem ev_lenSet (he : EvE G N sc k env e me) (hm : G.mg "len" = none) (hm2 : G.mg "set" = none) (hv : bootBuiltins ("len" : Str) = some (.builtin "len") := by decide +kernel) (hv2 : bootBuiltins ("set" : Str) = some (.type "set") := by decide +kernel) (hg : sc.names.lookup ("len" : Str) = some .globalImplicit := by rfl) (hg2 : sc.names.lookup ("set" : Str) = some .globalImplicit := by rfl) (h1 : notStar e = true := by rfl) :
    EvE G N sc k env (.Call (.Name "len" p) [.Call (.Name "set" p2) [e] [] p3] [] pos) (me.bind bLenSet) :=
  ⟨fun X hX P O => PE_imp (pe_callB (call_len_setI hX.calm) (by show X.env.scope.names.lookup _ = _; rw [hX.eSc]; exact hg) (by rw [hX.eMg]; exact hm) hv (pa_cons (pe_callTy (call_set_ints hX.calm) (by show X.env.scope.names.lookup _ = _; rw [hX.eSc]; exact hg2) (by rw [hX.eMg]; exact hm2) hv2 (pa_cons (he.run X hX P O) pa_nil (star_no h1)) (by decide) (by decide) (star_no h1) rfl) pa_nil)) fun σ H Q ⟨r, q⟩ => by
    refine ⟨r, (M.sat_bind.mp q).mono fun d q1 v H1 e1 r1 => ?_⟩
    have go : ∀ {a : Addr} {ds : List PyData} {vs : List V}, v = .ref a → (SqL X.K H1 a vs ∨ SqT X.K H1 a vs) → RpAll G.K (msk O H1) vs ds → ((match intsOf ds with | some ns => if ns.length < 64 then M.ok (PyData.int ((sset ns).length : Nat)) else M.err | none => M.err).Sat fun (d : PyData) => ∀ v H', Ext G.T P H H' → Rp G.K (msk O H') v d → Q v H') → rSetI X [v] H1 fun y H2 => rLenI X [y] H2 Q := fun {a ds vs} ev hs ha q2 => by
      cases hi : intsOf ds with
      | none => rw [hi] at q2; exact q2.elim
      | some ns =>
        rw [hi] at q2
        obtain ⟨hl, q3⟩ := sat_if q2
        have z := ints_rp ha hi
        subst z
        exact ⟨a, ns, by rw [ev], hs, hl, fun p0 c hp hcl => ⟨p0, ns, c, rfl, upd_same, by omega, q3 _ _ (e1.trans (Ext.new hp)) (.int _)⟩⟩
    cases r1 with
    | lst h1 a1 => exact go rfl (.inl (SqL.of (msk_some h1).2)) a1 q1
    | tup h1 a1 => exact go rfl (.inr (by rw [hX.eK]; exact kp_sqt kp_msk h1)) a1 q1
    | _ => exact q1.elim⟩
end
end Ev

set_option Elab.async false
set_option linter.all false
set_option autoImplicit false
set_option maxRecDepth 100000
set_option maxHeartbeats 2000000
namespace Ev
open PySem PySem.Spec PyProof.Rows L2

/-! ### exceptions: a run ends with data or lets an exception of a class of the program out -/
inductive Exn where
  | own (cls : Str)
/-- what is known of an exception in the air: its class, its dict -/
def ExnIs (G : Glb) (x : Exn) (cls : Value) (d : Option Addr) : Prop := match x with
  | .own c => d = none ∧ G.mg c = some cls
/-- a def's promise, exceptions let out -/
structure FnGX (G : Glb) (k : Nat) (f : Addr) (fd : FuncData) (ps : List Str) (sp : Sp) : Prop where
  len : ∀ vs H Q E, sp vs H Q E → vs.length = ps.length
  run : ∀ (A : Around) (outer : List PySem.Env) (s : Shared) (H : Hp) (args : Args) (us : List Value) (vs : List V) (Q : VK) (E : XK), Room k A → A.guards = some [] → Env0 G.P G.w G.K G.mg G.base A outer s H → BindsTo s fd args (ps.zip us) → Vals vs us → sp vs H Q E →
    codeAny (model G.P G.w) A (.call (.ref f) args) (CR (L2N.CX G.P G.w) outer G.P G.w H s Q E) s
structure FnX (G : Glb) (k : Nat) (x : Str) (st : Stmt) (ps : List Str) (sp : Sp) : Prop where
  ex : ∃ fa fd, G.mg x = some (.ref fa) ∧ FunD G.K x x (defArgs st) (defBody st) (defScope st) [] [] fa fd ∧ FnGX G k fa fd ps sp
def spX (G : Glb) (n : Nat) (f : List AV → M (PyData ⊕ Exn)) : Sp := fun vs H Q E => vs.length = n ∧ ∃ P O as, Wf P O H ∧ LamX.Tabs G.T H ∧ RelAs G P O H vs as ∧ (f as).Sat fun r => match r with
  | .inl d => ∀ v H', Ext G.T P H H' → Rp G.K (msk O H') v d → Q v H'
  | .inr x => ∀ cls d H', Ext G.T P H H' → ExnIs G x cls d → E cls d H'
/-- all forgotten -/
def unE (env : Slots) : Slots := List.replicate env.length .un
theorem le_un {env : Slots} : EnvLe env (unE env) := ⟨by rw [unE, List.length_replicate], fun i sl h => by
  rw [unE, List.getElem?_replicate] at h
  split at h
  · cases h; exact .inl rfl
  · cases h⟩
theorem unE_set {env : Slots} {i : Nat} {a : Slot} : unE (env.set i a) = unE env := by rw [unE, unE, List.length_set]
/-- statements that may let an exception out -/
structure XFnX (G : Glb) (N : List Str) (sc : Scope) (k : Lv) (X : Cx) : Prop where
  ok : XOk G N sc k X
  fn : ∀ x, X.fn x = true
  stk : X.stack = X.env :: X.outer
  frm : X.env.frame = some X.env.locals
def tSX (G : Glb) (P0 O0 : List Addr) (H0 Kx : Hp) (env : Slots) {ρ : Type} (m : M (ρ ⊕ Exn)) (I : ρ → Outc) (W : WX) : TS := fun D σ H => Stt G P0 O0 H0 Kx env σ H ∧ m.Sat fun r => match r with
  | .inl r => Fin G P0 O0 H0 Kx D (I r)
  | .inr x => ∀ cls d σ' H', Stt G P0 O0 H0 Kx (unE env) σ' H' → ExnIs G x cls d → W cls d σ' H'
structure EvSX (G : Glb) (N : List Str) (sc : Scope) (k : Lv) (env : Slots) (sts : List Stmt) {ρ : Type} (m : M (ρ ⊕ Exn)) (I : ρ → Outc) : Prop where
  run : ∀ X, XFnX G N sc k X → ∀ W, L2N.Takes X W → ∀ P0 O0 H0 Kx, PSs X sts (tSX G P0 O0 H0 Kx env m I W)
section
variable {G : Glb} {N : List Str} {sc : Scope} {k : Lv} {env : Slots} {sts : List Stmt} {x : Str} {ρ : Type} {I : ρ → Outc}
/-- what lets none out -/
theorem sx_of {m : M ρ} (h : EvS G N sc k env sts m I) : EvSX G N sc k env sts (m.bind fun r => .ok (.inl r)) I :=
  ⟨fun X hX W tk P0 O0 H0 Kx => PSs_imp (h.run X ⟨hX.ok, hX.fn⟩ P0 O0 H0 Kx) fun D σ H ⟨s, q⟩ => ⟨s, (M.sat_bind.mp q).mono fun r q => q⟩⟩
theorem fgx_of {kn : Nat} {st : Stmt} {ps : List Str} {sp : Sp} {fa : Addr} {fd : FuncData} (F : FunD G.K x x (defArgs st) (defBody st) (defScope st) [] [] fa fd) (S : FnScope N ps (defScope st)) (len : ∀ vs H Q E, sp vs H Q E → vs.length = ps.length)
    (hb : ∀ (A : Around) (outer : List PySem.Env) (s : Shared) (H : Hp) (vs : List V) (Q : VK) (E : XK), Room kn (A.deeper (envOfC x (defScope st) s.heap.objs.size fa (cdOf fd))) → A.guards = some [] → sp vs H Q E →
      ∃ t, PSs (cxOf (L2N.CX G.P G.w) G.P G.w G.K G.mg G.base N x (defScope st) fa (cdOf fd) A outer s H E) (defBody st) t ∧ t { nx := fun _ H' => Q .non H', rt := Q } (L2.start N vs) H) : FnGX G (kn + 1) fa fd ps sp := by
  obtain ⟨c1, d1, dV, kV, d2, d3, an1, cv, ct1, sl1, rfl, look, code, _, _⟩ := F.ex
  refine ⟨len, fun A outer s H args us vs Q E hr hg e0 hbd hv hsp => ?_⟩
  have lv := len _ _ _ _ hsp
  have inK : G.K.In s.heap := e0.mod.kin.keeps fun b o z => (e0.bs b o z).1
  have nl : s.heap.NoLimit := e0.mod.nolimit.keeps fun b o z => (e0.bs b o z).1
  refine codeAny_call_function hr.depth (inK _ _ look) rfl S.co S.gen rfl (PySem.W.codeRec_of inK code) (hbd _ _ _ _ (wpAny_newFunctionEnv_cells S.kind (fun y hy => ?_) fun env he s1 x1 => ?_))
  · rcases S.par y.1 (List.of_mem_zip (a := y.1) (b := y.2) hy).1 with z | z
    · exact .inl z
    · exact .inr ⟨z, PySem.W.cellsFrom_some _ _ _ (.inl z)⟩
  · subst he
    obtain ⟨t, ht, hq⟩ := hb A outer s H vs Q E (hr.deeper _) hg hsp
    have I := inv_start (CX := L2N.CX G.P G.w) (E := E) S hr.hd e0 lv hv x1
    refine ⟨nl.keeps x1.toInCall.keep, codeAny_func (wpAny_mono (ht.run [] s1 (L2.start N vs) H _ I hq) (fun fl s' z => ?_) fun e s' z => z)⟩
    cases fl with
    | ret u =>
      obtain ⟨v, τ, H', J, rv, q⟩ := z
      exact ⟨v, H', J.os, J.bare, J.base, J.hok, rv, q⟩
    | next =>
      obtain ⟨τ, H', J, q⟩ := z
      exact ⟨.non, H', J.os, J.bare, J.base, J.hok, rfl, q⟩
    | brk => exact (z.elim fun _ y => y.elim fun _ y => y.2).elim
    | cont => exact (z.elim fun _ y => y.elim fun _ y => y.2).elim
theorem xfnx_of {qual : Str} {scope : Scope} {fa : Addr} {cdv : Value} {A : Around} {outer : List PySem.Env} {s : Shared} {H : Hp} {E : XK} (nd : N.Nodup) (hr : Room k.n (A.deeper (envOfC qual scope s.heap.objs.size fa cdv))) (hgu : A.guards = some []) (hm : ∀ c P q, k.me = some (c, P, q) → cdv = .ref c ∧ qual ++ ".<locals>." = q) :
    XFnX G N scope k (cxOf (L2N.CX G.P G.w) G.P G.w G.K G.mg G.base N qual scope fa cdv A outer s H E) :=
  ⟨⟨nd, rfl, rfl, rfl, hr, hgu, fun c P q e => ⟨(hm c P q e).1, (hm c P q e).2, fun _ => rfl⟩, rfl, rfl, rfl, rfl, rfl, PassesOwn.leaving⟩, (fun _ => rfl), rfl, rfl⟩
theorem fn_okX {kn : Nat} {st : Stmt} {ps : List Str} {f : List AV → M (PyData ⊕ Exn)} {fa : Addr} {fd : FuncData} (F : FunD G.K x x (defArgs st) (defBody st) (defScope st) [] [] fa fd) (hm : G.mg x = some (.ref fa)) (S : FnScope N ps (defScope st))
    (hb : ∀ as : List AV, as.length = ps.length → EvSX G N (defScope st) ⟨kn, none⟩ (startE N as) (defBody st) (f as) Outc.fn) : FnX G (kn + 1) x st ps (spX G ps.length f) :=
  ⟨fa, fd, hm, F, fgx_of F S (fun vs H Q E h => h.1) fun A outer s H vs Q E hr hg hsp => by
    obtain ⟨hl, P, O, as, w, tb, r, q⟩ := hsp
    refine ⟨_, (hb as (by rw [← relAs_len r]; exact hl)).run _ (xfnx_of (k := ⟨kn, none⟩) S.nd hr hg (fun _ _ _ e => nomatch e)) _ (L2N.takes_of rfl rfl rfl rfl) P O H (msk O H), start_stt w tb r, q.mono fun d h => ?_⟩
    cases d with
    | inl d =>
      refine ⟨h, fun hd σ' H' e => ?_⟩
      subst hd
      exact h _ _ e .non
    | inr z => exact fun cls d σ' H' e hz => h cls d H' (let ⟨_, _, t⟩ := e; t.e0) hz⟩
theorem cr_endX {X : Cx} (hX : XOk G N sc k X) {W : WX} (tk : L2N.Takes X W) {pins : List (Addr × Obj)} {σ : L2.St} {H : Hp} {s : Shared} {Q : VK} (I : Inv X pins σ H s) {c : Code} (h : codeAny (model G.P G.w) X.A c (CR (L2N.CX G.P G.w) X.stack G.P G.w H s Q fun cls d H' => W cls d σ H') s) :
    codeAny (model X.prog X.w) X.A c (fun r s' => match r with | .ok (.ret v) => EP X pins σ Q v s' | .ok _ => False | .error e => X.xe e s') s := by
  rw [hX.ePr, hX.eW]
  refine codeAny_mono h fun r s' q => ?_
  match r, q with
  | .ok (.ret u), q => exact I.after (by rw [hX.ePr, hX.eW]; exact q)
  | .error e, q => exact tk e s' (L2N.XE.of_call I (fun _ _ _ h => h) (by rw [hX.ePr, hX.eW]; exact q))
theorem run_GX {X : Cx} (hX : XOk G N sc k X) {W : WX} (tk : L2N.Takes X W) {j : Nat} {f : Addr} {fd : FuncData} {ps : List Str} {sp : Sp} (F : FnGX G j f fd ps sp) (hj : j ≤ k.n) {pins : List (Addr × Obj)} {σ : L2.St} {H : Hp} {s : Shared} {Q : VK} (I : Inv X pins σ H s)
    {args : List Value} {kws : List (Str × Value)} {us : List Value} {vs : List V} (hb : BindsTo s fd ⟨args, kws⟩ (ps.zip us)) (hv : Vals vs us) (h : sp vs H Q fun cls d H' => W cls d σ H') : wpAny (model X.prog X.w) X.A (call (.ref f) args kws) (EP X pins σ Q) X.xe s := by
  have e0 := I.env0
  rw [hX.ePr, hX.eW, hX.eK, hX.eMg, hX.eBs] at e0
  exact wpAny_call (cr_endX hX tk I (F.run X.A X.stack s H ⟨args, kws⟩ us vs Q _ (hX.room.mono hj) hX.gu e0 hb hv h))
/-- an expression that may let an exception out -/
structure EvEX (G : Glb) (N : List Str) (sc : Scope) (k : Lv) (env : Slots) (e : Expr) (m : M (PyData ⊕ Exn)) : Prop where
  run : ∀ X, XOk G N sc k X → ∀ W, L2N.Takes X W → ∀ P O, PE X e fun σ H Q => R G P O env σ H ∧ m.Sat fun r => match r with
    | .inl d => ∀ v H', Ext G.T P H H' → Rp G.K (msk O H') v d → Q v H'
    | .inr z => ∀ cls d H', Ext G.T P H H' → ExnIs G z cls d → W cls d σ H'
variable {pos p : Pos} {e : Expr} {es : List Expr} {rest : List Stmt} {mas : M (List AV)} {mex : M (PyData ⊕ Exn)}
theorem ev_callX {j n : Nat} {st : Stmt} {ps : List Str} {f : List AV → M (PyData ⊕ Exn)} (F : FnX G j x st ps (spX G n f)) (hb : BindN x st ps) (ha : EvAs G N sc k env (e :: es) mas) (hn : ps.length = n := by rfl) (hj : j ≤ k.n := by exact Nat.le_of_ble_eq_true rfl) (hg : sc.names.lookup x = some .globalImplicit := by rfl) (hdb : (x == ("__debug__" : Str)) = false := by decide) (h1 : notStar e = true := by rfl) (h2 : es.all notStar = true := by rfl) :
    EvEX G N sc k env (.Call (.Name x p) (e :: es) [] pos) (mas.bind fun as => if as.length = n then f as else .err) :=
  ⟨fun X hX W tk P O => ⟨fun pins s σ H Q I ⟨r, q⟩ => by
    obtain ⟨fa, fd, hm, FD, FO⟩ := F.ex
    refine wpAny_Call_Name_kw (ld_glob I (x := x) (by show X.env.scope.names.lookup x = _; rw [hX.eSc]; exact hg) (by rw [hX.eMg]; exact hm) ?_ hdb)
    refine PySem.W.callWith_K (h₀ := X.base) I.ok.mod.kin (by rw [hX.eK]; exact FD.kp) (thn ((ha.run X hX P O).run pos pins s σ H (fun vs H1 => vs.length = n ∧ spX G n f vs H1 Q fun cls d H' => W cls d σ H') I ⟨r, (M.sat_bind.mp q).mono fun as q1 vs H1 e1 r1 => ?_⟩) fun us s1 ⟨vs, H1, I1, rv, hlen, q1⟩ => ⟨I1.kIn, ?_⟩) (star_no h1) (noStars h2)
    · obtain ⟨hl, q1⟩ := sat_if q1
      have hl2 : vs.length = n := by rw [relAs_len r1]; exact hl
      exact ⟨hl2, hl2, P, O, as, r.wf.ext e1, tabs_ext e1 r.tabs, r1, q1.mono fun d h => by
        cases d with
        | inl d => exact fun v H' e' rv => h v H' (e1.trans e') rv
        | inr z => exact fun cls d H' e' hz => h cls d H' (e1.trans e') hz⟩
    · exact run_GX hX tk FO hj I1 (FD.bindsA hb s1 us (by rw [← rv.length, hn]; exact hlen)) rv q1⟩⟩
end
theorem pmk_own0 {X : Cx} {C : Addr} {bmB : List Value} {B newId initId : String} {x : Str} {p pos : Pos} (F : ExcBaseFacts B newId initId bmB) (q : PySem.W.excIn X.K C bmB newId = true) (gC : X.mg x = some (.ref C)) (kC : PySem.W.keepIn X.K (.ref C) = true) (r : Raises X (.ref C)) (hg : Gl X x)
    (hdb : (x == ("__debug__" : Str)) = false := by decide) : L2N.PMk X (.Call (.Name x p) [] [] pos) (fun _ H Q => Q (.ref C) none H) := by
  intro pins s σ H Q I h
  refine wpAny_Call_Name_kw (ld_glob I hg gC ?_ hdb)
  refine PySem.W.callWith_K0 I.kIn kC ?_
  obtain ⟨bm, N, nm, qn, bs, hdct, sn, sub, ab, col, dd, k0, k1, k2, k3, k5, mN, hC, hN, hni, T⟩ := exc_obj I.kIn q
  refine wpAny_call_exc_subT F T hC hN hni (fun h' e hm => ?_) (by show 0 ≤ sizeLine; omega)
  exact L2N.mk_of I hm r h (I.hok.gone hm.new)
/-- a class of the program whose exceptions are made without arguments -/
structure ExcOk (G : Glb) (C : Str) : Prop where
  ex : ∃ (a : Addr) (B newId initId : String) (bmB : List Value), ExcBaseFacts B newId initId bmB ∧ PySem.W.excIn G.K a bmB newId = true ∧ G.mg C = some (.ref a) ∧ PySem.W.keepIn G.K (.ref a) = true ∧
    PySem.W.subIn G.K (.ref a) (.type "BaseException") = some true ∧ PySem.W.typeIn G.K (.ref a) = some (.type "type")
def bindX {α β : Type} (m : M (α ⊕ Exn)) (k : α → M (β ⊕ Exn)) : M (β ⊕ Exn) := m.bind fun r => match r with
  | .inl a => k a
  | .inr z => .ok (.inr z)
theorem bindX_sat {α β : Type} {m : M (α ⊕ Exn)} {k : α → M (β ⊕ Exn)} {Q : β ⊕ Exn → Prop} (h : (bindX m k).Sat Q) : m.Sat fun r => match r with
  | .inl a => (k a).Sat Q
  | .inr z => Q (.inr z) := (M.sat_bind.mp h).mono fun r q => by
  cases r with
  | inl a => exact q
  | inr z => exact q
section
variable {G : Glb} {N : List Str} {sc : Scope} {k : Lv} {env : Slots} {rest b1 : List Stmt} {x C : Str} {ρ : Type} {I : ρ → Outc} {pos pos' p p1 : Pos} {e c : Expr} {es : List Expr} {mex : M (PyData ⊕ Exn)} {m : M (ρ ⊕ Exn)} {me : M PyData} {mc : M Bool} {kk : PyData → M (ρ ⊕ Exn)}
theorem esx_raise0 (h : ExcOk G C) (hg : sc.names.lookup C = some .globalImplicit := by rfl) (hdb : (C == ("__debug__" : Str)) = false := by decide) : EvSX G N sc k env (.Raise (some (.Call (.Name C p) [] [] p1)) none pos :: rest) (.ok (.inr (.own C)) : M (ρ ⊕ Exn)) I :=
  ⟨fun X hX W tk P0 O0 H0 Kx => by
    obtain ⟨a, B, newId, initId, bmB, F, q, hm, kC, h1, h2⟩ := h.ex
    refine pss_step (u := fun _ : Empty => tNever) (L2N.ps_raise hX.ok.calm tk (pmk_own0 F (by rw [hX.ok.eK]; exact q) (by rw [hX.ok.eMg]; exact hm) (by rw [hX.ok.eK]; exact kC) (raises_own (by rw [hX.ok.eK]; exact h1) (by rw [hX.ok.eK]; exact h2)) (by show X.env.scope.names.lookup _ = _; rw [hX.ok.eSc]; exact hg) hdb)) (fun i => i.elim) fun D σ H ⟨s, q⟩ => ?_
    obtain ⟨P, O, s⟩ := s
    exact q (.ref a) none σ H ⟨P, O, s.le le_un⟩ ⟨rfl, hm⟩⟩
/-- a call as a statement -/
theorem esx_expr (he : EvEX G N sc k env e mex) (hr : EvSX G N sc k env rest m I) (hs : ∀ env : PySem.Env, swapsWith e none pos.line env = pure false := by intro _; rfl) : EvSX G N sc k env (.Expr e pos :: rest) (bindX mex fun _ => m) I :=
  ⟨fun X hX W tk P0 O0 H0 Kx => by
    refine pss_step (ps_expr (PE_some fun q : List Addr × List Addr => he.run X hX.ok W tk q.1 q.2) (hs _)) (fun _ : Unit => hr.run X hX W tk P0 O0 H0 Kx) fun D σ H ⟨s, q⟩ => ?_
    obtain ⟨P, O, s⟩ := s
    exact ⟨(P, O), s.r, (bindX_sat q).mono fun d q1 => by
      cases d with
      | inl d => exact fun v H1 e1 r1 => ⟨(), ⟨P, O, s.ext e1⟩, q1⟩
      | inr z => exact fun cls d H' e' hz => q1 cls d σ H' ⟨P, O, (s.ext e').le le_un⟩ hz⟩⟩
/-- a branch that does not fall through -/
theorem esx_ifR {m1 : M (ρ ⊕ Exn)} (hc : EvT G N sc k env c mc) (h1 : EvSX G N sc k env b1 m1 fun r => (I r).inner) (hr : EvSX G N sc k env rest m I) : EvSX G N sc k env (.If c b1 [] pos :: rest) (mc.bind fun b => if b = true then m1 else m) I :=
  ⟨fun X hX W tk P0 O0 H0 Kx => by
    refine pss_step (ps_if (PT_some fun q : List Addr × List Addr => hc.run X hX.ok q.1 q.2) (h1.run X hX W tk P0 O0 H0 Kx) pss_nil) (fun _ : Unit => hr.run X hX W tk P0 O0 H0 Kx) fun D σ H ⟨s, q⟩ => ?_
    obtain ⟨P, O, s⟩ := s
    refine ⟨(P, O), s.r, (M.sat_bind.mp q).mono fun b q1 H1 e1 => ?_⟩
    cases b with
    | true => exact ⟨⟨P, O, s.ext e1⟩, M.Sat.mono (fun r h => by
        cases r with
        | inl r => exact fin_inner h
        | inr z => exact h) q1⟩
    | false => exact ⟨(), ⟨P, O, s.ext e1⟩, q1⟩⟩
theorem esx_ret {g : PyData → ρ} (he : EvEX G N sc k env e mex) (hI : ∀ d, RtOf (I (g d)) d := by intro _; rfl) : EvSX G N sc k env (.Return (some e) pos :: rest) (bindX mex fun d => .ok (.inl (g d))) I :=
  ⟨fun X hX W tk P0 O0 H0 Kx => by
    refine pss_step (u := fun _ : Empty => tNever) (ps_ret (PE_some fun q : List Addr × List Addr => he.run X hX.ok W tk q.1 q.2)) (fun i => i.elim) fun D σ H ⟨s, q⟩ => ?_
    obtain ⟨P, O, s⟩ := s
    refine ⟨(P, O), s.r, (bindX_sat q).mono fun d q1 => ?_⟩
    cases d with
    | inl d =>
      intro v H1 e1 r1
      have q2 : Fin G P0 O0 H0 Kx D (I (g d)) := q1
      have hd := hI d
      have r2 := rp_mono (kp_out s.o0) r1
      generalize I (g d) = o at q2 hd
      cases o with
      | rt e => cases hd; exact q2 v H1 (s.ext e1).e0 r2
      | fn e => cases hd; exact q2.1 v H1 (s.ext e1).e0 r2
      | _ => exact hd.elim
    | inr z => exact fun cls d H' e' hz => q1 cls d σ H' ⟨P, O, (s.ext e').le le_un⟩ hz⟩
theorem esx_set (i : Nat) (he : EvEX G N sc k env e mex) (hr : ∀ d, EvSX G N sc k (env.set i (dS d)) rest (kk d) I) (hN : N[i]? = some x := by rfl) (hl : Loc sc x := by first | exact Or.inl rfl | exact Or.inr rfl) (hi : i < env.length := by exact Nat.le_of_ble_eq_true rfl)
    (hs : ∀ env : PySem.Env, env.scope = sc → swapsWith e (some (.Name x p)) pos.line env = pure false := by intro _ _; rfl) : EvSX G N sc k env (.Assign [.Name x p] e pos :: rest) (bindX mex kk) I :=
  ⟨fun X hX W tk P0 O0 H0 Kx => by
    have o := hX.ok
    refine pss_step (ps_set (i := i) (by rw [o.eN]; exact o.nd) (by rw [o.eN]; exact hN) (by rw [o.eSc]; exact hl) (PE_some fun q : List Addr × List Addr => he.run X o W tk q.1 q.2) (hs _ o.eSc) (.inl (hX.fn x))) (fun d => (hr d).run X hX W tk P0 O0 H0 Kx) fun D σ H ⟨s, q⟩ => ?_
    obtain ⟨P, O, s⟩ := s
    exact ⟨(P, O), s.r, (bindX_sat q).mono fun dd q1 => by
      cases dd with
      | inl dd => exact fun v H1 e1 r1 => ⟨dd, ⟨P, O, (s.ext e1).set (a := .d dd) r1 hi⟩, by rw [unE_set]; exact q1⟩
      | inr z => exact fun cls d H' e' hz => q1 cls d σ H' ⟨P, O, (s.ext e').le le_un⟩ hz⟩⟩
/-- what lets none out, among what may -/
theorem evx_of (h : EvE G N sc k env e me) : EvEX G N sc k env e (me.bind fun d => .ok (.inl d)) :=
  ⟨fun X hX W tk P O => PE_imp (h.run X hX P O) fun σ H Q ⟨r, q⟩ => ⟨r, (M.sat_bind.mp q).mono fun d q => q⟩⟩
end
end Ev

set_option Elab.async false
set_option linter.all false
set_option autoImplicit false
set_option maxRecDepth 100000
set_option maxHeartbeats 2000000
namespace Ev
open PySem PySem.Spec PyProof.Rows L2
section
variable {G : Glb} {N : List Str} {sc : Scope} {k : Lv} {env : Slots} {rest body suite : List Stmt} {b₀ : Stmt} {x n C : Str} {ρ S : Type} {I : ρ → Outc} {pos pos' np : Pos}
theorem xfn_tr {X : Cx} (h : XFnX G N sc k X) {pn : List (Addr × Obj)} {xe : Value → Shared → Prop} (po : PassesOwn (model X.prog X.w) X.A X.env xe) : XFnX G N sc k (X.tr pn xe) :=
  ⟨⟨h.ok.nd, h.ok.eN, h.ok.eSc, h.ok.calm, h.ok.room, h.ok.gu, h.ok.me, h.ok.ePr, h.ok.eW, h.ok.eK, h.ok.eMg, h.ok.eBs, po⟩, h.fn, h.stk, h.frm⟩
/-- an except suite, for an exception of which z is known: e stands in slot i -/
structure EvH (G : Glb) (N : List Str) (sc : Scope) (k : Lv) (i : Nat) (env : Slots) (suite : List Stmt) (z : Exn) {S : Type} (m : M S) (E : S → Slots) : Prop where
  run : ∀ X, XFnX G N sc k X → ∀ a oe cls d pn, ExnIs G z cls d → L2N.Zn cls d oe → (∃ vs, oe.data = .fields vs) → ∀ P0 O0 H0 Kx, PSs (X.suite a ((a, oe) :: pn)) suite fun D σ H =>
    (∃ σ0, σ = σ0.set i (some (.ref a)) ∧ Stt G P0 O0 H0 Kx env σ0 H ∧ H a = none) ∧ m.Sat fun s => ∀ σ' H', Stt G P0 O0 H0 Kx (E s) (σ'.set i none) H' → D.nx σ' H'
/-- try: body / except C as n: suite -/
theorem esx_try (i : Nat) {mb : M (S ⊕ Exn)} {E : S → Slots} {ks : S → M (ρ ⊕ Exn)} {cV : Value} {cz : Exn → Option Bool} {mh : Exn → M S}
    (hb : EvSX G N sc k env body mb fun s => .nx (E s))
    (hC : ∀ X, XFnX G N sc k X → Names X x cV)
    (hz : ∀ z b cls d, cz z = some b → ExnIs G z cls d → PySem.W.exmOne G.K cls cV = some b)
    (hh : ∀ z, cz z = some true → EvH G N sc k i (unE env) (b₀ :: suite) z (mh z) E)
    (hr : ∀ s, EvSX G N sc k (E s) rest (ks s) I)
    (hE : ∀ s, (E s).length = env.length)
    (hi : N[i]? = some n := by rfl) (hln : ∀ X, XFnX G N sc k X → X.env.kindOf n = some .local) :
    EvSX G N sc k env (.Try body [.ExceptHandler (some (.Name x np)) (some n) (b₀ :: suite) pos'] [] [] pos :: rest) (mb.bind fun r => match r with
      | .inl s => ks s
      | .inr z => match cz z with
        | some true => (mh z).bind ks
        | some false => .ok (.inr z)
        | none => .err) I :=
  ⟨fun X hX W tk P0 O0 H0 Kx => by
    have o := hX.ok
    refine pss_step (ι := S) (u := fun s => tSX G P0 O0 H0 Kx (E s) (ks s) I W) (L2N.ps_try_as (i := i) hX.stk hX.frm (by rw [o.eN]; exact o.nd) (by rw [o.eN]; exact hi) (hln X hX) (hC X hX) tk
      (fun W' pn xe tk' po => hb.run _ (xfn_tr hX po) W' tk' P0 O0 H0 Kx)
      (fun a oe cls d pn zn fs => PSs_some fun q : { z // ExnIs G z cls d ∧ cz z = some true } => (hh q.1 q.2.2).run X hX a oe cls d pn q.2.1 zn fs P0 O0 H0 Kx)) (fun s => (hr s).run X hX W tk P0 O0 H0 Kx) fun D σ H ⟨s, q⟩ => ?_
    have hu : ∀ s, unE (E s) = unE env := fun s => by rw [unE, unE, hE]
    refine ⟨s, (M.sat_bind.mp q).mono fun r q1 => ?_⟩
    cases r with
    | inl s1 => exact fun σ' H' st => ⟨s1, st, by rw [hu]; exact q1⟩
    | inr z =>
      intro cls d σ' H' st hzi
      dsimp only at q1
      cases hc : cz z with
      | none => rw [hc] at q1; exact q1.elim
      | some b =>
        rw [hc] at q1
        refine ⟨b, by rw [o.eK]; exact hz z b cls d hc hzi, fun hb1 a na => ?_, fun hb0 => ?_⟩
        · subst hb1
          refine ⟨⟨z, hzi, hc⟩, ⟨σ', rfl, st, na⟩, (M.sat_bind.mp q1).mono fun s1 q2 σ2 H2 st2 => ⟨s1, st2, by rw [hu]; exact q2⟩⟩
        · subst hb0
          exact q1 cls d σ' H' st hzi⟩
/-- a def that lets none out is a def as the others -/
theorem fnd_of {kn m : Nat} {st : Stmt} {ps : List Str} {f : List AV → M (PyData ⊕ Exn)} (F : FnX G kn x st ps (spX G m f)) : FnD G kn x st ps (spF G m fun as => (f as).bind fun r => match r with
    | .inl d => .ok d
    | .inr _ => .err) := by
  obtain ⟨fa, fd, hm, FD, F⟩ := F.ex
  have conv : ∀ vs H Q E, spF G m (fun as => (f as).bind fun r => match r with | .inl d => .ok d | .inr _ => .err) vs H Q E → ∀ E', spX G m f vs H Q E' := fun vs H Q E ⟨hl, P, O, as, w, tb, r, q⟩ E' => ⟨hl, P, O, as, w, tb, r, (M.sat_bind.mp q).mono fun d q => by
    cases d with
    | inl d => exact q
    | inr z => exact q.elim⟩
  refine ⟨fa, fd, hm, FD, fun vs H Q E h => F.len vs H Q E0 (conv vs H Q E h E0), fun A outer s H args us vs Q hr hg e0 hb hv h => ?_⟩
  refine codeAny_mono (F.run A outer s H args us vs Q E0 hr hg e0 hb hv (conv vs H Q _ h E0)) fun r s' q => ?_
  match r, q with
  | .ok (.ret u), q => exact q
  | .error e, q =>
    obtain ⟨a, B, H', cls, d, _, _, _, _, _, _, _, hE⟩ := q
    exact hE.elim
theorem names_of {cV : Value} (hm : G.mg C = some cV) (hg : sc.names.lookup C = some .globalImplicit := by rfl) (hdb : (C == ("__debug__" : Str)) = false := by decide) : ∀ X, XFnX G N sc k X → Names X C cV := fun X hX =>
  ⟨by show X.env.scope.names.lookup _ = _; rw [hX.ok.eSc]; exact hg, hdb, .inl (by rw [hX.ok.eMg]; exact hm)⟩
end
end Ev

set_option Elab.async false
set_option linter.all false
set_option autoImplicit false
set_option maxRecDepth 100000
set_option maxHeartbeats 2000000
namespace Ev
open PySem PySem.Spec PyProof.Rows L2
section
variable {G : Glb} {P O P0 O0 : List Addr} {H H0 Kx : Hp} {env : Slots} {σ : L2.St} {i : Nat} {w : Option V}
theorem R.un (r : R G P O env σ H) (h : env[i]? = some .un) : R G P O env (σ.set i w) H := by
  refine ⟨r.wf, r.tabs, fun j sl e => ?_, by rw [List.length_set, r.len], fun p q ds es a h1 h2 h3 h4 => ?_⟩
  · by_cases hj : i = j
    · subst hj; rw [h] at e; cases e; trivial
    · rw [List.getElem?_set_ne hj]; exact r.at_ j sl e
  · have n1 : i ≠ p := fun e => by subst e; rw [h] at h1; cases h1
    have n2 : i ≠ q := fun e => by subst e; rw [h] at h2; cases h2
    rw [List.getElem?_set_ne n1] at h3
    rw [List.getElem?_set_ne n2] at h4
    exact r.dist p q ds es a h1 h2 h3 h4
theorem OwOut.un (r : OwOut O0 env σ) (h : env[i]? = some .un) : OwOut O0 env (σ.set i w) := fun p ds a h1 h2 => by
  have n1 : i ≠ p := fun e => by subst e; rw [h] at h1; cases h1
  rw [List.getElem?_set_ne n1] at h2
  exact r p ds a h1 h2
theorem At.un (s : At G P0 O0 H0 Kx P O env σ H) (h : env[i]? = some .un) : At G P0 O0 H0 Kx P O env (σ.set i w) H := ⟨s.w0, s.p0, s.o0, s.pn, s.on, s.e0, s.kx, s.ow.un h, s.r.un h⟩
end
/-- an expression in an except suite; the exception stands in slot i -/
structure EvHE (G : Glb) (N : List Str) (sc : Scope) (k : Lv) (i : Nat) (env : Slots) (z : Exn) (e : Expr) (m : M PyData) : Prop where
  run : ∀ X, XFnX G N sc k X → ∀ a oe cls d pn, ExnIs G z cls d → L2N.Zn cls d oe → (∃ vs, oe.data = .fields vs) → ∀ P O, PE (X.suite a ((a, oe) :: pn)) e fun σ H Q =>
    (R G P O env σ H ∧ σ[i]? = some (some (.ref a))) ∧ m.Sat fun d => ∀ v H', Ext G.T P H H' → Rp G.K (msk O H') v d → Q v H'
structure EvHA (G : Glb) (N : List Str) (sc : Scope) (k : Lv) (i : Nat) (env : Slots) (z : Exn) (es : List Expr) (m : M (List PyData)) : Prop where
  run : ∀ X, XFnX G N sc k X → ∀ a oe cls d pn, ExnIs G z cls d → L2N.Zn cls d oe → (∃ vs, oe.data = .fields vs) → ∀ P O, PA (X.suite a ((a, oe) :: pn)) es fun σ H Q =>
    (R G P O env σ H ∧ σ[i]? = some (some (.ref a))) ∧ m.Sat fun ds => ∀ vs H', Ext G.T P H H' → RpAll G.K (msk O H') vs ds → Q vs H'
section
variable {G : Glb} {N : List Str} {sc : Scope} {k : Lv} {env : Slots} {i : Nat} {z : Exn} {e : Expr} {es : List Expr} {m : M PyData} {ms : M (List PyData)} {pos p p2 p3 : Pos} {x y n C : Str} {s : Str} {kd : Nat}
theorem eh_str : EvHE G N sc k i env z (.Constant (.str s) kd pos) (.ok (.str s)) :=
  ⟨fun X hX a oe cls d pn _ _ _ P O => PE_imp pe_str fun σ H Q ⟨r, q⟩ => q _ H Ext.refl (.str _)⟩
theorem eha_nil : EvHA G N sc k i env z [] (.ok []) := ⟨fun X hX a oe cls d pn _ _ _ P O => PA_imp pa_nil fun σ H Q ⟨_, q⟩ => q [] H Ext.refl .nil⟩
theorem eha_cons (he : EvHE G N sc k i env z e m) (hs : EvHA G N sc k i env z es ms) (hn : notStar e = true := by rfl) : EvHA G N sc k i env z (e :: es) (m.bind fun d => ms.bind fun ds => .ok (d :: ds)) :=
  ⟨fun X hX a oe cls d pn h1 h2 h3 P O => PA_imp (pa_cons (he.run X hX a oe cls d pn h1 h2 h3 P O) (hs.run X hX a oe cls d pn h1 h2 h3 P O) (star_no hn)) fun σ H Q ⟨⟨r, hσ⟩, q⟩ => by
    refine ⟨⟨r, hσ⟩, (M.sat_bind.mp q).mono fun d q1 v H1 e1 r1 => ⟨⟨r.ext e1, hσ⟩, (M.sat_bind.mp q1).mono fun ds q2 vs H2 e2 r2 => ?_⟩⟩
    exact q2 _ H2 (e1.trans e2) (.cons (rp_mono (e2.kp (r.wf.ext e1)) r1) r2)⟩
theorem eh_isi {D T : Addr} {b : Bool} (hD : G.mg C = some (.ref D)) (ec : ExcC G.K D) (hT : G.mg y = some (.ref T)) (hb : PySem.W.kitOne G.K (.ref D) (.ref T) = some b) (hm : G.mg "isinstance" = none) (hN : N[i]? = some n := by rfl) (hv : Vis sc n := by first | exact Or.inl rfl | exact Or.inr (Or.inl rfl) | exact Or.inr (Or.inr rfl))
    (hvi : bootBuiltins ("isinstance" : Str) = some (.builtin "isinstance") := by decide +kernel) (hg : sc.names.lookup ("isinstance" : Str) = some .globalImplicit := by rfl) (hgy : sc.names.lookup y = some .globalImplicit := by rfl) (hd : (n == ("__debug__" : Str)) = false := by decide) (hcd : (n == ("__classdict__" : Str)) = false := by decide) (hdy : (y == ("__debug__" : Str)) = false := by decide) :
    EvHE G N sc k i env (.own C) (.Call (.Name "isinstance" p) [.Name n p2, .Name y p3] [] pos) (.ok (.bool b)) :=
  ⟨fun X hX a oe cls d pn h1 h2 h3 P O => by
    obtain ⟨hd0, hc⟩ := h1
    have e1 : cls = .ref D := by rw [hD] at hc; cases hc; rfl
    subst e1
    subst hd0
    have o := hX.ok
    refine PE_imp (pe_callB (call_isE (by rw [o.eK]; exact ec) h2.zc h3) (by show X.env.scope.names.lookup _ = _; rw [o.eSc]; exact hg) (by show X.mg _ = _; rw [o.eMg]; exact hm) hvi (pa_cons (pe_var (i := i) (by show X.N[i]? = _; rw [o.eN]; exact hN) (by show Vis X.env.scope n; rw [o.eSc]; exact hv) hd hcd) (pa_cons (pe_glob (v := .ref T) (by show X.env.scope.names.lookup _ = _; rw [o.eSc]; exact hgy) (by show X.mg _ = _; rw [o.eMg]; exact hT) rfl hdy) pa_nil))) fun σ H Q ⟨⟨r, hσ⟩, q⟩ => ?_
    exact ⟨.ref a, hσ, .ref T, .ref T, b, rfl, (fun u hu => hu), by rw [show (X.suite a ((a, oe) :: pn)).K = G.K from o.eK]; exact hb, q _ H Ext.refl (.bl b)⟩⟩
theorem eh_lst (hs : EvHA G N sc k i env z es ms) : EvHE G N sc k i env z (.List es pos) (ms.bind mkLst) :=
  ⟨fun X hX a oe cls d pn h1 h2 h3 P O => PE_imp (pe_lst (hs.run X hX a oe cls d pn h1 h2 h3 P O)) fun σ H Q ⟨r, q⟩ => by
    refine ⟨r, (M.sat_bind.mp q).mono fun ds q1 vs H1 e1 r1 => ?_⟩
    obtain ⟨hl, q1⟩ := sat_if q1
    exact ⟨by rw [rpAll_length r1]; exact hl, fun p n => q1 (.ref p) _ (e1.trans (Ext.new n)) (.lst ((msk_out (r.1.wf.freshF (e1.back n))).trans upd_same) (rpAll_mono kp_less (fresh_els (H1 := H1) (r.1.wf.ext e1) n r1 _)))⟩⟩
/-- x = e, the suite's only statement -/
theorem eh_set (j : Nat) (he : EvHE G N sc k i env z e m) (hij : i ≠ j) (hun : env[i]? = some .un) (hj : j < env.length) (hN : N[j]? = some x := by rfl) (hl : Loc sc x := by first | exact Or.inl rfl | exact Or.inr rfl)
    (hs : ∀ env : PySem.Env, env.scope = sc → swapsWith e (some (.Name x p)) pos.line env = pure false := by intro _ _; rfl) : EvH G N sc k i env [.Assign [.Name x p] e pos] z m fun d => env.set j (dS d) :=
  ⟨fun X hX a oe cls d pn h1 h2 h3 P0 O0 H0 Kx => by
    have o := hX.ok
    refine PSs_imp (pss_cons (ps_set (i := j) (by show X.N.Nodup; rw [o.eN]; exact o.nd) (by show X.N[j]? = _; rw [o.eN]; exact hN) (by show Loc X.env.scope x; rw [o.eSc]; exact hl) (PE_some fun q : List Addr × List Addr => he.run X hX a oe cls d pn h1 h2 h3 q.1 q.2) (hs _ o.eSc) (.inl (hX.fn x))) pss_nil) fun D σ H ⟨⟨σ0, e0, st, na⟩, q⟩ => ?_
    subst e0
    obtain ⟨P, O, s⟩ := st
    have hiL : i < σ0.length := by
      rw [s.r.len]
      exact (List.getElem?_eq_some_iff.mp hun).1
    refine ⟨(P, O), ⟨(s.un hun).r, List.getElem?_set_self hiL⟩, q.mono fun d2 q1 v H1 e1 r1 => ?_⟩
    refine q1 _ _ ⟨P, O, ?_⟩
    have s2 := (((s.un (w := some (.ref a)) hun).ext e1).set (a := .d d2) r1 hj)
    exact s2.un (w := none) (by rw [List.getElem?_set_ne (fun e => hij e.symm)]; exact hun)⟩
end
end Ev

set_option Elab.async false
set_option linter.all false
set_option autoImplicit false
set_option maxRecDepth 100000
set_option maxHeartbeats 2000000
namespace Ev
open PySem PySem.Spec PyProof.Rows L2
/-- data arguments, each of which may let an exception out -/
structure EvAX (G : Glb) (N : List Str) (sc : Scope) (k : Lv) (env : Slots) (es : List Expr) (m : M (List PyData ⊕ Exn)) : Prop where
  run : ∀ X, XOk G N sc k X → ∀ W, L2N.Takes X W → ∀ P O, PA X es fun σ H Q => R G P O env σ H ∧ m.Sat fun r => match r with
    | .inl ds => ∀ vs H', Ext G.T P H H' → RpAll G.K (msk O H') vs ds → Q vs H'
    | .inr z => ∀ cls d H', Ext G.T P H H' → ExnIs G z cls d → W cls d σ H'
section
variable {G : Glb} {N : List Str} {sc : Scope} {k : Lv} {env : Slots} {e : Expr} {es : List Expr} {m : M (PyData ⊕ Exn)} {ms : M (List PyData ⊕ Exn)} {pos : Pos}
theorem eax_nil : EvAX G N sc k env [] (.ok (.inl [])) := ⟨fun X hX W tk P O => PA_imp pa_nil fun σ H Q ⟨_, q⟩ => q [] H Ext.refl .nil⟩
theorem eax_cons (he : EvEX G N sc k env e m) (hs : EvAX G N sc k env es ms) (hn : notStar e = true := by rfl) : EvAX G N sc k env (e :: es) (bindX m fun d => bindX ms fun ds => .ok (.inl (d :: ds))) :=
  ⟨fun X hX W tk P O => PA_imp (pa_cons (he.run X hX W tk P O) (hs.run X hX W tk P O) (star_no hn)) fun σ H Q ⟨r, q⟩ => by
    refine ⟨r, (bindX_sat q).mono fun d q1 => ?_⟩
    cases d with
    | inr z => exact q1
    | inl d =>
      intro v H1 e1 r1
      refine ⟨r.ext e1, (bindX_sat q1).mono fun ds q2 => ?_⟩
      cases ds with
      | inr z => exact fun cls d H' e2 hz => q2 cls d H' (e1.trans e2) hz
      | inl ds => exact fun vs H2 e2 r2 => q2 _ H2 (e1.trans e2) (.cons (rp_mono (e2.kp (r.wf.ext e1)) r1) r2)⟩
theorem evx_lst (hs : EvAX G N sc k env es ms) : EvEX G N sc k env (.List es pos) (bindX ms fun ds => (mkLst ds).bind fun d => .ok (.inl d)) :=
  ⟨fun X hX W tk P O => PE_imp (pe_lst (hs.run X hX W tk P O)) fun σ H Q ⟨r, q⟩ => by
    refine ⟨r, (bindX_sat q).mono fun ds q1 => ?_⟩
    cases ds with
    | inr z => exact q1
    | inl ds =>
      intro vs H1 e1 r1
      have q1 := M.sat_bind.mp q1
      obtain ⟨hl, q1⟩ := sat_if q1
      exact ⟨by rw [rpAll_length r1]; exact hl, fun p n => q1 (.ref p) _ (e1.trans (Ext.new n)) (.lst ((msk_out (r.wf.freshF (e1.back n))).trans upd_same) (rpAll_mono kp_less (fresh_els (H1 := H1) (r.wf.ext e1) n r1 _)))⟩⟩
end
end Ev

set_option Elab.async false
set_option linter.all false
set_option autoImplicit false
set_option maxRecDepth 100000
set_option maxHeartbeats 2000000
namespace Ev
open PySem PySem.Spec PyProof.Rows L2
/-! ### the head's facts of classes -/
def rtBase : List Value := [.type "RuntimeError", .type "Exception", .type "BaseException", .type "object"]
def vlBase : List Value := [.type "ValueError", .type "Exception", .type "BaseException", .type "object"]
/-- exceptions of this class are made without fields; nw: its builtin maker -/
def excT (K : PySem.W.Frag) (C : Str) (bmB : List Value) (nw : String) : Bool := PySem.W.excIn K (He.ga K C) bmB nw && (PySem.W.keepIn K (.ref (He.ga K C)) && (decide (PySem.W.subIn K (.ref (He.ga K C)) (.type "BaseException") = some true) && decide (PySem.W.typeIn K (.ref (He.ga K C)) = some (.type "type"))))
/-- what isinstance asks of the class of an exception -/
def excCT (K : PySem.W.Frag) (C : Str) : Bool :=
  decide (PySem.W.findIn K (.ref (He.ga K C)) "__getattribute__" = some (some (.builtin "BaseException.__getattribute__"))) && (decide (PySem.W.findIn K (.ref (He.ga K C)) "__getattr__" = some none) && (decide (PySem.W.subIn K (.ref (He.ga K C)) (.type "BaseException") = some true) &&
  (PySem.W.hasDictIn K (He.ga K C) && (decide (PySem.W.findIn K (.ref (He.ga K C)) "__class__" = some (some (.builtin "object.__class__"))) && (decide (PySem.W.specialIn K (.builtin "object.__class__") "__get__" = some (some (.builtin "getset_descriptor.__get__"))) &&
  (decide (PySem.W.takesIn K (.builtin "object.__class__") = some true) && decide (PySem.W.mroIn K (He.ga K C) (.type "object") = some true)))))))
/-- is an exception of class C one of T -/
def excM (K : PySem.W.Frag) (C T : Str) (b : Bool) : Bool := decide (PySem.W.exmOne K (.ref (He.ga K C)) (.ref (He.ga K T)) = some b) && decide (PySem.W.kitOne K (.ref (He.ga K C)) (.ref (He.ga K T)) = some b)
structure ExcCa (G : Glb) (C : Str) : Prop where
  ex : ∃ D, G.mg C = some (.ref D) ∧ ExcC G.K D
structure ExcMa (G : Glb) (C T : Str) (b : Bool) : Prop where
  ex : ∃ D E, G.mg C = some (.ref D) ∧ G.mg T = some (.ref E) ∧ PySem.W.exmOne G.K (.ref D) (.ref E) = some b ∧ PySem.W.kitOne G.K (.ref D) (.ref E) = some b
section
variable {G : Glb} {C T : Str} {b : Bool}
theorem and_both {a b : Bool} (h : (a && b) = true) : a = true ∧ b = true := Bool.and_eq_true_iff.mp h
theorem excOk_rt (m : G.mg C = some (.ref (He.ga G.K C))) (h : excT G.K C rtBase "RuntimeError.__new__" = true) : ExcOk G C := by
  obtain ⟨h1, h⟩ := and_both h
  obtain ⟨h2, h⟩ := and_both h
  obtain ⟨h3, h4⟩ := and_both h
  exact ⟨_, "RuntimeError", _, "RuntimeError.__init__", _, PySem.F.excBase_RuntimeError, h1, m, h2, of_decide_eq_true h3, of_decide_eq_true h4⟩
theorem excCa_of (m : G.mg C = some (.ref (He.ga G.K C))) (h : excCT G.K C = true) : ExcCa G C := by
  obtain ⟨h1, h⟩ := and_both h
  obtain ⟨h2, h⟩ := and_both h
  obtain ⟨h3, h⟩ := and_both h
  obtain ⟨h4, h⟩ := and_both h
  obtain ⟨h5, h⟩ := and_both h
  obtain ⟨h6, h⟩ := and_both h
  obtain ⟨h7, h8⟩ := and_both h
  exact ⟨_, m, of_decide_eq_true h1, of_decide_eq_true h2, of_decide_eq_true h3, h4, of_decide_eq_true h5, of_decide_eq_true h6, of_decide_eq_true h7, of_decide_eq_true h8⟩
theorem excMa_of (m : G.mg C = some (.ref (He.ga G.K C))) (m2 : G.mg T = some (.ref (He.ga G.K T))) (h : excM G.K C T b = true) : ExcMa G C T b := by
  obtain ⟨h1, h2⟩ := and_both h
  exact ⟨_, _, m, m2, of_decide_eq_true h1, of_decide_eq_true h2⟩
end
section
variable {G : Glb} {N : List Str} {sc : Scope} {k : Lv} {env : Slots} {rest body suite : List Stmt} {b₀ : Stmt} {x n C T : Str} {ρ S : Type} {I : ρ → Outc} {pos pos' np p p2 p3 : Pos} {i : Nat} {b : Bool}
/-- a def that makes lambdas -/
theorem fn_okXM {kn : Nat} {st : Stmt} {ps : List Str} {f : List AV → M (PyData ⊕ Exn)} {fa : Addr} {fd : FuncData} {me : Option (Addr × Addr × Str)} (F : FunD G.K x x (defArgs st) (defBody st) (defScope st) [] [] fa fd) (hm : G.mg x = some (.ref fa)) (S : FnScope N ps (defScope st))
    (hme : ∀ c P q, me = some (c, P, q) → cdOf fd = .ref c ∧ x ++ ".<locals>." = q)
    (hb : ∀ as : List AV, as.length = ps.length → EvSX G N (defScope st) ⟨kn, me⟩ (startE N as) (defBody st) (f as) Outc.fn) : FnX G (kn + 1) x st ps (spX G ps.length f) :=
  ⟨fa, fd, hm, F, fgx_of F S (fun vs H Q E h => h.1) fun A outer s H vs Q E hr hg hsp => by
    obtain ⟨hl, P, O, as, w, tb, r, q⟩ := hsp
    refine ⟨_, (hb as (by rw [← relAs_len r]; exact hl)).run _ (xfnx_of (k := ⟨kn, me⟩) S.nd hr hg hme) _ (L2N.takes_of rfl rfl rfl rfl) P O H (msk O H), start_stt w tb r, q.mono fun d h => ?_⟩
    cases d with
    | inl d =>
      refine ⟨h, fun hd σ' H' e => ?_⟩
      subst hd
      exact h _ _ e .non
    | inr z => exact fun cls d σ' H' e hz => h cls d H' (let ⟨_, _, t⟩ := e; t.e0) hz⟩
/-- the try: body / except C as n: suite, C the very class of the exception -/
def czOne (C : Str) : Exn → Option Bool
  | .own c => if c = C then some true else none
def tryM (C : Str) (mb : M (S ⊕ Exn)) (mh : M S) (ks : S → M (ρ ⊕ Exn)) : M (ρ ⊕ Exn) := mb.bind fun r => match r with
  | .inl s => ks s
  | .inr z => match czOne C z with
    | some true => mh.bind ks
    | some false => .ok (.inr z)
    | none => .err
theorem esx_try1 (i : Nat) {mb : M (S ⊕ Exn)} {E : S → Slots} {ks : S → M (ρ ⊕ Exn)} {mh : M S}
    (hC : ExcMa G C C true)
    (hb : EvSX G N sc k env body mb fun s => .nx (E s))
    (hh : EvH G N sc k i (unE env) (b₀ :: suite) (.own C) mh E)
    (hr : ∀ s, EvSX G N sc k (E s) rest (ks s) I)
    (hE : ∀ s, (E s).length = env.length)
    (hi : N[i]? = some n := by rfl) (hln : sc.names.lookup n = some .local := by rfl)
    (hg : sc.names.lookup C = some .globalImplicit := by rfl) (hdb : (C == ("__debug__" : Str)) = false := by decide) :
    EvSX G N sc k env (.Try body [.ExceptHandler (some (.Name C np)) (some n) (b₀ :: suite) pos'] [] [] pos :: rest) (tryM C mb mh ks) I := by
  obtain ⟨D, D', m1, m2, h1, h2⟩ := hC.ex
  rw [m1] at m2
  cases m2
  refine esx_try i (cV := .ref D) (cz := czOne C) (mh := fun _ => mh) hb (names_of m1 hg hdb) (fun z b cls d hz he => ?_) (fun z hz => ?_) hr hE hi (fun X hX => ?_)
  · cases z with
    | own c =>
      obtain ⟨_, hc⟩ := he
      unfold czOne at hz
      dsimp only at hz
      by_cases e : c = C
      · rw [if_pos e] at hz
        subst e
        have hb2 := Option.some.inj hz
        subst hb2
        rw [m1] at hc
        cases hc
        exact h1
      · rw [if_neg e] at hz
        cases hz
  · cases z with
    | own c =>
      unfold czOne at hz
      dsimp only at hz
      by_cases e : c = C
      · subst e
        exact hh
      · rw [if_neg e] at hz
        cases hz
  · show X.env.scope.names.lookup n = _
    rw [hX.ok.eSc]
    exact hln
theorem eh_isi1 (hD : ExcCa G C) (hT : ExcMa G C T b) (hm : G.mg "isinstance" = none) (hN : N[i]? = some n := by rfl) (hv : Vis sc n := by first | exact Or.inl rfl | exact Or.inr (Or.inl rfl) | exact Or.inr (Or.inr rfl))
    (hg : sc.names.lookup ("isinstance" : Str) = some .globalImplicit := by rfl) (hgy : sc.names.lookup T = some .globalImplicit := by rfl) (hd : (n == ("__debug__" : Str)) = false := by decide) (hcd : (n == ("__classdict__" : Str)) = false := by decide) (hdy : (T == ("__debug__" : Str)) = false := by decide) :
    EvHE G N sc k i env (.own C) (.Call (.Name "isinstance" p) [.Name n p2, .Name T p3] [] pos) (.ok (.bool b)) := by
  obtain ⟨D, m, c⟩ := hD.ex
  obtain ⟨D', E, m1, m2, h1, h2⟩ := hT.ex
  rw [m] at m1
  cases m1
  exact eh_isi m c m2 h2 hm hN hv (by decide +kernel) hg hgy hd hcd hdy
end
end Ev

set_option Elab.async false
set_option linter.all false
set_option autoImplicit false
set_option maxRecDepth 100000
set_option maxHeartbeats 3200000
/-! sets of tuples of whole numbers: set(xs) of a tuple, sorted(set(xs)), len(set(xs)) -/
namespace L2
open PySem PySem.Spec PyProof.Rows
/-- a new set's object -/
abbrev nwS (w : World) : Obj :=
  { cls := .type "set", dict := none,
    data := .set #[] 0 (.fresh 0 0 (!w.params.followText "set-order")) }
section
variable {P : Program} {w : World} {A : Around} {E : Value → Shared → Prop} {s : Shared}
/-- set(xs), xs a tuple of tuples of whole numbers -/
theorem set_tupT {l : Addr} {items : Array Value} (kv : List (Addr × List Int)) {Q : Value → Shared → Prop} (yH : A.handled = none) (yL : s.heap.IsTuple l items) (yIt : items.toList = kv.map fun p => Value.ref p.1)
    (yK : ∀ p ∈ kv, IsT P w s.heap p.2 p.1) (yFew : kv.length < 64) (yU : A.units + 3 < cLine)
    (h : ∀ (h' : Heap) (tk : Nat) L es ep t, SetTR P w h' s.heap.objs.size L es ep t → Got kv kv.length L → (∀ b o, s.heap.get? b = some o → h'.get? b = some o) → Q (.ref s.heap.objs.size) { s with heap := h', toks := tk }) :
    wpAny (model P w) A (call (.type "set") [.ref l]) Q E s := by
  have zIt : items.size = kv.length := by
    have q := congrArg List.length yIt
    rw [Array.length_toList, List.length_map] at q
    exact q
  obtain ⟨c, tl, zMro⟩ := F.called_set.mro
  have zMk := F.called_set.made
  have zSb := F.called_set.sub
  refine wpAny_call (codeAny_of_tree ?_)
  show wpAny _ _ (callAny (.type "set") _) _ _ _
  refine wpAny_pure ⟨Code.quiet_builtin _ (by decide +kernel), codeAny_builtin F.entry_type_call ?_⟩
  rw [Around.under_plain (weight_type_call_type "set" [.ref l] []) rfl]
  have h1 := F.called_set.notType
  have h2 := F.called_set.canCreate
  have zCt := F.typeCall_set_1 (.ref l)
  repeat (any_goals (first | assumption | wp_step))

  refine codeAny_mono (code_set_led1 (.ref l) (E := E) (Q₁ := fun obj s₁ => obj = .ref s.heap.objs.size ∧ s₁ = { s with heap := s.heap.push (nwS w) }) ⟨rfl, rfl⟩) fun r s₁ zR => ?_
  cases r with
  | error e => exact zR
  | ok fl =>
    cases fl with
    | ret obj =>
      obtain ⟨rfl, rfl⟩ := zR
      have zS : (s.heap.push (nwS w)).get? s.heap.objs.size = some (nwS w) := Heap.get?_push_size _ rfl
      have zT : Shared.TypeIs { s with heap := s.heap.push (nwS w) } (.ref s.heap.objs.size) "set" := ⟨_, zS, rfl⟩
      have zLi := F.called_set.init.lookup
      have zBi := F.called_set.init.bind (.ref s.heap.objs.size)
      repeat (any_goals (first | assumption | wp_step))

      refine codeAny_mono (codeAny_call_builtin (R := wants (fun r s₂ => r = .none ∧ ∃ h' tk L es ep t, s₂ = { s with heap := h', toks := tk } ∧ SetTR P w h' s.heap.objs.size L es ep t ∧ Got kv kv.length L ∧
          (∀ b o, s.heap.get? b = some o → h'.get? b = some o)) E) F.called_set.init.plain F.entry_set_init (check_set_init_1 zT ?_)) fun r₂ s₂ hr₂ => ?_
      · obtain ⟨ol, zOl, zCl, nl, zDl⟩ := yL
        obtain ⟨oC, oD, oE, oF⟩ := ol
        simp only at zCl zDl
        subst zCl; subst zDl
        have zOl' : (s.heap.push (nwS w)).get? l = some { cls := .type "tuple", dict := oD, data := .seq items nl, slots := oF } := Heap.get?_push_of_some _ zOl
        have zA1 := F.sub_tuple_set
        have zA2 := F.sub_tuple_frozenset
        have zA3 : (Value.type "tuple" == Value.type "dict") = false := by decide
        have zL1 : (s.heap.push (nwS w)).IsTuple l items := ⟨_, zOl', rfl, nl, rfl⟩
        unfold Builtin.«set.__init__» noKeywords Builtin.Frozenset.updateFrom
        generalize zPI : pyIter = pI
        wp_walk
        subst zPI

        refine wpAny_pyIter_tuple zL1 ?_
        refine wpAny_bind (wpAny_runValue ?_)
        have zL : l < s.heap.objs.size := Heap.lt_size zOl
        have zH3 : A.in1.in1.in1.handled = none := by simp [yH]
        have zZ1 : (s.heap.push (nwS w)).objs.size = s.heap.objs.size + 1 := Heap.size_push ..
        have zNe : l ≠ (s.heap.push (nwS w)).objs.size := by
          rw [Heap.size_push]; exact Nat.ne_of_lt (Nat.lt_succ_of_lt zL)
        have zSf : s.heap.objs.size ∉ [(s.heap.push (nwS w)).objs.size, l] := by
          rw [Heap.size_push]; simp only [List.mem_cons, List.mem_singleton, List.not_mem_nil, or_false, not_or]
          exact ⟨Nat.ne_of_lt (Nat.lt_succ_self _), Nat.ne_of_gt zL⟩
        have zVal : ∀ (i : Nat) (v : Value), items[i]? = some v → ∃ p, kv[i]? = some p ∧ v = .ref p.1 := fun i v hv => by
          have q : items.toList[i]? = some v := by rw [Array.getElem?_toList]; exact hv
          rw [yIt, List.getElem?_map] at q
          cases hq : kv[i]? with
          | none => rw [hq] at q; cases q
          | some p =>
            rw [hq] at q
            exact ⟨p, rfl, (Option.some.inj q).symm⟩
        have zNone : ∀ b, s.heap.objs.size ≤ b → s.heap.get? b = none := fun b hb => by
          cases q : s.heap.get? b with
          | none => rfl
          | some o => exact absurd (Nat.lt_of_lt_of_le (Heap.lt_size q) hb) (Nat.lt_irrefl _)
        refine set_update_tups ((Walks.tuple zH3 _ l zNe items).toS) s.heap.objs.size
          zSf kv zIt yFew zVal s.heap yK (zNone _ (Nat.le_refl _)) (fun b hb => zNone b (by
            rw [List.mem_singleton.mp hb, Heap.size_push]
            exact Nat.le_succ _)) yU (items.size - 0) 0 _ (by omega) (Nat.zero_le _)
          ⟨⟨_, Heap.get?_push_size _ rfl, rfl, rfl⟩, (zL1.push _)⟩ (fun b o e => Heap.get?_push_of_some _ (Heap.get?_push_of_some _ e)) ?hS0 ?hR
        case hS0 =>
          have zGet : ((s.heap.push (nwS w)).push { cls := .type "tuple_iterator", data := .fields #[.ref l, .int 0 0] }).get? s.heap.objs.size
              = some (nwS w) := Heap.get?_push_of_some _ zS
          exact ⟨[], #[], 0, _, setTR_fresh zGet, Got.zero kv⟩
        case hR =>
          intro s' L es ep t hm hS' g' zKp
          obtain ⟨h', g2, d', tk', os'⟩ := s'
          have w1 : g2 = s.gens := hm.gens
          have w2 : d' = s.drawn := hm.drawn
          have w3 : os' = s.os := hm.os
          subst w1; subst w2; subst w3
          show wpAny _ _ _ _ _ _
          refine wpAny_pure ?_
          show wpAny _ _ (ret Value.none) _ _ _
          rw [zIt] at g'
          exact wpAny_pure ⟨rfl, h', tk', L, es, ep, t, rfl, hS', g', zKp⟩

      · cases r₂ with
        | error e => exact hr₂
        | ok fl₂ =>
          cases fl₂ with
          | ret r =>
            obtain ⟨rfl, h', tk, L, es, ep, t, rfl, hS', g', hk'⟩ := hr₂
            repeat (any_goals (first | assumption | wp_step))
            exact h _ _ _ _ _ _ hS' g' hk'
          | _ => exact hr₂.elim
    | _ => exact zR.elim

end
end L2

set_option Elab.async false
set_option linter.all false
set_option autoImplicit false
set_option maxRecDepth 100000
set_option maxHeartbeats 800000
namespace L2
open PySem PySem.Spec PyProof.Rows
/-- a tuple of whole numbers, as data -/
abbrev tupI (k : List Int) : PyData := .tuple (k.map .int)
theorem rowLt_tupI (a b : List Int) : W.dataLt (tupI a) (tupI b) = decide (a < b) := by
  rw [W.dataLt_tuple]
  exact W.dataLt_ints a b
theorem dataLe_tupI {β : Type} (x : β → List Int) : W.dataLe false (fun b => tupI (x b)) = fun p q => !decide (x q < x p) := by
  rw [W.dataLe_eq]
  funext p q
  show (!W.dataLt (tupI (x q)) (tupI (x p))) = _
  rw [rowLt_tupI]
/-! sorted, each once -/
def insL (x : List Int) : List (List Int) → List (List Int)
  | [] => [x]
  | y :: r => if x < y then x :: y :: r else if x = y then y :: r else y :: insL x r
def ssetL (L : List (List Int)) : List (List Int) := L.foldr insL []
theorem insL_mem {x z : List Int} : ∀ {l : List (List Int)}, z ∈ insL x l ↔ z = x ∨ z ∈ l
  | [] => by simp [insL]
  | y :: r => by
    unfold insL
    split
    · simp
    · split
      · rename_i h; subst h; simp
      · rw [List.mem_cons, insL_mem, List.mem_cons]
        constructor
        · rintro (h | h | h) <;> simp [h]
        · rintro (h | h | h) <;> simp [h]
theorem ltL_tri {x y : List Int} (h1 : ¬ x < y) (h2 : ¬ x = y) : y < x := Classical.byContradiction fun h => h2 (List.le_antisymm (List.not_lt.mp h) (List.not_lt.mp h1))
theorem insL_sorted {x : List Int} : ∀ {l : List (List Int)}, l.Pairwise (· < ·) → (insL x l).Pairwise (· < ·)
  | [], _ => by simp [insL]
  | y :: r, h => by
    have h' := List.pairwise_cons.mp h
    unfold insL
    split
    · rename_i hx
      refine List.pairwise_cons.mpr ⟨fun z hz => ?_, h⟩
      rcases List.mem_cons.mp hz with e | e
      · subst e; exact hx
      · exact List.lt_trans hx (h'.1 z e)
    · split
      · exact h
      · rename_i h1 h2
        refine List.pairwise_cons.mpr ⟨fun z hz => ?_, insL_sorted h'.2⟩
        rcases insL_mem.mp hz with e | e
        · subst e; exact ltL_tri h1 h2
        · exact h'.1 z e
theorem ssetL_mem {z : List Int} : ∀ {l : List (List Int)}, z ∈ ssetL l ↔ z ∈ l
  | [] => by simp [ssetL]
  | y :: r => by
    show z ∈ insL y (ssetL r) ↔ _
    rw [insL_mem, ssetL_mem, List.mem_cons]
theorem ssetL_sorted : ∀ {l : List (List Int)}, (ssetL l).Pairwise (· < ·)
  | [] => List.Pairwise.nil
  | y :: r => insL_sorted (ssetL_sorted (l := r))
theorem risingL_eq : ∀ {l r : List (List Int)}, l.Pairwise (· < ·) → r.Pairwise (· < ·) → (∀ z, z ∈ l ↔ z ∈ r) → l = r
  | [], [], _, _, _ => rfl
  | [], y :: r, _, _, h => absurd ((h y).mpr List.mem_cons_self) (by simp)
  | x :: l, [], _, _, h => absurd ((h x).mp List.mem_cons_self) (by simp)
  | x :: l, y :: r, hl, hr, h => by
    have hl' := List.pairwise_cons.mp hl
    have hr' := List.pairwise_cons.mp hr
    have e : x = y := by
      rcases List.mem_cons.mp ((h x).mp List.mem_cons_self) with e | e
      · exact e
      · rcases List.mem_cons.mp ((h y).mpr List.mem_cons_self) with e2 | e2
        · exact e2.symm
        · exact absurd (hr'.1 x e) (List.lt_asymm (hl'.1 y e2))
    subst e
    rw [risingL_eq hl'.2 hr'.2 fun z => ?_]
    constructor
    · intro hz
      rcases List.mem_cons.mp ((h z).mp (List.mem_cons_of_mem _ hz)) with e | e
      · subst e; exact absurd (hl'.1 z hz) (List.lt_irrefl z)
      · exact e
    · intro hz
      rcases List.mem_cons.mp ((h z).mpr (List.mem_cons_of_mem _ hz)) with e | e
      · subst e; exact absurd (hr'.1 z hz) (List.lt_irrefl z)
      · exact e
theorem alike_tupI (L : List (List Int)) : ∀ d ∈ L.map tupI, ∀ e ∈ L.map tupI, W.alike d e = true := fun d hd e he => by
  obtain ⟨a, _, rfl⟩ := List.mem_map.mp hd
  obtain ⟨b, _, rfl⟩ := List.mem_map.mp he
  rw [W.alike]
  exact W.alike_ints a b
theorem depth_tupI : ∀ L : List (List Int), PyData.depthAll (L.map tupI) ≤ 1
  | [] => by rw [List.map_nil, PyData.depthAll]; omega
  | a :: r => by
    rw [List.map_cons, PyData.depthAll, PyData.depth, W.depth_ints]
    have := depth_tupI r
    omega
theorem canSort_tupI {L : List (List Int)} (h : L.length < 64) : Ev.canSort (L.map tupI) = true := by
  unfold Ev.canSort
  simp only [Bool.and_eq_true, Bool.or_eq_true, decide_eq_true_eq, List.all_eq_true]
  refine ⟨⟨⟨alike_tupI L, Nat.le_trans (depth_tupI L) (by omega)⟩, by rw [List.length_map, sizeLine_eq]; omega⟩, .inl fun d hd => ?_⟩
  obtain ⟨a, _, rfl⟩ := List.mem_map.mp hd
  rfl
section
variable {P : Program} {w : World} {A : Around} {E : Value → Shared → Prop} {s : Shared}
theorem reads_ints {h : Heap} : ∀ {k : List Int} {vs : List Value}, ItemsAre (intKind P w) k vs → ReadsAll h vs (k.map .int) []
  | [], _, .nil => .nil
  | _ :: _, _, .cons h1 t => by
    obtain ⟨tk, rfl⟩ := Value.isInt_shape h1
    exact .cons (.int _ tk) (reads_ints t)
theorem reads_tupI {h : Heap} {k : List Int} {b : Addr} (x : IsT P w h k b) : Reads h (.ref b) (tupI k) [] := by
  obtain ⟨o, items, n, ho, hc, hd, hi⟩ := x
  exact .tuple ho hc hd (reads_ints hi)
theorem each_tup {R : Value → Addr × List Int → Prop} : ∀ {L1 : List (Addr × List Int)}, (∀ q ∈ L1, R (.ref q.1) q) → W.EachIs R (L1.map fun q => Value.ref q.1) L1
  | [], _ => .nil
  | q :: L1, h => .cons (h q List.mem_cons_self) (each_tup fun r hr => h r (List.mem_cons_of_mem _ hr))
theorem each_tupD {h : Heap} : ∀ {L1 : List (Addr × List Int)}, (∀ q ∈ L1, IsT P w h q.2 q.1) → W.EachIs (fun v d => ∃ as, Reads h v d as) (L1.map fun q => Value.ref q.1) (L1.map fun q => tupI q.2)
  | [], _ => .nil
  | q :: L1, k => .cons ⟨[], reads_tupI (k q List.mem_cons_self)⟩ (each_tupD fun r hr => k r (List.mem_cons_of_mem _ hr))
theorem each_ref : ∀ {vs : List Value} {L1 : List (Addr × List Int)}, W.EachIs (fun v (q : Addr × List Int) => v = Value.ref q.1) vs L1 → vs = L1.map fun q => Value.ref q.1
  | _, _, .nil => rfl
  | _, _, .cons e t => by rw [List.map_cons, e, each_ref t]
theorem map_tupI (L1 : List (Addr × List Int)) : (L1.map fun q => tupI q.2) = (L1.map (·.2)).map tupI := by rw [List.map_map]; rfl
theorem sorts_t {s : Shared} {L1 : List (Addr × List Int)} (k : ∀ q ∈ L1, IsT P w s.heap q.2 q.1) (n : L1.length < 64) (u : A.units + 61 < cLine) : W.SortsAt P w A s (W.dataKind s.heap (L1.map fun q => tupI q.2)) (L1.map fun q => Value.ref q.1) :=
  Ev.sorts_can (each_tupD k) (by rw [map_tupI]; exact canSort_tupI (by rw [List.length_map]; exact n)) u
theorem sorted_t {h : Heap} {L1 : List (Addr × List Int)} (k : ∀ q ∈ L1, IsT P w h q.2 q.1) : W.sortVals (W.dataKind h (L1.map fun q => tupI q.2)) false (L1.map fun q => Value.ref q.1) (L1.map fun q => Value.ref q.1) = (L1.mergeSort (W.dataLe false fun q : Addr × List Int => tupI q.2)).map fun q => Value.ref q.1 := by
  have al : W.AllAlike (L1.map fun q => tupI q.2) := by
    rw [map_tupI]
    exact alike_tupI _
  have e1 : W.EachIs (fun v (q : Addr × List Int) => v = Value.ref q.1) (L1.map fun q => Value.ref q.1) L1 := each_tup fun _ _ => rfl
  have e2 : W.EachIs (fun v (q : Addr × List Int) => ∃ as, Reads h v (tupI q.2) as) (L1.map fun q => Value.ref q.1) L1 := each_tup fun q hq => ⟨[], reads_tupI (k q hq)⟩
  exact each_ref (W.sortVals_data (h' := h) (enc := fun q : Addr × List Int => tupI q.2) false e1 e2 al)
/-- sorted(s), s a set of tuples of whole numbers of any length -/
theorem sort_setG {a : Addr} {L : List (Addr × List Int)} {es : Array (Int × Value)} {ep : Nat} {t : SetTable} {Q : Value → Shared → Prop}
    (R : SetTR P w s.heap a L es ep t) (noH : A.handled = none) (roomA : A.units + 63 < cLine)
    (fin : ∀ s' p (out : Array Value) (c : Nat) (L' : List (Addr × List Int)), (∀ b o, s.heap.get? b = some o → s'.heap.get? b = some o) → s'.gens = s.gens → s'.os = s.os → s.heap.objs.size ≤ p →
      s'.heap.get? p = some (seqObj "list" out c) → out.toList = L'.map (fun q => Value.ref q.1) → L'.Perm L → L'.map (·.2) = ssetL (L.map (·.2)) → Q (.ref p) s') :
    wpAny (model P w) A (call (.builtin "sorted") [.ref a]) Q E s := by
  obtain ⟨oS, gS, exS, dS⟩ := R.ob
  have nS := R.size
  have fS := R.few
  refine Calls.call_function_entry kind_sorted plain_sorted entry_sorted (args_sorted1 _) ?_
  unfold Builtin.«sorted»
  refine wpAny_bind (m := checkCount "sorted" 1 1 _) (wpAny_pure ?_)
  refine wpAny_bind (collect_set (A := A.in1) noH ⟨oS, gS, exS.1, dS⟩ R.fits (by unfold scanBound; omega) R.tab.ris R.led fun s1 vs k1 hz g1 o1 pm => ?_)
  have eRows : es.toList.map (·.2) = L.map fun q => Value.ref q.1 := by
    rw [R.rows, rowsOf, List.map_map]
    rfl
  rw [eRows] at pm
  obtain ⟨L1, e1, sub1⟩ : ∃ L1 : List (Addr × List Int), vs = L1.map (fun q => Value.ref q.1) ∧ ∀ q ∈ L1, q ∈ L := by
    have go : ∀ us : List Value, (∀ v ∈ us, ∃ q ∈ L, v = Value.ref q.1) → ∃ L1 : List (Addr × List Int), us = L1.map (fun q => Value.ref q.1) ∧ ∀ q ∈ L1, q ∈ L := fun us => by
      induction us with
      | nil => exact fun _ => ⟨[], rfl, fun q hq => nomatch hq⟩
      | cons v us ih =>
        intro k
        obtain ⟨q, hq, eq⟩ := k v List.mem_cons_self
        obtain ⟨M, em, sm⟩ := ih fun u hu => k u (List.mem_cons_of_mem _ hu)
        exact ⟨q :: M, by rw [List.map_cons, eq, em], fun r hr => (List.mem_cons.mp hr).elim (fun z => z ▸ hq) (sm r)⟩
    exact go vs fun v hv => by
      obtain ⟨q, hq, eq⟩ := List.mem_map.mp (pm.mem_iff.mp hv)
      exact ⟨q, hq, eq.symm⟩
  subst e1
  have uniq : ∀ q ∈ L, ∀ r ∈ L, q.1 = r.1 → q = r := fun q hq r hr e => by
    have a1 := R.tup q hq
    rw [e] at a1
    exact Prod.ext e (a1.inj (R.tup r hr))
  have ndL : L.Nodup := nodup_of_map R.nd
  have ndR : (L.map fun q => Value.ref q.1).Nodup := List.pairwise_map.mpr (List.Pairwise.imp_of_mem (fun {q r} hq hr ne e => by
    injection e with e
    exact ne (uniq q hq r hr e)) ndL)
  have ndL1 : L1.Nodup := nodup_of_map (pm.nodup_iff.mpr ndR)
  have pL1 : L1.Perm L := (List.perm_ext_iff_of_nodup ndL1 ndL).mpr fun q => ⟨sub1 q, fun hq => by
    obtain ⟨r, hr, e⟩ := List.mem_map.mp (pm.mem_iff.mpr (List.mem_map.mpr ⟨q, hq, rfl⟩))
    injection e with e
    rw [← uniq r (sub1 r hr) q hq e]
    exact hr⟩
  have len1 : L1.length < 64 := by rw [pL1.length_eq]; exact fS
  have lenV : (L1.map fun q => Value.ref q.1).length ≤ sizeLine := by rw [List.length_map, sizeLine_eq]; omega
  refine wpAny_bind (wpAny_newList ?_ lenV)
  have gL : (s1.heap.push (seqObj "list" (L1.map fun q => Value.ref q.1).toArray 0)).get? s1.heap.objs.size = some (seqObj "list" (L1.map fun q => Value.ref q.1).toArray 0) := Heap.get?_push_size _ rfl
  have isT1 : ∀ q ∈ L1, IsT P w (W.sortingHeap (s1.heap.push (seqObj "list" (L1.map fun q => Value.ref q.1).toArray 0)) s1.heap.objs.size (L1.map fun q => Value.ref q.1)) q.2 q.1 := fun q hq => by
    refine isT_keep (R.tup q (sub1 q hq)) fun b u e => ?_
    have e2 := k1 b u e
    exact W.sortingHeap_old (Nat.ne_of_lt (Heap.lt_size e2)) (Heap.get?_push_of_some _ e2)
  have outR := sorted_t isT1
  refine wpAny_bind (wpAny_holding (wpAny_call_entry slot_list_sort ⟨_, gL, rfl⟩ entry_list_sort (W.list_sort_vals (s := { s1 with heap := s1.heap.push (seqObj "list" (L1.map fun q => Value.ref q.1).toArray 0) }) gL (sorts_t (s := { s1 with heap := W.sortingHeap (s1.heap.push (seqObj "list" (L1.map fun q => Value.ref q.1).toArray 0)) s1.heap.objs.size (L1.map fun q => Value.ref q.1) }) isT1 len1 (by show A.units + 1 + 1 + 61 < cLine; omega)) lenV ⟨_, rfl, ?_⟩) (args_list_sort _)))
  have pm2 : (L1.mergeSort (W.dataLe false fun q : Addr × List Int => tupI q.2)).Perm L := (List.mergeSort_perm _ _).trans pL1
  rw [outR]
  obtain ⟨c, hc⟩ := sortedHeap_at (vs := L1.map fun q => Value.ref q.1) (out := ((L1.mergeSort (W.dataLe false fun q : Addr × List Int => tupI q.2)).map fun q => Value.ref q.1).toArray) gL
  refine wpAny_pure ⟨_, rfl, fin _ s1.heap.objs.size _ c _ (fun b u e => ?_) g1 o1 hz hc rfl pm2 ?_⟩
  · have e2 := k1 b u e
    have lt2 := Heap.lt_size e2
    show (sortedHeap _ s1.heap.objs.size _ _).get? b = some u
    rw [sortedHeap_old (Nat.ne_of_lt lt2) (by rw [size_push']; exact Nat.lt_succ_of_lt lt2)]
    exact Heap.get?_push_of_some _ e2
  · have le_p : ((L1.mergeSort (W.dataLe false fun q : Addr × List Int => tupI q.2)).map (·.2)).Pairwise (fun a b => ¬ b < a) := by
      rw [dataLe_tupI]
      refine List.pairwise_map.mpr ((List.pairwise_mergeSort (le := fun p q : Addr × List Int => !decide (q.2 < p.2)) (fun a b c h1 h2 => ?_) (fun a b => ?_) L1).imp fun h => by simpa using h)
      · simp only [Bool.not_eq_true', decide_eq_false_iff_not] at *
        exact List.not_lt.mpr (List.le_trans (List.not_lt.mp h1) (List.not_lt.mp h2))
      · simp only [Bool.or_eq_true, Bool.not_eq_true', decide_eq_false_iff_not]
        exact (List.le_total a.2 b.2).imp List.not_lt.mpr List.not_lt.mpr
    have nd2 : ((L1.mergeSort (W.dataLe false fun q : Addr × List Int => tupI q.2)).map (·.2)).Nodup := (pm2.map _).nodup_iff.mpr R.nd
    refine risingL_eq (List.Pairwise.imp₂ (fun a b h1 h2 => ?_) le_p nd2) ssetL_sorted fun z => ?_
    · exact Classical.byContradiction fun h => h2 (List.le_antisymm (List.not_lt.mp h1) (List.not_lt.mp h))
    · rw [ssetL_mem]
      exact (pm2.map _).mem_iff
end
end L2

set_option Elab.async false
set_option linter.all false
set_option autoImplicit false
set_option maxRecDepth 100000
set_option maxHeartbeats 2000000
namespace Ev
open PySem PySem.Spec L2 LamX PyProof.Rows
theorem call_or {X : Cx} {f : Value} {r1 r2 : List V → Hp → VK → Prop} (h1 : CallR X f r1) (h2 : CallR X f r2) : CallR X f fun xs H Q => r1 xs H Q ∨ r2 xs H Q := by
  intro pins s σ H xs us Q I r h
  rcases h with h | h
  · exact h1 pins s σ H xs us Q I r h
  · exact h2 pins s σ H xs us Q I r h
section
variable {X : Cx}
def rSetT (X : Cx) : List V → Hp → VK → Prop := fun xs H Q => ∃ (l : Addr) (ks : List (Addr × List Int)), xs = [V.ref l] ∧ (SqL X.K H l (ks.map fun p => V.ref p.1) ∨ SqT X.K H l (ks.map fun p => V.ref p.1)) ∧ (∀ p ∈ ks, SqT X.K H p.1 (p.2.map V.int)) ∧ ks.length < 64 ∧
  ∀ a L, H a = none → (∀ p ∈ L, p ∈ ks) → (∀ p ∈ ks, p.2 ∈ L.map (·.2)) → (L.map (·.2)).Nodup → Q (.ref a) (upd H a (SetTO X.prog X.w a L))
theorem call_setT (hc : X.calm = true) (hu : X.A.units + 64 < cLine) : CallR X (.type "set") (rSetT X) := by
  intro pins s σ H xs us Q I r h
  obtain ⟨l, ks, rfl, hl, hk, hf, q⟩ := h
  rw [Vals.ref1 r]
  have hn : H s.heap.objs.size = none := I.hok.fresh (Nat.le_refl _)
  have fin : ∀ (h' : Heap) (tk : Nat) L es ep t, SetTR X.prog X.w h' s.heap.objs.size L es ep t → Got ks ks.length L → (∀ b o, s.heap.get? b = some o → h'.get? b = some o) → EP X pins σ Q (.ref s.heap.objs.size) { s with heap := h', toks := tk } := fun h' tk L es ep t R g k =>
    ⟨.ref s.heap.objs.size, upd H s.heap.objs.size (SetTO X.prog X.w s.heap.objs.size L), I.laid (t' := tk) k (Nat.le_refl _) (setTO_new R.t0), rfl, q _ L hn (fun p hp => List.mem_of_mem_take (g.sub p hp)) (fun p hp => g.all p (by rw [List.take_length]; exact hp)) R.nd⟩
  rcases hl with hl | hl
  · obtain ⟨its, rv, pl, hz⟩ := I.list hl
    exact call_set_tups (P := X.prog) (w := X.w) ks (I.ok.hd hc) pl.isList (by simpa using refs_of_vals rv) (fun p hp => I.isT (hk p hp)) hf (by omega) fin
  · obtain ⟨its, rv, pl, hz⟩ := I.tuple hl
    exact set_tupT (P := X.prog) (w := X.w) ks (I.ok.hd hc) pl (by simpa using refs_of_vals rv) (fun p hp => I.isT (hk p hp)) hf (by omega) fin
def rSortG (X : Cx) : List V → Hp → VK → Prop := fun vs H Q => ∃ (a : Addr) (L : List (Addr × List Int)), vs = [V.ref a] ∧ H a = some (SetTO X.prog X.w a L) ∧ (∀ p ∈ L, SqT X.K H p.1 (p.2.map V.int)) ∧
  ∀ (L' : List (Addr × List Int)) (p : Addr), (∀ q ∈ L', q ∈ L) → L'.map (·.2) = ssetL (L.map (·.2)) → H p = none → Q (.ref p) (upd H p (.lst (L'.map fun q => V.ref q.1)))
theorem call_sortG (hc : X.calm = true) (hu : X.A.units + 63 < cLine) : CallR X (.builtin "sorted") (rSortG X) := by
  intro pins s σ H vs us Q I r h
  obtain ⟨a, L, rfl, ha, hk, q⟩ := h
  have R0 : SetT0 X.prog X.w s.heap a L := (I.hok a _ ha).1
  obtain ⟨es, ep, t, R⟩ := R0.full fun p hp => I.isT (hk p hp)
  rw [Vals.ref1 r]
  refine sort_setG R (I.ok.hd hc) hu fun s' p out c L' k g o hp hg hout pm pw => ?_
  have few : L'.length < 64 := by rw [pm.length_eq]; exact R.few
  have hlen : (L'.map fun q => V.ref q.1).length ≤ sizeLine := by rw [List.length_map, sizeLine_eq]; omega
  have hn : H p = none := I.hok.fresh hp
  have hv : Vals (L'.map fun q => V.ref q.1) out.toList := by rw [hout]; exact vals_of_refs L'
  have J : Inv X pins σ (upd H p (.lst (L'.map fun q => V.ref q.1))) { s with heap := s'.heap, gens := s'.gens, drawn := s'.drawn, toks := s'.toks } :=
    I.call (ch := []) (Un.laid k hp hn) (I.hok.laid k hp ⟨hlen, out.toList, c, hv, hg⟩) (by rw [g]; exact I.bare) (fun _ z => nomatch z)
  have e : s' = { s with heap := s'.heap, gens := s'.gens, drawn := s'.drawn, toks := s'.toks } := by
    cases s'; cases s; cases o; rfl
  rw [e]
  exact ⟨.ref p, _, J, rfl, q L' p (fun r hr => pm.mem_iff.mp hr) pw hn⟩
def rLenG (X : Cx) : List V → Hp → VK → Prop := fun vs H Q => ∃ (a : Addr) (L : List (Addr × List Int)), vs = [V.ref a] ∧ H a = some (SetTO X.prog X.w a L) ∧ (∀ p ∈ L, SqT X.K H p.1 (p.2.map V.int)) ∧ Q (.int (L.length : Nat)) H
theorem call_lenG : CallR X (.builtin "len") (rLenG X) := by
  intro pins s σ H vs us Q I r h
  obtain ⟨a, L, rfl, ha, hk, q⟩ := h
  have R0 : SetT0 X.prog X.w s.heap a L := (I.hok a _ ha).1
  obtain ⟨es, ep, t, R⟩ := R0.full fun p hp => I.isT (hk p hp)
  rw [Vals.ref1 r]
  obtain ⟨o, ho, hex, hd⟩ := R.ob
  exact call_len_set ho hex hd R.fits (by rw [R.size]; have := R.few; omega) ⟨.int (L.length : Nat), H, I.tok _, ⟨_, by rw [R.size]⟩, q⟩
end
/-! ### the mirrors -/
def tupsOf : List PyData → Option (List (List Int))
  | [] => some []
  | .tuple ds :: r => match intsOf ds with
    | some k => (tupsOf r).map (k :: ·)
    | none => none
  | _ => none
def bSetT (d : PyData) : M PyData := match d with
  | .list ds | .tuple ds => match tupsOf ds with
    | some L => if L.length < 64 then .ok (.list ((ssetL L).map tupI)) else .err
    | none => .err
  | _ => .err
def bSetX (d : PyData) : M PyData := match bSet d with
  | .ok r => .ok r
  | _ => bSetT d
def bLenSetT (d : PyData) : M PyData := match d with
  | .list ds | .tuple ds => match tupsOf ds with
    | some L => if L.length < 64 then .ok (.int ((ssetL L).length : Nat)) else .err
    | none => .err
  | _ => .err
def bLenSetX (d : PyData) : M PyData := match bLenSet d with
  | .ok r => .ok r
  | _ => bLenSetT d
theorem ints_map : ∀ {ds : List PyData} {bs : List Int}, intsOf ds = some bs → ds = bs.map .int
  | [], _, e => by cases e; rfl
  | d :: ds, bs, e => by
    cases d <;> try (cases e; done)
    rename_i b
    unfold intsOf at e
    cases h2 : intsOf ds with
    | none => rw [h2] at e; cases e
    | some cs => rw [h2] at e; cases e; rw [List.map_cons, ← ints_map h2]
theorem tups_rp {K : PySem.W.Frag} {H : Hp} {O : List Addr} : ∀ {ds : List PyData} {vs : List V} {L : List (List Int)}, RpAll K (msk O H) vs ds → tupsOf ds = some L → ∃ ks : List (Addr × List Int), vs = ks.map (fun p => V.ref p.1) ∧ ks.map (·.2) = L ∧ ∀ p ∈ ks, Rp K (msk O H) (.ref p.1) (tupI p.2)
  | [], _, _, .nil, e => by cases e; exact ⟨[], rfl, rfl, fun _ h => nomatch h⟩
  | d :: ds, _, L, .cons q r, e => by
    cases d <;> try (cases e; done)
    rename_i xs
    unfold tupsOf at e
    cases h1 : intsOf xs with
    | none => rw [h1] at e; cases e
    | some k =>
      rw [h1] at e
      dsimp only at e
      cases h2 : tupsOf ds with
      | none => rw [h2] at e; cases e
      | some M =>
        rw [h2] at e
        cases e
        obtain ⟨ks, e1, e2, hk⟩ := tups_rp r h2
        have ex := ints_map h1
        subst ex
        have q2 := q
        cases q with
        | tup h a =>
          rename_i b xs
          refine ⟨(b, k) :: ks, by rw [e1]; rfl, by rw [List.map_cons, e2], fun p hp => ?_⟩
          rcases List.mem_cons.mp hp with z | z
          · subst z; exact q2
          · exact hk p z
theorem intsOf_mapI : ∀ l : List Int, intsOf (l.map PyData.int) = some l
  | [] => rfl
  | x :: l => by rw [List.map_cons, intsOf, intsOf_mapI l]; rfl
theorem rp_sqt {K : PySem.W.Frag} {H : Hp} {O : List Addr} {b : Addr} {k : List Int} (r : Rp K (msk O H) (.ref b) (tupI k)) : SqT K H b (k.map V.int) := by
  cases r with
  | tup h a =>
    have e := ints_rp a (intsOf_mapI k)
    subst e
    exact kp_sqt kp_msk h
theorem rp_tups {K : PySem.W.Frag} {h : Hp} : ∀ {L : List (Addr × List Int)}, (∀ p ∈ L, Rp K h (.ref p.1) (tupI p.2)) → RpAll K h (L.map fun q => V.ref q.1) ((L.map (·.2)).map tupI)
  | [], _ => .nil
  | p :: L, k => .cons (k p List.mem_cons_self) (rp_tups fun q hq => k q (List.mem_cons_of_mem _ hq))
section
variable {G : Glb} {N : List Str} {sc : Scope} {k : Lv} {env : Slots} {pos p p2 p3 : Pos} {e e2 : Expr} {es : List Expr} {me me2 : M PyData} {ms : M (List PyData)} {x : Str} {X : Cx} {P O : List Addr} {H H1 : Hp} {v : V} {d : PyData}
/-- what sorted(set(v)) asks -/
theorem go_sset (eK : X.K = G.K) (w : Wf P O H1) (r1 : Rp G.K (msk O H1) v d) (e1 : Ext G.T P H H1) {Q : VK}
    (q1 : (bSetX d).Sat fun d => ∀ (a : Addr) (vs : List V) (ds : List PyData) (H' : Hp), d = .list ds → Ext G.T P H H' → Fr0 H a → H' a = some (.lst vs) → RpAll G.K (msk (a :: O) H') vs ds → Q (.ref a) H') :
    (rSetI X [v] H1 fun y H2 => rSortI X [y] H2 Q ∨ rSortG X [y] H2 Q) ∨ rSetT X [v] H1 fun y H2 => rSortI X [y] H2 Q ∨ rSortG X [y] H2 Q := by
  have goI : ∀ {a : Addr} {ds : List PyData} {vs : List V} {ns : List Int}, v = .ref a → (SqL X.K H1 a vs ∨ SqT X.K H1 a vs) → RpAll G.K (msk O H1) vs ds → intsOf ds = some ns → ns.length < 64 → (M.ok (PyData.list ((sset ns).map PyData.int))).Sat (fun (d : PyData) => ∀ (a : Addr) (vs : List V) (ds : List PyData) (H' : Hp), d = PyData.list ds → Ext G.T P H H' → Fr0 H a → H' a = some (HO.lst vs) → RpAll G.K (msk (a :: O) H') vs ds → Q (.ref a) H') →
      rSetI X [v] H1 fun y H2 => rSortI X [y] H2 Q ∨ rSortG X [y] H2 Q := fun {a ds vs ns} ev hs ha hi hl q3 => by
    have z := ints_rp ha hi
    subst z
    exact ⟨a, ns, by rw [ev], hs, hl, fun p0 c hp hcl => .inl ⟨p0, ns, c, rfl, upd_same, by omega, fun q0 hq => q3 q0 _ _ _ rfl ((e1.trans (Ext.new hp)).trans (Ext.new hq)) ((e1.trans (Ext.new hp)).back hq) upd_same (rpInts _)⟩⟩
  have goT : ∀ {a : Addr} {ds : List PyData} {vs : List V} {L : List (List Int)}, v = .ref a → (SqL X.K H1 a vs ∨ SqT X.K H1 a vs) → RpAll G.K (msk O H1) vs ds → tupsOf ds = some L → L.length < 64 → (M.ok (PyData.list ((ssetL L).map tupI))).Sat (fun (d : PyData) => ∀ (a : Addr) (vs : List V) (ds : List PyData) (H' : Hp), d = PyData.list ds → Ext G.T P H H' → Fr0 H a → H' a = some (HO.lst vs) → RpAll G.K (msk (a :: O) H') vs ds → Q (.ref a) H') →
      rSetT X [v] H1 fun y H2 => rSortI X [y] H2 Q ∨ rSortG X [y] H2 Q := fun {a ds vs L} ev hs ha hi hl q3 => by
    obtain ⟨ks, e2, e3, hk⟩ := tups_rp ha hi
    subst e2
    refine ⟨a, ks, by rw [ev], hs, fun p hp => by rw [eK]; exact rp_sqt (hk p hp), by rw [← e3, List.length_map] at hl; exact hl, fun b M hb sub all nd => .inr ?_⟩
    have w2 : Wf P O (upd H1 b (SetTO X.prog X.w b M)) := w.ext (Ext.new (T := G.T) hb)
    have hk2 : ∀ p ∈ M, Rp G.K (msk O (upd H1 b (SetTO X.prog X.w b M))) (.ref p.1) (tupI p.2) := fun p hp => rp_mono ((Ext.new (T := G.T) hb).kp w) (hk p (sub p hp))
    refine ⟨b, M, rfl, upd_same, fun p hp => by rw [eK]; exact rp_sqt (hk2 p hp), fun L' c hs' em hc => ?_⟩
    have es : ssetL (M.map (·.2)) = ssetL L := risingL_eq ssetL_sorted ssetL_sorted fun z => by
      rw [ssetL_mem, ssetL_mem, ← e3]
      constructor
      · intro h
        obtain ⟨p, hp, e⟩ := List.mem_map.mp h
        exact List.mem_map.mpr ⟨p, sub p hp, e⟩
      · intro h
        obtain ⟨p, hp, e⟩ := List.mem_map.mp h
        rw [← e]
        exact all p hp
    have ra := rp_tups fun p hp => hk2 p (hs' p hp)
    rw [em, es] at ra
    exact q3 c _ _ _ rfl ((e1.trans (Ext.new hb)).trans (Ext.new hc)) ((e1.trans (Ext.new hb)).back hc) upd_same (fresh_els (H1 := H1) w2 hc ra _)
  unfold bSetX at q1
  have both : ∀ {a : Addr} {ds : List PyData} {vs : List V}, (d = .list ds ∨ d = .tuple ds) → v = .ref a → (SqL X.K H1 a vs ∨ SqT X.K H1 a vs) → RpAll G.K (msk O H1) vs ds →
      (rSetI X [v] H1 fun y H2 => rSortI X [y] H2 Q ∨ rSortG X [y] H2 Q) ∨ rSetT X [v] H1 fun y H2 => rSortI X [y] H2 Q ∨ rSortG X [y] H2 Q := fun {a ds vs} hd ev hs ha => by
    have b1 : bSet d = match intsOf ds with | some ns => if ns.length < 64 then M.ok (.list ((sset ns).map .int)) else .err | none => .err := by
      rcases hd with e | e <;> subst e <;> rfl
    have b2 : bSetT d = match tupsOf ds with | some L => if L.length < 64 then M.ok (.list ((ssetL L).map tupI)) else .err | none => .err := by
      rcases hd with e | e <;> subst e <;> rfl
    rw [b1, b2] at q1
    cases hi : intsOf ds with
    | some ns =>
      rw [hi] at q1
      dsimp only at q1
      by_cases hl : ns.length < 64
      · rw [if_pos hl] at q1
        exact .inl (goI ev hs ha hi hl q1)
      · rw [if_neg hl] at q1
        cases ht : tupsOf ds with
        | none => rw [ht] at q1; exact q1.elim
        | some L =>
          rw [ht] at q1
          dsimp only at q1
          obtain ⟨hl2, q3⟩ := sat_if q1
          exact .inr (goT ev hs ha ht hl2 q3)
    | none =>
      rw [hi] at q1
      dsimp only at q1
      cases ht : tupsOf ds with
      | none => rw [ht] at q1; exact q1.elim
      | some L =>
        rw [ht] at q1
        dsimp only at q1
        obtain ⟨hl2, q3⟩ := sat_if q1
        exact .inr (goT ev hs ha ht hl2 q3)
  cases r1 with
  | lst h1 a1 => exact both (.inl rfl) rfl (.inl (SqL.of (msk_some h1).2)) a1
  | tup h1 a1 => exact both (.inr rfl) rfl (.inr (by rw [eK]; exact kp_sqt kp_msk h1)) a1
  | _ => exact q1.elim
theorem el_ssetX (he : EvE G N sc k env e me) (hm : G.mg "sorted" = none) (hm2 : G.mg "set" = none) (hv : bootBuiltins ("sorted" : Str) = some (.builtin "sorted") := by decide +kernel) (hv2 : bootBuiltins ("set" : Str) = some (.type "set") := by decide +kernel) (hg : sc.names.lookup ("sorted" : Str) = some .globalImplicit := by rfl) (hg2 : sc.names.lookup ("set" : Str) = some .globalImplicit := by rfl) (h1 : notStar e = true := by rfl) :
    EvL G N sc k env (.Call (.Name "sorted" p) [.Call (.Name "set" p2) [e] [] p3] [] pos) (me.bind bSetX) :=
  ⟨fun X hX P O => by
    have un := hX.room.un
    refine PE_imp (pe_callB (call_or (call_sorted_set hX.calm) (call_sortG hX.calm (by omega))) (by show X.env.scope.names.lookup _ = _; rw [hX.eSc]; exact hg) (by rw [hX.eMg]; exact hm) hv (pa_cons (pe_callTy (call_or (call_set_ints hX.calm) (call_setT hX.calm (by omega))) (by show X.env.scope.names.lookup _ = _; rw [hX.eSc]; exact hg2) (by rw [hX.eMg]; exact hm2) hv2 (pa_cons (he.run X hX P O) pa_nil (star_no h1)) (by decide) (by decide) (star_no h1) rfl) pa_nil)) fun σ H Q ⟨r, q⟩ => ?_
    exact ⟨r, (M.sat_bind.mp q).mono fun d q1 v H1 e1 r1 => go_sset hX.eK (r.wf.ext e1) r1 e1 q1⟩⟩
theorem mem_len {A B : List (List Int)} (hA : A.Nodup) (hB : B.Nodup) (h : ∀ z, z ∈ A ↔ z ∈ B) : A.length = B.length := ((List.perm_ext_iff_of_nodup hA hB).mpr h).length_eq
theorem ssetL_nodup {L : List (List Int)} : (ssetL L).Nodup := ssetL_sorted.imp fun h e => by subst e; exact List.lt_irrefl _ h
/-- what len(set(v)) asks -/
theorem go_slen (eK : X.K = G.K) (w : Wf P O H1) (r1 : Rp G.K (msk O H1) v d) (e1 : Ext G.T P H H1) {Q : VK}
    (q1 : (bLenSetX d).Sat fun d => ∀ v H', Ext G.T P H H' → Rp G.K (msk O H') v d → Q v H') :
    (rSetI X [v] H1 fun y H2 => rLenI X [y] H2 Q ∨ rLenG X [y] H2 Q) ∨ rSetT X [v] H1 fun y H2 => rLenI X [y] H2 Q ∨ rLenG X [y] H2 Q := by
  have goI : ∀ {a : Addr} {ds : List PyData} {vs : List V} {ns : List Int}, v = .ref a → (SqL X.K H1 a vs ∨ SqT X.K H1 a vs) → RpAll G.K (msk O H1) vs ds → intsOf ds = some ns → ns.length < 64 → (M.ok (PyData.int ((sset ns).length : Nat))).Sat (fun (d : PyData) => ∀ v H', Ext G.T P H H' → Rp G.K (msk O H') v d → Q v H') →
      rSetI X [v] H1 fun y H2 => rLenI X [y] H2 Q ∨ rLenG X [y] H2 Q := fun {a ds vs ns} ev hs ha hi hl q3 => by
    have z := ints_rp ha hi
    subst z
    exact ⟨a, ns, by rw [ev], hs, hl, fun p0 c hp hcl => .inl ⟨p0, ns, c, rfl, upd_same, by omega, q3 _ _ (e1.trans (Ext.new hp)) (.int _)⟩⟩
  have goT : ∀ {a : Addr} {ds : List PyData} {vs : List V} {L : List (List Int)}, v = .ref a → (SqL X.K H1 a vs ∨ SqT X.K H1 a vs) → RpAll G.K (msk O H1) vs ds → tupsOf ds = some L → L.length < 64 → (M.ok (PyData.int ((ssetL L).length : Nat))).Sat (fun (d : PyData) => ∀ v H', Ext G.T P H H' → Rp G.K (msk O H') v d → Q v H') →
      rSetT X [v] H1 fun y H2 => rLenI X [y] H2 Q ∨ rLenG X [y] H2 Q := fun {a ds vs L} ev hs ha hi hl q3 => by
    obtain ⟨ks, e2, e3, hk⟩ := tups_rp ha hi
    subst e2
    refine ⟨a, ks, by rw [ev], hs, fun p hp => by rw [eK]; exact rp_sqt (hk p hp), by rw [← e3, List.length_map] at hl; exact hl, fun b M hb sub all nd => .inr ?_⟩
    have hk2 : ∀ p ∈ M, Rp G.K (msk O (upd H1 b (SetTO X.prog X.w b M))) (.ref p.1) (tupI p.2) := fun p hp => rp_mono ((Ext.new (T := G.T) hb).kp w) (hk p (sub p hp))
    refine ⟨b, M, rfl, upd_same, fun p hp => by rw [eK]; exact rp_sqt (hk2 p hp), ?_⟩
    have el : (ssetL L).length = M.length := by
      rw [← List.length_map (f := fun p : Addr × List Int => p.2) (as := M)]
      refine mem_len ssetL_nodup nd fun z => ?_
      rw [ssetL_mem, ← e3]
      constructor
      · intro h
        obtain ⟨p, hp, e⟩ := List.mem_map.mp h
        rw [← e]
        exact all p hp
      · intro h
        obtain ⟨p, hp, e⟩ := List.mem_map.mp h
        exact List.mem_map.mpr ⟨p, sub p hp, e⟩
    have q4 := q3 (.int (M.length : Nat)) _ (e1.trans (Ext.new (o := SetTO X.prog X.w b M) hb)) (by rw [el]; exact .int _)
    exact q4
  unfold bLenSetX at q1
  have both : ∀ {a : Addr} {ds : List PyData} {vs : List V}, (d = .list ds ∨ d = .tuple ds) → v = .ref a → (SqL X.K H1 a vs ∨ SqT X.K H1 a vs) → RpAll G.K (msk O H1) vs ds →
      (rSetI X [v] H1 fun y H2 => rLenI X [y] H2 Q ∨ rLenG X [y] H2 Q) ∨ rSetT X [v] H1 fun y H2 => rLenI X [y] H2 Q ∨ rLenG X [y] H2 Q := fun {a ds vs} hd ev hs ha => by
    have b1 : bLenSet d = match intsOf ds with | some ns => if ns.length < 64 then M.ok (.int ((sset ns).length : Nat)) else .err | none => .err := by
      rcases hd with e | e <;> subst e <;> rfl
    have b2 : bLenSetT d = match tupsOf ds with | some L => if L.length < 64 then M.ok (.int ((ssetL L).length : Nat)) else .err | none => .err := by
      rcases hd with e | e <;> subst e <;> rfl
    rw [b1, b2] at q1
    cases hi : intsOf ds with
    | some ns =>
      rw [hi] at q1
      dsimp only at q1
      by_cases hl : ns.length < 64
      · rw [if_pos hl] at q1
        exact .inl (goI ev hs ha hi hl q1)
      · rw [if_neg hl] at q1
        cases ht : tupsOf ds with
        | none => rw [ht] at q1; exact q1.elim
        | some L =>
          rw [ht] at q1
          dsimp only at q1
          obtain ⟨hl2, q3⟩ := sat_if q1
          exact .inr (goT ev hs ha ht hl2 q3)
    | none =>
      rw [hi] at q1
      dsimp only at q1
      cases ht : tupsOf ds with
      | none => rw [ht] at q1; exact q1.elim
      | some L =>
        rw [ht] at q1
        dsimp only at q1
        obtain ⟨hl2, q3⟩ := sat_if q1
        exact .inr (goT ev hs ha ht hl2 q3)
  cases r1 with
  | lst h1 a1 => exact both (.inl rfl) rfl (.inl (SqL.of (msk_some h1).2)) a1
  | tup h1 a1 => exact both (.inr rfl) rfl (.inr (by rw [eK]; exact kp_sqt kp_msk h1)) a1
  | _ => exact q1.elim
theorem ev_lenSetX (he : EvE G N sc k env e me) (hm : G.mg "len" = none) (hm2 : G.mg "set" = none) (hv : bootBuiltins ("len" : Str) = some (.builtin "len") := by decide +kernel) (hv2 : bootBuiltins ("set" : Str) = some (.type "set") := by decide +kernel) (hg : sc.names.lookup ("len" : Str) = some .globalImplicit := by rfl) (hg2 : sc.names.lookup ("set" : Str) = some .globalImplicit := by rfl) (h1 : notStar e = true := by rfl) :
    EvE G N sc k env (.Call (.Name "len" p) [.Call (.Name "set" p2) [e] [] p3] [] pos) (me.bind bLenSetX) :=
  ⟨fun X hX P O => by
    have un := hX.room.un
    refine PE_imp (pe_callB (call_or (call_len_setI hX.calm) call_lenG) (by show X.env.scope.names.lookup _ = _; rw [hX.eSc]; exact hg) (by rw [hX.eMg]; exact hm) hv (pa_cons (pe_callTy (call_or (call_set_ints hX.calm) (call_setT hX.calm (by omega))) (by show X.env.scope.names.lookup _ = _; rw [hX.eSc]; exact hg2) (by rw [hX.eMg]; exact hm2) hv2 (pa_cons (he.run X hX P O) pa_nil (star_no h1)) (by decide) (by decide) (star_no h1) rfl) pa_nil)) fun σ H Q ⟨r, q⟩ => ?_
    exact ⟨r, (M.sat_bind.mp q).mono fun d q1 v H1 e1 r1 => go_slen hX.eK (r.wf.ext e1) r1 e1 q1⟩⟩
end
end Ev

set_option Elab.async false
set_option linter.all false
set_option autoImplicit false
set_option maxRecDepth 100000
set_option maxHeartbeats 2000000
namespace Ev
open PySem PySem.Spec L2 LamX PyProof.Rows
section
variable {G : Glb} {N : List Str} {sc : Scope} {k : Lv} {env : Slots} {pos p : Pos} {x : Str}
/-- a call without arguments -/
theorem ev_call0 {j : Nat} {st : Stmt} {f : List AV → M PyData} (F : FnD G j x st [] (spF G 0 f)) (hb : BindN x st []) (hj : j ≤ k.n := by exact Nat.le_of_ble_eq_true rfl) (hg : sc.names.lookup x = some .globalImplicit := by rfl) (hdb : (x == ("__debug__" : Str)) = false := by decide) :
    EvE G N sc k env (.Call (.Name x p) [] [] pos) (callM 0 f vNil) :=
  ⟨fun X hX P O => ⟨fun pins s σ H Q I ⟨r, q⟩ => by
    obtain ⟨fa, fd, hm, FD, FO⟩ := F.ex
    refine wpAny_Call_Name_kw (ld_glob I (x := x) (by show X.env.scope.names.lookup x = _; rw [hX.eSc]; exact hg) (by rw [hX.eMg]; exact hm) ?_ hdb)
    refine PySem.W.callWith_K0 I.kIn (by rw [hX.eK]; exact FD.kp) ?_
    have q0 : (f []).Sat fun d => ∀ v H', Ext G.T P H H' → Rp G.K (msk O H') v d → Q v H' := q
    exact run_G hX FO hj I (FD.bindsA hb s [] rfl) .nil ⟨rfl, P, O, [], r.wf, r.tabs, trivial, q0⟩⟩⟩
end
end Ev

set_option Elab.async false
set_option linter.all false
set_option autoImplicit false
set_option maxRecDepth 100000
set_option maxHeartbeats 2000000
namespace Ev
open PySem PySem.Spec L2 LamX PyProof.Rows
/-! ### the least of a list of alike data -/
def isN : PyData → Bool
  | .none => true
  | _ => false
def canMin (ds : List PyData) : Bool := (ds.all fun d => ds.all fun e => W.alike d e) && decide (PyData.depthAll ds ≤ 60) && ds.all fun d => !isN d
def bMinA : List PyData → M PyData
  | [.list ds] => match intsOf ds with
    | some ns => if ns ≠ [] then .ok (.int (minI ns)) else .err
    | none => match ds with
      | [] => .err
      | x :: r => if canMin (x :: r) = true then .ok (W.minD x r) else .err
  | _ => .err
section
variable {X : Cx}
def rMinA (X : Cx) : List V → Hp → VK → Prop := fun vs H Q => ∃ (a : Addr) (xs : List V) (x : PyData) (r : List PyData) (O : List Addr), vs = [.ref a] ∧ H a = some (.lst xs) ∧ RpAll X.K (msk O H) xs (x :: r) ∧ canMin (x :: r) = true ∧ ∀ v : V, Rp X.K (msk O H) v (W.minD x r) → Q v H
theorem rp_nth {K : PySem.W.Frag} {h : Hp} : ∀ {vs : List V} {us : List Value} {ds : List PyData}, Vals vs us → RpAll K h vs ds → ∀ (i : Nat) (u : Value), us[i]? = some u → ∃ v d, RelV v u ∧ Rp K h v d
  | _, _, _, .nil, .nil, i, u, e => by simp at e
  | _, _, _, .cons r rs, .cons q qs, 0, u, e => by
    have e := Option.some.inj (show some _ = some u from e)
    subst e
    exact ⟨_, _, r, q⟩
  | _, _, _, .cons r rs, .cons q qs, i + 1, u, e => rp_nth rs qs i u (by simpa using e)
theorem call_minA (hc : X.calm = true) (hu : X.A.units + 63 < cLine) : CallR X (.builtin "min") (rMinA X) := by
  intro pins s σ H vs us Q I rr h
  obtain ⟨a, xs, x, r, O, rfl, hs, ha, cm, q⟩ := h
  obtain ⟨its, rv, hl, hz⟩ := I.list (SqL.of hs)
  rw [Vals.ref1 rr]
  obtain ⟨as, hr⟩ := rpAll_reads I (rpAll_mono kp_msk ha) rv
  unfold canMin at cm
  simp only [Bool.and_eq_true, decide_eq_true_eq, List.all_eq_true] at cm
  obtain ⟨⟨c1, c2⟩, c3⟩ := cm
  refine W.min_list_data (I.ok.hd hc) hl.isList hr ⟨c1, fun d hd e => ?_⟩ (by omega) fun i v h' tk bs hv hread hk => ?_
  · have := c3 d hd
    rw [e] at this
    cases this
  · obtain ⟨w, d, r1, r2⟩ := rp_nth rv ha i v (by simpa using hv)
    obtain ⟨as2, rd⟩ := rp_reads I (rp_mono kp_msk r2) r1
    have e := (reads_det (fun b o eb _ => hk b o eb) rd hread).1
    exact ⟨w, H, I.kept hk, r1, q w (e ▸ r2)⟩
end
section
variable {G : Glb} {k : Lv}
theorem cd_minA : CalD G k (.builtin "min") bMinA := fun N sc X hX pins s σ H vs us Q I rr h => by
  obtain ⟨P, O, ds, w, r, q⟩ := h
  match ds, r, q with
  | [.list xs], r, q =>
    obtain ⟨v, rfl, r1⟩ := rp1 r
    cases hi : intsOf xs with
    | some ns =>
      refine cd_minL N sc X hX pins s σ H _ us Q I rr ⟨P, O, [.list xs], w, r, ?_⟩
      unfold bMinA at q
      unfold bMinL
      dsimp only at q ⊢
      rw [hi] at q ⊢
      exact q
    | none =>
      unfold bMinA at q
      dsimp only at q
      rw [hi] at q
      cases r1 with
      | lst h1 a1 =>
        match xs, q, a1 with
        | x :: r, q, a1 =>
          obtain ⟨hc, q2⟩ := sat_if q
          exact call_minA hX.calm (by have := hX.room.un; omega) pins s σ H _ us Q I rr ⟨_, _, x, r, O, rfl, (msk_some h1).2, by rw [hX.eK]; exact a1, hc, fun v hv => by
            rw [hX.eK] at hv
            exact q2 v H Ext.refl hv⟩
end
end Ev

set_option Elab.async false
set_option linter.all false
set_option autoImplicit false
set_option maxRecDepth 100000
set_option maxHeartbeats 2000000
namespace Ev
open PySem PySem.Spec L2 LamX PyProof.Rows

/-! ### data made of numbers: values of the mirrors' operations -/
abbrev dI (i : Nat) : PyData := .int (i : Int)
theorem m_ok {α β : Type} (a : α) (f : α → M β) : (M.ok a).bind f = f a := by rfl
theorem big_size : sizeLine = 16777216 := by decide +kernel
theorem rangeD0 (n : Nat) : rangeD 0 n = (List.range n).map dI := by
  unfold rangeD
  exact List.map_congr_left fun i _ => by rw [Int.zero_add]
theorem v_rng1 {n : Nat} (h : n < 1000000) : rng1 [dI n] = .ok ((List.range n).map dI) := by
  have c : -(2 ^ 62) ≤ (n : Int) ∧ (n : Int) < 2 ^ 62 := by omega
  rw [rng1, if_pos c, Int.toNat_natCast, rangeD0]
theorem v_bRg1 {n : Nat} (h : n < 1000000) : bRg1 (dI n) = .ok (.list ((List.range n).map dI)) := by
  have c : 0 ≤ (n : Int) ∧ (n : Int) ≤ 16777216 := by omega
  rw [bRg1, if_pos c, Int.toNat_natCast, rangeD0]
section
variable {α : Type}
theorem v_compL {e : α → PyData} {c : PyData → M Bool} {f : PyData → M PyData} {p : α → Bool} {g : α → PyData} : ∀ l : List α, (∀ a ∈ l, c (e a) = .ok (p a)) → (∀ a ∈ l, p a = true → f (e a) = .ok (g a)) → compL (l.map e) c f = .ok ((l.filter p).map g)
  | [], _, _ => rfl
  | a :: l, hc, hf => by
    have ih := v_compL l (fun b hb => hc b (List.mem_cons_of_mem _ hb)) fun b hb => hf b (List.mem_cons_of_mem _ hb)
    rw [List.map_cons, compL, hc a List.mem_cons_self, m_ok, ih]
    cases hp : p a with
    | true =>
      rw [if_pos rfl, hf a List.mem_cons_self hp, m_ok, m_ok, List.filter_cons_of_pos hp, List.map_cons]
    | false =>
      rw [if_neg (by simp), List.filter_cons_of_neg (by simp [hp])]
theorem v_comp {l : List α} {e : α → PyData} {c : PyData → M Bool} {f : PyData → M PyData} (p : α → Bool) (g : α → PyData) (hl : l.length ≤ 16777216) (hc : ∀ a ∈ l, c (e a) = .ok (p a)) (hf : ∀ a ∈ l, p a = true → f (e a) = .ok (g a)) : comp1 (.ok (l.map e)) c f = .ok (.list ((l.filter p).map g)) := by
  unfold comp1
  rw [m_ok, v_compL l hc hf, m_ok]
  have z : ((l.filter p).map g).length ≤ sizeLine := by
    rw [List.length_map, big_size]
    exact Nat.le_trans (List.length_filter_le _ _) hl
  unfold mkLst
  rw [if_pos z]
theorem v_comp' {l : List α} {e : α → PyData} {f : PyData → M PyData} (g : α → PyData) (hl : l.length ≤ 16777216) (hf : ∀ a ∈ l, f (e a) = .ok (g a)) : comp1 (.ok (l.map e)) (fun _ => .ok true) f = .ok (.list (l.map g)) := by
  rw [v_comp (fun _ => true) g hl (fun _ _ => rfl) fun a ha _ => hf a ha, List.filter_eq_self.mpr fun _ _ => rfl]
theorem zipD_map (l : List α) (f g : α → PyData) : zipD (l.map f) (l.map g) = l.map fun a => .tuple [f a, g a] := by
  unfold zipD
  induction l with
  | nil => rfl
  | cons a l ih => rw [List.map_cons, List.map_cons, List.zip_cons_cons, List.map_cons, List.map_cons, ih]
theorem v_comp2 {l : List α} {e1 e2 : α → PyData} {c : PyData → PyData → M Bool} {f : PyData → PyData → M PyData} (p : α → Bool) (g : α → PyData) (hl : l.length ≤ 16777216) (hc : ∀ a ∈ l, c (e1 a) (e2 a) = .ok (p a)) (hf : ∀ a ∈ l, p a = true → f (e1 a) (e2 a) = .ok (g a)) : comp2' (.ok (l.map fun a => .tuple [e1 a, e2 a])) c f = .ok (.list ((l.filter p).map g)) :=
  v_comp (e := fun a => .tuple [e1 a, e2 a]) (c := fun d => un2 d c) (f := fun d => un2 d f) p g hl hc hf
theorem v_comp2' {l : List α} {e1 e2 : α → PyData} {f : PyData → PyData → M PyData} (g : α → PyData) (hl : l.length ≤ 16777216) (hf : ∀ a ∈ l, f (e1 a) (e2 a) = .ok (g a)) : comp2' (.ok (l.map fun a => .tuple [e1 a, e2 a])) (fun _ _ => .ok true) f = .ok (.list (l.map g)) := by
  rw [v_comp2 (fun _ => true) g hl (fun _ _ => rfl) fun a ha _ => hf a ha, List.filter_eq_self.mpr fun _ _ => rfl]
theorem boolsOf_map (q : α → Bool) : ∀ l : List α, boolsOf (l.map fun a => .bool (q a)) = some (l.map q)
  | [] => rfl
  | a :: l => by
    rw [List.map_cons, boolsOf, boolsOf_map q l]
    rfl
theorem v_bAll (l : List α) (q : α → Bool) : bAll [.list (l.map fun a => .bool (q a))] = .ok (.bool (l.all q)) := by
  show (match boolsOf _ with | some bs => M.ok (PyData.bool (bs.all id)) | none => .err) = _
  rw [boolsOf_map]
  show M.ok (PyData.bool ((l.map q).all id)) = _
  rw [List.all_map]
  rfl
theorem v_bAny (l : List α) (q : α → Bool) : bAny [.list (l.map fun a => .bool (q a))] = .ok (.bool (l.any q)) := by
  show (match boolsOf _ with | some bs => M.ok (PyData.bool (bs.any id)) | none => .err) = _
  rw [boolsOf_map]
  show M.ok (PyData.bool ((l.map q).any id)) = _
  rw [List.any_map]
  rfl
end
theorem intsOf_map : ∀ l : List Int, intsOf (l.map PyData.int) = some l
  | [] => rfl
  | a :: l => by
    rw [List.map_cons, intsOf, intsOf_map l]
    rfl
theorem plainAll_map {α : Type} (f : α → PyData) : ∀ l : List α, (∀ a ∈ l, (f a).plain = true) → PyData.plainAll (l.map f) = true
  | [], _ => rfl
  | a :: l, h => by
    rw [List.map_cons, PyData.plainAll, h a List.mem_cons_self, plainAll_map f l fun b hb => h b (List.mem_cons_of_mem _ hb)]
    rfl
theorem any_dI (i : Nat) : ∀ l : List Nat, ((l.map dI).any fun y => PyData.eqv y (dI i)) = decide (i ∈ l)
  | [] => rfl
  | a :: l => by
    rw [List.map_cons, List.any_cons, any_dI i l]
    have e : PyData.eqv (dI a) (dI i) = decide (i = a) := by
      rw [PyData.eqv]
      by_cases h : i = a
      · subst h; simp
      · have h2 : ¬ ((a : Int) = (i : Int)) := fun z => h (Int.ofNat.inj z).symm
        simp [h, h2]
    rw [e]
    by_cases h : i = a <;> simp [h]
theorem v_pIn (i : Nat) (l : List Nat) : pIn (dI i) (.tuple (l.map dI)) = .ok (.bool (decide (i ∈ l))) := by
  show (if _ then M.ok (PyData.bool _) else M.err) = _
  rw [if_pos (by rw [plainAll_map dI l fun _ _ => rfl]; rfl), any_dI]
theorem v_pInL (i : Nat) (l : List Nat) : pIn (dI i) (.list (l.map dI)) = .ok (.bool (decide (i ∈ l))) := by
  show (if _ then M.ok (PyData.bool _) else M.err) = _
  rw [if_pos (by rw [plainAll_map dI l fun _ _ => rfl]; rfl), any_dI]
theorem v_pNotIn (i : Nat) (l : List Nat) : pNotIn (dI i) (.tuple (l.map dI)) = .ok (.bool (!decide (i ∈ l))) := by
  show (if _ then M.ok (PyData.bool _) else M.err) = _
  rw [if_pos (by rw [plainAll_map dI l fun _ _ => rfl]; rfl), any_dI]
theorem v_pNotInL (i : Nat) (l : List Nat) : pNotIn (dI i) (.list (l.map dI)) = .ok (.bool (!decide (i ∈ l))) := by
  show (if _ then M.ok (PyData.bool _) else M.err) = _
  rw [if_pos (by rw [plainAll_map dI l fun _ _ => rfl]; rfl), any_dI]
theorem atI_nat {α : Type} (l : List α) {i : Nat} (h : i < l.length) : atI l (i : Int) = some l[i] := by
  unfold atI ixN
  rw [if_pos (by omega), if_pos (by omega)]
  simp [h]
theorem v_pIdx {α : Type} (f : Nat → PyData) {n i : Nat} (h : i < n) : pIdx (.tuple ((List.range n).map f)) (dI i) = .ok (f i) := by
  rw [pIdx, atI_nat _ (by simpa using h)]
  simp
theorem v_pIdxL (f : Nat → PyData) {n i : Nat} (h : i < n) : pIdx (.list ((List.range n).map f)) (dI i) = .ok (f i) := by
  rw [pIdx, atI_nat _ (by simpa using h)]
  simp
/-! ### the glue of mirrors on plain values -/
theorem g_bin {g : PyData → PyData → M PyData} {a b : PyData} : bin g (.ok a) (.ok b) = g a b := by rfl
theorem g_aNil : aNil = .ok [] := by rfl
theorem g_aCons {d : PyData} {ds : List PyData} : aCons (.ok d) (.ok ds) = .ok (d :: ds) := by rfl
theorem g_vNil : vNil = .ok [] := by rfl
theorem g_vD {d : PyData} : vD (.ok d) = .ok (.d d) := by rfl
theorem g_vCons {a : AV} {as : List AV} : vCons (.ok a) (.ok as) = .ok (a :: as) := by rfl
theorem g_call1 {f : List AV → M PyData} {a : AV} : callM 1 f (.ok [a]) = f [a] := by rfl
theorem g_call2 {f : List AV → M PyData} {a b : AV} : callM 2 f (.ok [a, b]) = f [a, b] := by rfl
theorem g_call3 {f : List AV → M PyData} {a b c : AV} : callM 3 f (.ok [a, b, c]) = f [a, b, c] := by rfl
theorem g_call4 {f : List AV → M PyData} {a b c d : AV} : callM 4 f (.ok [a, b, c, d]) = f [a, b, c, d] := by rfl
theorem g_tru {b : Bool} : tru (.bool b) = .ok b := by rfl
theorem g_bNot {b : Bool} : bNot (.ok (.bool b)) = .ok (.bool (!b)) := by rfl
theorem g_mNot {b : Bool} : mNot (.ok b) = .ok (!b) := by rfl
theorem g_bAndT {m : M PyData} : bAnd (.ok (.bool true)) m = m := by rfl
theorem g_bAndF {m : M PyData} : bAnd (.ok (.bool false)) m = .ok (.bool false) := by rfl
theorem g_bOrT {m : M PyData} : bOr (.ok (.bool true)) m = .ok (.bool true) := by rfl
theorem g_bOrF {m : M PyData} : bOr (.ok (.bool false)) m = m := by rfl
theorem g_bAnd {a b : Bool} : bAnd (.ok (.bool a)) (.ok (.bool b)) = .ok (.bool (a && b)) := by cases a <;> rfl
theorem g_bOr {a b : Bool} : bOr (.ok (.bool a)) (.ok (.bool b)) = .ok (.bool (a || b)) := by cases a <;> rfl
theorem g_mAndT {m : M Bool} : mAnd (.ok true) m = m := by rfl
theorem g_mAndF {m : M Bool} : mAnd (.ok false) m = .ok false := by rfl
theorem g_mOrT {m : M Bool} : mOr (.ok true) m = .ok true := by rfl
theorem g_mOrF {m : M Bool} : mOr (.ok false) m = m := by rfl
theorem g_mOr {a b : Bool} : mOr (.ok a) (.ok b) = .ok (a || b) := by cases a <;> rfl
theorem g_mAnd {a b : Bool} : mAnd (.ok a) (.ok b) = .ok (a && b) := by cases a <;> rfl
theorem g_itemsT {ds : List PyData} : items (.tuple ds) = .ok ds := by rfl
theorem g_itemsL {ds : List PyData} : items (.list ds) = .ok ds := by rfl
theorem g_bTuple {ds : List PyData} : bTuple [.list ds] = .ok (.tuple ds) := by rfl
theorem g_bTupleT {ds : List PyData} : bTuple [.tuple ds] = .ok (.tuple ds) := by rfl
theorem g_bListT {ds : List PyData} : bList [.tuple ds] = .ok (.list ds) := by rfl
theorem g_bListL {ds : List PyData} : bList [.list ds] = .ok (.list ds) := by rfl
theorem g_lenT {α : Type} {l : List α} {f : α → PyData} : bLen [.tuple (l.map f)] = .ok (dI l.length) := by
  show M.ok (PyData.int ((l.map f).length : Int)) = _
  rw [List.length_map]
theorem g_lenL {α : Type} {l : List α} {f : α → PyData} : bLen [.list (l.map f)] = .ok (dI l.length) := by
  show M.ok (PyData.int ((l.map f).length : Int)) = _
  rw [List.length_map]
theorem g_onL {ρ : Type} {ds : List PyData} {f : List PyData → M ρ} : onL (.list ds) f = f ds := by rfl
theorem g_zipT {ds es : List PyData} : zipL [.tuple ds, .tuple es] = .ok (zipD ds es) := by rfl
theorem g_zipL {ds es : List PyData} : zipL [.list ds, .list es] = .ok (zipD ds es) := by rfl
theorem g_isiTT {ds : List PyData} : pIsi "tuple" (.tuple ds) = .ok (.bool true) := by rfl
theorem g_isiII {i : Int} : pIsi "int" (.int i) = .ok (.bool true) := by rfl
theorem g_isiIB {i : Int} : pIsi "bool" (.int i) = .ok (.bool false) := by rfl
theorem g_mkTup0 : mkTup [] = .ok (.tuple []) := by
  unfold mkTup; rw [if_pos (by rw [big_size]; decide)]
theorem g_mkTup1 {a : PyData} : mkTup [a] = .ok (.tuple [a]) := by
  unfold mkTup; rw [if_pos (by rw [big_size]; exact Nat.le_of_ble_eq_true rfl)]
theorem g_mkTup2 {a b : PyData} : mkTup [a, b] = .ok (.tuple [a, b]) := by
  unfold mkTup; rw [if_pos (by rw [big_size]; exact Nat.le_of_ble_eq_true rfl)]
theorem g_mkLst0 : mkLst [] = .ok (.list []) := by
  unfold mkLst; rw [if_pos (by rw [big_size]; decide)]
theorem g_mkLst1 {a : PyData} : mkLst [a] = .ok (.list [a]) := by
  unfold mkLst; rw [if_pos (by rw [big_size]; exact Nat.le_of_ble_eq_true rfl)]
theorem g_mkLst2 {a b : PyData} : mkLst [a, b] = .ok (.list [a, b]) := by
  unfold mkLst; rw [if_pos (by rw [big_size]; exact Nat.le_of_ble_eq_true rfl)]
theorem g_mkLst3 {a b c : PyData} : mkLst [a, b, c] = .ok (.list [a, b, c]) := by
  unfold mkLst; rw [if_pos (by rw [big_size]; exact Nat.le_of_ble_eq_true rfl)]
theorem g_addI {a b : Int} : pAdd (.int a) (.int b) = .ok (.int (a + b)) := by rfl
theorem g_subI {a b : Int} : pSub (.int a) (.int b) = .ok (.int (a - b)) := by rfl
theorem g_ltI {a b : Int} : pLt (.int a) (.int b) = .ok (.bool (decide (a < b))) := by rfl
theorem g_leI {a b : Int} : pLe (.int a) (.int b) = .ok (.bool (decide (a ≤ b))) := by rfl
theorem g_gtI {a b : Int} : pGt (.int a) (.int b) = .ok (.bool (decide (b < a))) := by rfl
theorem g_geI {a b : Int} : pGe (.int a) (.int b) = .ok (.bool (decide (b ≤ a))) := by rfl
theorem g_eqI {a b : Int} : pEq (.int a) (.int b) = .ok (.bool (a == b)) := by
  unfold pEq
  rw [if_pos (by rfl), PyData.eqv]
theorem g_neI {a b : Int} : pNe (.int a) (.int b) = .ok (.bool (!(a == b))) := by
  unfold pNe
  rw [if_pos (by rfl), PyData.eqv]
theorem g_chnLe {a b c : Int} : chn pLe pLe (.ok (.int a)) (.ok (.int b)) (.ok (.int c)) = .ok (.bool (decide (a ≤ b) && decide (b ≤ c))) := by
  unfold chn
  rw [m_ok, m_ok, g_leI, m_ok, g_tru, m_ok]
  cases decide (a ≤ b) <;> rfl

/-! ### relations as data -/
def row (n : Nat) (p : Nat → Bool) : List Nat := (List.range n).filter p
def rel (n : Nat) (r : Nat → Nat → Bool) : PyData := .tuple ((List.range n).map fun i => .tuple ((row n (r i)).map dI))
theorem row_mem {n i : Nat} {p : Nat → Bool} (h : i < n) : decide (i ∈ row n p) = p i := by
  unfold row
  simp [List.mem_filter, h]
theorem row_in {n i : Nat} {p : Nat → Bool} : i ∈ row n p ↔ i < n ∧ p i = true := by
  unfold row
  simp [List.mem_filter]
theorem row_len {n : Nat} {p : Nat → Bool} : (row n p).length ≤ n := by
  unfold row
  exact Nat.le_trans (List.length_filter_le _ _) (by simp)
theorem row_ext {n : Nat} {p q : Nat → Bool} (h : ∀ i, i < n → p i = q i) : row n p = row n q := by
  unfold row
  exact List.filter_congr fun i hi => h i (List.mem_range.mp hi)
theorem rel_ext {n : Nat} {r s : Nat → Nat → Bool} (h : ∀ i, i < n → ∀ j, j < n → r i j = s i j) : rel n r = rel n s := by
  unfold rel
  congr 1
  exact List.map_congr_left fun i hi => by rw [row_ext (h i (List.mem_range.mp hi))]
theorem row_all {n : Nat} {p q : Nat → Bool} : (row n p).all q = (List.range n).all fun i => !p i || q i := by
  unfold row
  rw [List.all_filter]
theorem row_any {n : Nat} {p q : Nat → Bool} : (row n p).any q = (List.range n).any fun i => p i && q i := by
  unfold row
  rw [List.any_filter]
theorem v_len {n : Nat} {r : Nat → Nat → Bool} : bLen [rel n r] = .ok (dI n) := by
  unfold rel
  rw [g_lenT, List.length_range]
theorem v_ix {n i : Nat} {r : Nat → Nat → Bool} (h : i < n) : pIdx (rel n r) (dI i) = .ok (.tuple ((row n (r i)).map dI)) := v_pIdx (α := Nat) _ h
theorem v_inRow {n i : Nat} {p : Nat → Bool} (h : i < n) : pIn (dI i) (.tuple ((row n p).map dI)) = .ok (.bool (p i)) := by rw [v_pIn, row_mem h]
theorem v_inRowL {n i : Nat} {p : Nat → Bool} (h : i < n) : pIn (dI i) (.list ((row n p).map dI)) = .ok (.bool (p i)) := by rw [v_pInL, row_mem h]
theorem v_notRowL {n i : Nat} {p : Nat → Bool} (h : i < n) : pNotIn (dI i) (.list ((row n p).map dI)) = .ok (.bool (!p i)) := by rw [v_pNotInL, row_mem h]
/-! ### a relation from a rule -/
theorem v_rows {n : Nat} {fo : PyData → M PyData} {r : Nat → Nat → Bool} (hn : n < 1000000) (hf : ∀ i, i < n → fo (dI i) = .ok (.tuple ((row n (r i)).map dI))) : comp1 (.ok ((List.range n).map dI)) (fun _ => .ok true) fo = .ok (.list ((List.range n).map fun i => .tuple ((row n (r i)).map dI))) :=
  v_comp' _ (by simp; omega) fun i hi => hf i (List.mem_range.mp hi)
theorem v_row {n : Nat} {c : PyData → M Bool} {p : Nat → Bool} (hn : n < 1000000) (hc : ∀ i, i < n → c (dI i) = .ok (p i)) : comp1 (.ok ((List.range n).map dI)) c (fun x => .ok x) = .ok (.list ((row n p).map dI)) :=
  v_comp p dI (by simp; omega) (fun i hi => hc i (List.mem_range.mp hi)) fun i hi _ => rfl
theorem rising_nat : ∀ {l r : List Nat}, l.Pairwise (· < ·) → r.Pairwise (· < ·) → (∀ z, z ∈ l ↔ z ∈ r) → l = r
  | [], [], _, _, _ => rfl
  | [], y :: r, _, _, h => absurd ((h y).mpr List.mem_cons_self) (by simp)
  | x :: l, [], _, _, h => absurd ((h x).mp List.mem_cons_self) (by simp)
  | x :: l, y :: r, hl, hr, h => by
    have a := List.pairwise_cons.mp hl
    have b := List.pairwise_cons.mp hr
    obtain rfl : x = y := by
      rcases List.mem_cons.mp ((h x).mp List.mem_cons_self) with e | e
      · exact e
      · rcases List.mem_cons.mp ((h y).mpr List.mem_cons_self) with e2 | e2
        · exact e2.symm
        · exact absurd (a.1 y e2) (by have := b.1 x e; omega)
    rw [rising_nat a.2 b.2 fun z => ⟨fun m => ?_, fun m => ?_⟩]
    · rcases List.mem_cons.mp ((h z).mp (List.mem_cons_of_mem _ m)) with e | e
      · exact absurd (a.1 z m) (by omega)
      · exact e
    · rcases List.mem_cons.mp ((h z).mpr (List.mem_cons_of_mem _ m)) with e | e
      · exact absurd (b.1 z m) (by omega)
      · exact e
theorem v_addT {a b : List Nat} (h : a.length + b.length ≤ 1000000) : pAdd (.tuple (a.map dI)) (.tuple (b.map dI)) = .ok (.tuple ((a ++ b).map dI)) := by
  have z : (a.map dI).length + (b.map dI).length ≤ sizeLine := by
    rw [List.length_map, List.length_map, big_size]; omega
  rw [pAdd, if_pos z, List.map_append]
theorem v_addL {a b : List Nat} (h : a.length + b.length ≤ 1000000) : pAdd (.list (a.map dI)) (.list (b.map dI)) = .ok (.list ((a ++ b).map dI)) := by
  have z : (a.map dI).length + (b.map dI).length ≤ sizeLine := by
    rw [List.length_map, List.length_map, big_size]; omega
  rw [pAdd, if_pos z, List.map_append]
theorem sset_nat {n : Nat} {l : List Nat} (h : ∀ i ∈ l, i < n) : sset (l.map fun i : Nat => (i : Int)) = (row n fun i => decide (i ∈ l)).map fun i : Nat => (i : Int) := by
  refine rising_eq sset_sorted ?_ fun z => ?_
  · refine List.pairwise_map.mpr ?_
    unfold row
    exact (List.Pairwise.filter _ List.pairwise_lt_range).imp fun {a b} h => Int.ofNat_lt.mpr h
  · rw [sset_mem, List.mem_map, List.mem_map]
    constructor
    · rintro ⟨i, hi, rfl⟩
      exact ⟨i, row_in.mpr ⟨h i hi, decide_eq_true hi⟩, rfl⟩
    · rintro ⟨i, hi, rfl⟩
      exact ⟨i, of_decide_eq_true (row_in.mp hi).2, rfl⟩
theorem dI_map (l : List Nat) : l.map dI = (l.map fun i : Nat => (i : Int)).map PyData.int := by
  rw [List.map_map]
  rfl
theorem v_bSet {n : Nat} {l : List Nat} (h : ∀ i ∈ l, i < n) (hl : l.length < 64) : bSetX (.tuple (l.map dI)) = .ok (.list ((row n fun i => decide (i ∈ l)).map dI)) := by
  rw [dI_map, bSetX, bSet, intsOf_map]
  dsimp only
  rw [if_pos (by rw [List.length_map]; exact hl), sset_nat h, dI_map]
theorem v_bSetL {n : Nat} {l : List Nat} (h : ∀ i ∈ l, i < n) (hl : l.length < 64) : bSetX (.list (l.map dI)) = .ok (.list ((row n fun i => decide (i ∈ l)).map dI)) := by
  rw [dI_map, bSetX, bSet, intsOf_map]
  dsimp only
  rw [if_pos (by rw [List.length_map]; exact hl), sset_nat h, dI_map]
theorem row_filter {n : Nat} {p q : Nat → Bool} : (row n p).filter q = row n fun i => p i && q i := by
  unfold row
  rw [List.filter_filter]
  exact List.filter_congr fun i _ => Bool.and_comm _ _
/-- a loop that adds at the end -/
theorem v_foldApp {α : Type} {e : α → PyData} {f : PyData → List PyData → M (List PyData)} {g : α → List PyData} (m : Nat) : ∀ (l : List α) (s : List PyData), (∀ a ∈ l, (g a).length ≤ m) → s.length + l.length * m ≤ 16777215 → (∀ a ∈ l, ∀ s : List PyData, s.length + (g a).length ≤ 16777215 → f (e a) s = .ok (s ++ g a)) → foldL (l.map e) s f = .ok (s ++ l.flatMap g)
  | [], s, _, _, _ => by
    rw [List.map_nil, foldL, List.flatMap_nil, List.append_nil]
  | a :: l, s, hm, hs, hf => by
    have h1 := hm a List.mem_cons_self
    have e1 : (a :: l).length * m = l.length * m + m := by rw [List.length_cons, Nat.succ_mul]
    rw [List.map_cons, foldL, hf a List.mem_cons_self s (by omega), m_ok, v_foldApp m l (s ++ g a) (fun b hb => hm b (List.mem_cons_of_mem _ hb)) (by rw [List.length_append]; omega) fun b hb => hf b (List.mem_cons_of_mem _ hb), List.flatMap_cons, List.append_assoc]
theorem flatMap_one {α β : Type} (g : α → β) : ∀ l : List α, l.flatMap (fun a => [g a]) = l.map g
  | [] => rfl
  | a :: l => by rw [List.flatMap_cons, flatMap_one g l, List.map_cons]; rfl
theorem flatMap_maps {α : Type} (g : α → List Nat) : ∀ l : List α, l.flatMap (fun a => (g a).map dI) = (l.flatMap g).map dI
  | [] => rfl
  | a :: l => by rw [List.flatMap_cons, List.flatMap_cons, flatMap_maps g l, List.map_append]
theorem flatMap_len {α : Type} {g : α → List Nat} (m : Nat) : ∀ l : List α, (∀ a ∈ l, (g a).length ≤ m) → (l.flatMap g).length ≤ l.length * m
  | [], _ => by simp
  | a :: l, h => by
    have h1 := h a List.mem_cons_self
    have h2 := flatMap_len m l fun b hb => h b (List.mem_cons_of_mem _ hb)
    rw [List.flatMap_cons, List.length_append, List.length_cons, Nat.succ_mul]
    omega
end Ev

set_option Elab.async false
set_option linter.all false
set_option autoImplicit false
set_option maxRecDepth 100000
set_option maxHeartbeats 2000000
namespace Ev
open PySem PySem.Spec L2 LamX PyProof.Rows

/-! ### the width of what is shown -/
mutual
def wid : PyData → Nat
  | .none => 4
  | .bool _ => 5
  | .int _ => 22
  | .str _ => 1000
  | .list xs => 3 + widAll xs
  | .tuple xs => 3 + widAll xs
  | .dict _ => 0
def widAll : List PyData → Nat
  | [] => 0
  | x :: xs => wid x + 2 + widAll xs
end
mutual
def tame : PyData → Bool
  | .none => true
  | .bool _ => true
  | .int i => decide (i.natAbs < 10 ^ 20)
  | .str x => decide ((PyData.str x).shown.length ≤ 1000) && (PyData.str x).showable
  | .list xs => tameAll xs
  | .tuple xs => tameAll xs
  | .dict _ => false
def tameAll : List PyData → Bool
  | [] => true
  | x :: xs => tame x && tameAll xs
end
theorem listText_len (ts : List Str) : (listText ts).length ≤ 3 + piled ts := by
  unfold listText
  rw [strLen_append]
  have e2 : (("]" : String) : Str).length = 1 := rfl
  rw [e2]
  cases ts with
  | nil =>
    show (("[" : String) : Str).length + 1 ≤ _
    have e1 : (("[" : String) : Str).length = 1 := rfl
    rw [e1]
    omega
  | cons t r =>
    show (textFrom 1 (("[" : Str) ++ (if 0 > 0 then ", " else "" : String) ++ t) r).length + 1 ≤ _
    rw [textFrom_length_pos r 1 _ (by omega), strLen_append, strLen_append, piled_cons]
    have e1 : (("[" : String) : Str).length = 1 := rfl
    have e3 : ((if 0 > 0 then ", " else "" : String) : Str).length = 0 := rfl
    rw [e1, e3]
    omega
theorem tupleText_len (ts : List Str) : (tupleText ts).length ≤ 3 + piled ts := by
  unfold tupleText
  rw [strLen_append, strLen_append]
  have e1 : ((("(" : String) : Str)).length = 1 := rfl
  have e3 : (((if ts.length == 1 then ",)" else ")" : String) : Str)).length ≤ 2 := by split <;> decide
  rw [e1]
  by_cases h : ts = []
  · subst h
    have e4 : (Str.join ", " []).length = 0 := rfl
    rw [e4]
    omega
  · have := join_length_add ts h
    omega
mutual
theorem shown_wid : ∀ d : PyData, tame d = true → d.shown.length ≤ wid d
  | .none, _ => by rw [PyData.shown, wid]; decide
  | .bool b, _ => by rw [PyData.shown, wid]; cases b <;> decide
  | .int i, h => by
    rw [PyData.shown, wid]
    rw [tame] at h
    have := int_text_length_le10 (k := 20) (by decide) (of_decide_eq_true h)
    show (Str.ofString (toString i)).length ≤ 22
    rw [PySem.ofString_length]
    omega
  | .str x, h => by
    rw [tame, Bool.and_eq_true] at h
    rw [wid]
    exact of_decide_eq_true h.1
  | .list xs, h => by
    rw [tame] at h
    rw [PyData.shown, wid]
    have := listText_len (PyData.shownAll xs)
    have := shownAll_wid xs h
    omega
  | .tuple xs, h => by
    rw [tame] at h
    rw [PyData.shown, wid]
    have := tupleText_len (PyData.shownAll xs)
    have := shownAll_wid xs h
    omega
theorem shownAll_wid : ∀ ds : List PyData, tameAll ds = true → piled (PyData.shownAll ds) ≤ widAll ds
  | [], _ => by rw [PyData.shownAll, widAll, piled_nil]; omega
  | d :: ds, h => by
    rw [tameAll, Bool.and_eq_true] at h
    rw [PyData.shownAll, widAll, piled_cons]
    have := shown_wid d h.1
    have := shownAll_wid ds h.2
    omega
end
mutual
theorem tame_show : ∀ d : PyData, tame d = true → d.showable = true ∧ d.hasDict = false
  | .none, _ => ⟨by rw [PyData.showable], by rw [PyData.hasDict]⟩
  | .bool b, _ => ⟨by rw [PyData.showable], by rw [PyData.hasDict]⟩
  | .int i, h => by
    rw [tame] at h
    refine ⟨?_, by rw [PyData.hasDict]⟩
    rw [PyData.showable]
    have h2 := of_decide_eq_true h
    refine decide_eq_true ?_
    by_cases z : i.natAbs = 0
    · rw [z]; decide
    · have : i.natAbs.log2 < 67 := (Nat.log2_lt z).mpr (Nat.lt_trans h2 (by decide))
      omega
  | .str x, h => by
    rw [tame, Bool.and_eq_true] at h
    exact ⟨h.2, by rw [PyData.hasDict]⟩
  | .list xs, h => by
    rw [tame] at h
    rw [PyData.showable, PyData.hasDict]
    exact tameAll_show xs h
  | .tuple xs, h => by
    rw [tame] at h
    rw [PyData.showable, PyData.hasDict]
    exact tameAll_show xs h
theorem tameAll_show : ∀ ds : List PyData, tameAll ds = true → PyData.showableAll ds = true ∧ PyData.hasDictAll ds = false
  | [], _ => ⟨by rw [PyData.showableAll], by rw [PyData.hasDictAll]⟩
  | d :: ds, h => by
    rw [tameAll, Bool.and_eq_true] at h
    obtain ⟨a, b⟩ := tame_show d h.1
    obtain ⟨c, e⟩ := tameAll_show ds h.2
    rw [PyData.showableAll, PyData.hasDictAll, a, b, c, e]
    exact ⟨rfl, rfl⟩
end
theorem v_repr {d : PyData} (h : tame d = true) (hw : wid d ≤ 16777216) (hd : d.depth ≤ 60) : bRepr [d] = .ok (.str d.shown) := by
  obtain ⟨a, b⟩ := tame_show d h
  have c : d.shown.length ≤ sizeLine := by
    rw [big_size]
    exact Nat.le_trans (shown_wid d h) hw
  rw [bRepr, a, b, decide_eq_true c, decide_eq_true hd]
  rfl
theorem tameAll_map {α : Type} (f : α → PyData) : ∀ l : List α, (∀ a ∈ l, tame (f a) = true) → tameAll (l.map f) = true
  | [], _ => by rw [List.map_nil, tameAll]
  | a :: l, h => by
    rw [List.map_cons, tameAll, h a List.mem_cons_self, tameAll_map f l fun b hb => h b (List.mem_cons_of_mem _ hb)]
    rfl
theorem widAll_map {α : Type} (f : α → PyData) (m : Nat) : ∀ l : List α, (∀ a ∈ l, wid (f a) ≤ m) → widAll (l.map f) ≤ l.length * (m + 2)
  | [], _ => by rw [List.map_nil, widAll]; omega
  | a :: l, h => by
    have h1 := h a List.mem_cons_self
    have h2 := widAll_map f m l fun b hb => h b (List.mem_cons_of_mem _ hb)
    rw [List.map_cons, widAll, List.length_cons, Nat.succ_mul]
    omega
theorem depthAll_map {α : Type} (f : α → PyData) (m : Nat) : ∀ l : List α, (∀ a ∈ l, (f a).depth ≤ m) → PyData.depthAll (l.map f) ≤ m
  | [], _ => by rw [List.map_nil, PyData.depthAll]; omega
  | a :: l, h => by
    have h1 := h a List.mem_cons_self
    have h2 := depthAll_map f m l fun b hb => h b (List.mem_cons_of_mem _ hb)
    rw [List.map_cons, PyData.depthAll]
    omega
theorem rel_tame {n : Nat} {r : Nat → Nat → Bool} (hn : n ≤ 1000) : tame (rel n r) = true := by
  unfold rel
  rw [tame]
  refine tameAll_map _ _ fun i _ => ?_
  rw [tame]
  refine tameAll_map _ _ fun j hj => ?_
  rw [tame]
  have := (row_in.mp hj).1
  refine decide_eq_true ?_
  have : ((j : Int)).natAbs = j := Int.natAbs_natCast j
  rw [this]
  exact Nat.lt_of_lt_of_le (show j < 1000 by omega) (by decide)
theorem rel_wid {n : Nat} {r : Nat → Nat → Bool} (hn : n ≤ 20) : wid (rel n r) ≤ 10000 := by
  unfold rel
  rw [wid]
  have h1 : ∀ i ∈ List.range n, wid (.tuple ((row n (r i)).map dI)) ≤ 3 + 20 * 24 := fun i _ => by
    rw [wid]
    have h2 := widAll_map dI 22 (row n (r i)) fun j _ => by rw [wid]; exact Nat.le_refl _
    have h3 := row_len (n := n) (p := r i)
    omega
  have h4 := widAll_map _ _ (List.range n) h1
  rw [List.length_range] at h4
  have : n * (3 + 20 * 24 + 2) ≤ 20 * (3 + 20 * 24 + 2) := Nat.mul_le_mul_right _ hn
  omega
theorem rel_depth {n : Nat} {r : Nat → Nat → Bool} : (rel n r).depth ≤ 2 := by
  unfold rel
  rw [PyData.depth]
  have h := depthAll_map (fun i => .tuple ((row n (r i)).map dI)) 1 (List.range n) fun i _ => by
    rw [PyData.depth]
    have h := depthAll_map dI 0 (row n (r i)) fun j _ => by rw [PyData.depth]; exact Nat.le_refl _
    omega
  omega
/-! ### equality of data without truth values -/
mutual
def noB : PyData → Bool
  | .bool _ => false
  | .dict _ => false
  | .list xs => noBAll xs
  | .tuple xs => noBAll xs
  | .none => true
  | .int _ => true
  | .str _ => true
def noBAll : List PyData → Bool
  | [] => true
  | x :: xs => noB x && noBAll xs
end
mutual
theorem eqv_same : ∀ d : PyData, noB d = true → PyData.eqv d d = true ∧ d.plain = true
  | .none, _ => ⟨by rw [PyData.eqv], rfl⟩
  | .int i, _ => ⟨by rw [PyData.eqv]; exact beq_self_eq_true _, rfl⟩
  | .str x, _ => ⟨by rw [PyData.eqv]; exact beq_self_eq_true _, rfl⟩
  | .list xs, h => by
    rw [noB] at h
    rw [PyData.eqv, PyData.plain]
    exact eqvAll_same xs h
  | .tuple xs, h => by
    rw [noB] at h
    rw [PyData.eqv, PyData.plain]
    exact eqvAll_same xs h
  | .bool _, h => by rw [noB] at h; cases h
  | .dict _, h => by rw [noB] at h; cases h
theorem eqvAll_same : ∀ ds : List PyData, noBAll ds = true → PyData.eqvAll ds ds = true ∧ PyData.plainAll ds = true
  | [], _ => ⟨by rw [PyData.eqvAll], rfl⟩
  | d :: ds, h => by
    rw [noBAll, Bool.and_eq_true] at h
    obtain ⟨a, b⟩ := eqv_same d h.1
    obtain ⟨c, e⟩ := eqvAll_same ds h.2
    rw [PyData.eqvAll, PyData.plainAll, a, b, c, e]
    exact ⟨rfl, rfl⟩
end
theorem v_eqSame {d : PyData} (h : noB d = true) (hd : d.depth ≤ 60) : pEq d d = .ok (.bool true) := by
  obtain ⟨a, b⟩ := eqv_same d h
  unfold pEq
  rw [a, b, Nat.min_self, decide_eq_true hd]
  rfl
theorem v_neSame {d : PyData} (h : noB d = true) (hd : d.depth ≤ 60) : pNe d d = .ok (.bool false) := by
  obtain ⟨a, b⟩ := eqv_same d h
  unfold pNe
  rw [a, b, Nat.min_self, decide_eq_true hd]
  rfl
theorem v_neStr {x : Str} : pNe (.str x) (.str x) = .ok (.bool false) := v_neSame (by rw [noB]) (by rw [PyData.depth]; omega)
theorem v_eqStr {x : Str} : pEq (.str x) (.str x) = .ok (.bool true) := v_eqSame (by rw [noB]) (by rw [PyData.depth]; omega)
theorem noBAll_map {α : Type} (f : α → PyData) : ∀ l : List α, (∀ a ∈ l, noB (f a) = true) → noBAll (l.map f) = true
  | [], _ => by rw [List.map_nil, noBAll]
  | a :: l, h => by
    rw [List.map_cons, noBAll, h a List.mem_cons_self, noBAll_map f l fun b hb => h b (List.mem_cons_of_mem _ hb)]
    rfl
theorem rel_noB {n : Nat} {r : Nat → Nat → Bool} : noB (rel n r) = true := by
  unfold rel
  rw [noB]
  refine noBAll_map _ _ fun i _ => ?_
  rw [noB]
  exact noBAll_map _ _ fun j _ => by rw [noB]
theorem v_relNe {n : Nat} {r s : Nat → Nat → Bool} (h : ∀ i, i < n → ∀ j, j < n → r i j = s i j) : pNe (rel n r) (rel n s) = .ok (.bool false) := by
  rw [rel_ext h]
  exact v_neSame rel_noB (Nat.le_trans rel_depth (by decide))
theorem v_relEq {n : Nat} {r s : Nat → Nat → Bool} (h : ∀ i, i < n → ∀ j, j < n → r i j = s i j) : pEq (rel n r) (rel n s) = .ok (.bool true) := by
  rw [rel_ext h]
  exact v_eqSame rel_noB (Nat.le_trans rel_depth (by decide))
end Ev

set_option Elab.async false
set_option linter.all false
set_option autoImplicit false
set_option maxRecDepth 100000
set_option maxHeartbeats 2000000
namespace Ev
open PySem PySem.Spec L2 LamX PyProof.Rows

/-! ### draws -/
theorem s_draw {n : Nat} {Q : PyData → Prop} (h0 : 0 < n) (h1 : n < 1000000) (h : ∀ d, d < n → Q (dI d)) : (bDraw [.p, .d (dI n)]).Sat Q := by
  unfold bDraw
  show (if (n : Int) < drawTop then M.draw (n : Int) fun d => M.ok (PyData.int d) else M.err).Sat Q
  rw [if_pos (by rw [drawTop_eq]; omega)]
  refine ⟨by omega, fun d d0 d1 => ?_⟩
  obtain ⟨k, rfl⟩ := Int.eq_ofNat_of_zero_le d0
  exact h k (by omega)
theorem s_ok {α : Type} {m : M α} {a : α} {Q : α → Prop} (e : m = .ok a) (h : Q a) : m.Sat Q := by
  rw [e]
  exact h
theorem s_bind {α β : Type} {m : M α} {f : α → M β} {Q : β → Prop} (h : m.Sat fun a => (f a).Sat Q) : (m.bind f).Sat Q := M.sat_bind.mpr h
/-- f at one place else -/
def putAt {β : Type} (f : Nat → β) (a : Nat) (x : β) : Nat → β := fun i => if i = a then x else f i
theorem putAt_map {β γ : Type} {g : Nat → β → γ} {f : Nat → β} {a : Nat} {x : β} : ∀ {l : List Nat}, a ∉ l → (l.map fun i => g i (putAt f a x i)) = l.map fun i => g i (f i)
  | [], _ => rfl
  | b :: l, h => by
    have h1 : b ≠ a := fun e => h (by rw [e]; exact List.mem_cons_self)
    rw [List.map_cons, List.map_cons, putAt_map fun m => h (List.mem_cons_of_mem _ m)]
    unfold putAt
    rw [if_neg h1]
/-- drawn items -/
theorem s_comp {β : Type} [Inhabited β] {f : PyData → M PyData} {g : Nat → β → PyData} : ∀ {l : List Nat}, l.Nodup → (∀ a ∈ l, (f (dI a)).Sat fun d => ∃ x : β, d = g a x) → (compL (l.map dI) (fun _ => .ok true) f).Sat fun ds => ∃ h : Nat → β, ds = l.map fun a => g a (h a)
  | [], _, _ => ⟨fun _ => default, rfl⟩
  | a :: l, nd, hf => by
    have nd' := List.nodup_cons.mp nd
    rw [List.map_cons, compL, m_ok, if_pos rfl]
    refine s_bind ((hf a List.mem_cons_self).mono fun d ⟨x, hx⟩ => s_bind ((s_comp nd'.2 fun b hb => hf b (List.mem_cons_of_mem _ hb)).mono fun ds ⟨h, e⟩ => ?_))
    refine ⟨putAt h a x, ?_⟩
    rw [List.map_cons, putAt_map nd'.1, hx, e]
    unfold putAt
    rw [if_pos rfl]
theorem s_comp1 {β : Type} [Inhabited β] {f : PyData → M PyData} {n : Nat} {g : Nat → β → PyData} (hn : n ≤ 1000000) (hf : ∀ a, a < n → (f (dI a)).Sat fun d => ∃ x : β, d = g a x) : (comp1 (.ok ((List.range n).map dI)) (fun _ => .ok true) f).Sat fun d => ∃ h : Nat → β, d = .list ((List.range n).map fun a => g a (h a)) := by
  unfold comp1
  rw [m_ok]
  refine s_bind ((s_comp List.nodup_range fun a ha => hf a (List.mem_range.mp ha)).mono fun ds ⟨h, e⟩ => ?_)
  subst e
  unfold mkLst
  rw [if_pos (by rw [big_size]; simp; omega)]
  exact ⟨h, rfl⟩
/-- drawn tests -/
theorem s_filt {c : PyData → M Bool} : ∀ {l : List Nat}, l.Nodup → (∀ a ∈ l, (c (dI a)).Sat fun _ => True) → (compL (l.map dI) c fun x => .ok x).Sat fun ds => ∃ p : Nat → Bool, ds = (l.filter p).map dI
  | [], _, _ => ⟨fun _ => true, rfl⟩
  | a :: l, nd, hc => by
    have nd' := List.nodup_cons.mp nd
    rw [List.map_cons, compL]
    refine s_bind ((hc a List.mem_cons_self).mono fun b _ => ?_)
    have ih := s_filt nd'.2 fun b hb => hc b (List.mem_cons_of_mem _ hb)
    have fl : ∀ (p : Nat → Bool) (x : Bool), l.filter (putAt p a x) = l.filter p := fun p x => List.filter_congr fun i hi => by
      have : i ≠ a := fun e => nd'.1 (by rw [← e]; exact hi)
      unfold putAt
      rw [if_neg this]
    have pa : ∀ (p : Nat → Bool) (x : Bool), putAt p a x a = x := fun p x => by unfold putAt; rw [if_pos rfl]
    cases b with
    | true =>
      rw [if_pos rfl]
      refine s_bind (show _ from s_bind (ih.mono fun ds ⟨p, e⟩ => ⟨putAt p a true, ?_⟩))
      rw [List.filter_cons_of_pos (pa p true), fl, e, List.map_cons]
    | false =>
      rw [if_neg (by simp)]
      refine ih.mono fun ds ⟨p, e⟩ => ⟨putAt p a false, ?_⟩
      rw [List.filter_cons_of_neg (by rw [pa]; simp), fl, e]
theorem s_row {c : PyData → M Bool} {n : Nat} (hn : n ≤ 1000000) (hc : ∀ a, a < n → (c (dI a)).Sat fun _ => True) : (comp1 (.ok ((List.range n).map dI)) c fun x => .ok x).Sat fun d => ∃ p : Nat → Bool, d = .list ((row n p).map dI) := by
  unfold comp1
  rw [m_ok]
  refine s_bind ((s_filt List.nodup_range fun a ha => hc a (List.mem_range.mp ha)).mono fun ds ⟨p, e⟩ => ?_)
  subst e
  have l := row_len (n := n) (p := p)
  unfold row at l
  unfold mkLst
  rw [if_pos (by rw [big_size, List.length_map]; omega)]
  exact ⟨p, rfl⟩
theorem row_one {n i : Nat} (h : i < n) : (row n fun j => decide (i = j)) = [i] := rising_nat (List.Pairwise.filter _ List.pairwise_lt_range) (List.pairwise_singleton _ i) fun z => by
  rw [row_in]
  simp only [decide_eq_true_eq, List.mem_singleton]
  omega
theorem enum_map (n : Nat) (f : Nat → PyData) : enumL [.list ((List.range n).map f)] = .ok ((List.range n).map fun i => .tuple [dI i, f i]) := by
  rw [enumL]
  congr 1
  unfold enumD
  apply List.ext_getElem
  · simp
  · intro i h1 h2
    simp
end Ev

set_option Elab.async false
set_option linter.all false
set_option autoImplicit false
set_option maxRecDepth 100000
set_option maxHeartbeats 2000000
namespace Ev
open PySem PySem.Spec L2 LamX PyProof.Rows

/-! ### comprehensions over plain items, for simp -/
section
variable {α β : Type}
def cxL : (l : List α) → ((a : α) → a ∈ l → M Bool) → ((a : α) → a ∈ l → M PyData) → M (List PyData)
  | [], _, _ => .ok []
  | a :: l, c, f => (c a List.mem_cons_self).bind fun b => if b = true then (f a List.mem_cons_self).bind fun d => (cxL l (fun x h => c x (List.mem_cons_of_mem _ h)) fun x h => f x (List.mem_cons_of_mem _ h)).bind fun ds => .ok (d :: ds) else cxL l (fun x h => c x (List.mem_cons_of_mem _ h)) fun x h => f x (List.mem_cons_of_mem _ h)
def cx (l : List α) (c : (a : α) → a ∈ l → M Bool) (f : (a : α) → a ∈ l → M PyData) : M PyData := (cxL l c f).bind mkLst
theorem cxL_map (e : α → PyData) (c : PyData → M Bool) (f : PyData → M PyData) : ∀ l : List α, compL (l.map e) c f = cxL l (fun a _ => c (e a)) fun a _ => f (e a)
  | [] => rfl
  | a :: l => by rw [List.map_cons, compL, cxL, cxL_map e c f l]
theorem x_comp1 {l : List α} {e : α → PyData} {c : PyData → M Bool} {f : PyData → M PyData} : comp1 (.ok (l.map e)) c f = cx l (fun a _ => c (e a)) fun a _ => f (e a) := by
  unfold comp1 cx
  rw [m_ok, cxL_map]
theorem x_comp2 {l : List α} {e1 e2 : α → PyData} {c : PyData → PyData → M Bool} {f : PyData → PyData → M PyData} : comp2' (.ok (l.map fun a => .tuple [e1 a, e2 a])) c f = cx l (fun a _ => c (e1 a) (e2 a)) fun a _ => f (e1 a) (e2 a) := by
  unfold comp2' cx
  rw [m_ok, cxL_map]
  rfl
theorem cxL_ok (p : α → Bool) (g : α → PyData) : ∀ {l : List α} {c : (a : α) → a ∈ l → M Bool} {f : (a : α) → a ∈ l → M PyData}, (∀ a h, c a h = .ok (p a)) → (∀ a h, p a = true → f a h = .ok (g a)) → cxL l c f = .ok ((l.filter p).map g)
  | [], _, _, _, _ => rfl
  | a :: l, c, f, h1, h2 => by
    rw [cxL, h1, m_ok, cxL_ok p g (fun x h => h1 x _) fun x h => h2 x _]
    cases h : p a with
    | true => rw [if_pos rfl, h2 _ _ h, m_ok, m_ok, List.filter_cons_of_pos h, List.map_cons]
    | false => rw [if_neg (by simp), List.filter_cons_of_neg (by simp [h])]
/-- a comprehension whose tests guard its items -/
theorem cx_guard {l : List α} {c : (a : α) → a ∈ l → M Bool} {f : (a : α) → a ∈ l → M PyData} (p : α → Bool) (g : α → PyData) (h : l.length ≤ 16777216) (h1 : ∀ a h, c a h = .ok (p a)) (h2 : ∀ a h, p a = true → f a h = .ok (g a)) : cx l c f = .ok (.list ((l.filter p).map g)) := by
  unfold cx
  rw [cxL_ok p g h1 h2, m_ok]
  unfold mkLst
  rw [if_pos (by rw [List.length_map, big_size]; exact Nat.le_trans (List.length_filter_le _ _) h)]
theorem x_cx {l : List α} {p : α → Bool} {g : α → PyData} (h : l.length ≤ 16777216) : cx l (fun a _ => .ok (p a)) (fun a _ => .ok (g a)) = .ok (.list ((l.filter p).map g)) := cx_guard p g h (fun _ _ => rfl) fun _ _ _ => rfl
theorem x_cxT {l : List α} {g : α → PyData} (h : l.length ≤ 16777216) : cx l (fun _ _ => .ok true) (fun a _ => .ok (g a)) = .ok (.list (l.map g)) := by
  rw [x_cx h, List.filter_eq_self.mpr fun _ _ => rfl]
end
/-! ### folding back -/
theorem fold_row {n : Nat} {p : Nat → Bool} : (List.range n).filter p = row n p := by rfl
theorem fold_rel {n : Nat} {r : Nat → Nat → Bool} : PyData.tuple ((List.range n).map fun i => .tuple ((row n fun j => r i j).map dI)) = rel n r := by rfl
theorem x_items {n : Nat} {r : Nat → Nat → Bool} : items (rel n r) = .ok ((List.range n).map fun i => .tuple ((row n (r i)).map dI)) := by rfl
theorem x_bTuple {n : Nat} {r : Nat → Nat → Bool} : bTuple [rel n r] = .ok (rel n r) := by rfl
theorem x_bList {n : Nat} {r : Nat → Nat → Bool} : bList [rel n r] = .ok (.list ((List.range n).map fun i => .tuple ((row n (r i)).map dI))) := by rfl
theorem x_isiRT {n : Nat} {r : Nat → Nat → Bool} : pIsi "tuple" (rel n r) = .ok (.bool true) := by rfl
theorem x_zipRR {n : Nat} {r s : Nat → Nat → Bool} : zipL [rel n r, rel n s] = .ok ((List.range n).map fun i => .tuple [.tuple ((row n (r i)).map dI), .tuple ((row n (s i)).map dI)]) := by
  unfold rel
  rw [g_zipT, zipD_map]
theorem g_addNN {a b : Nat} : pAdd (dI a) (dI b) = .ok (dI (a + b)) := by
  rw [g_addI]
  show M.ok (PyData.int _) = M.ok (PyData.int ((a + b : Nat) : Int))
  rw [Int.natCast_add]
theorem g_addLN {b k : Nat} : pAdd (.int (OfNat.ofNat k)) (dI b) = .ok (dI (OfNat.ofNat k + b)) := g_addNN (a := k)
theorem g_eqNN {a b : Nat} : pEq (dI a) (dI b) = .ok (.bool (decide (a = b))) := by
  rw [g_eqI]
  congr 2
  rw [Bool.eq_iff_iff, beq_iff_eq, decide_eq_true_eq]
  omega
theorem g_neNN {a b : Nat} : pNe (dI a) (dI b) = .ok (.bool (!decide (a = b))) := by
  rw [g_neI]
  congr 3
  rw [Bool.eq_iff_iff, beq_iff_eq, decide_eq_true_eq]
  omega
theorem g_eqBB {a b : Bool} : pEq (.bool a) (.bool b) = .ok (.bool (a == b)) := by
  cases a <;> cases b <;> rfl
theorem g_neBB {a b : Bool} : pNe (.bool a) (.bool b) = .ok (.bool (!(a == b))) := by
  cases a <;> cases b <;> rfl
theorem g_isTT : qIs (.bool true) (.bool true) = .ok (.bool true) := by rfl
/-! ### what may be shown -/
structure Sh (d : PyData) (w k : Nat) : Prop where
  t : tame d = true
  w : wid d ≤ w
  k : d.depth ≤ k
theorem sh_mono {d : PyData} {w k w' k' : Nat} (h : Sh d w k) (a : w ≤ w') (b : k ≤ k') : Sh d w' k' := ⟨h.t, Nat.le_trans h.w a, Nat.le_trans h.k b⟩
theorem shAll {w k : Nat} : ∀ {ds : List PyData}, (∀ d ∈ ds, Sh d w k) → tameAll ds = true ∧ widAll ds ≤ ds.length * (w + 2) ∧ PyData.depthAll ds ≤ k
  | [], _ => ⟨by rw [tameAll], by rw [widAll]; omega, by rw [PyData.depthAll]; omega⟩
  | d :: ds, h => by
    obtain ⟨a, b, c⟩ := shAll fun e he => h e (List.mem_cons_of_mem _ he)
    have h0 := h d List.mem_cons_self
    refine ⟨by rw [tameAll, h0.t, a]; rfl, ?_, ?_⟩
    · rw [widAll, List.length_cons, Nat.succ_mul]
      have := h0.w
      omega
    · rw [PyData.depthAll]
      have := h0.k
      omega
theorem sh_lst {ds : List PyData} {w k : Nat} (m : Nat) (hm : ds.length ≤ m) (h : ∀ d ∈ ds, Sh d w k) : Sh (.list ds) (3 + m * (w + 2)) (k + 1) := by
  obtain ⟨a, b, c⟩ := shAll h
  refine ⟨by rw [tame]; exact a, ?_, ?_⟩
  · rw [wid]
    have := Nat.mul_le_mul_right (w + 2) hm
    omega
  · rw [PyData.depth]; omega
theorem sh_tup {ds : List PyData} {w k : Nat} (m : Nat) (hm : ds.length ≤ m) (h : ∀ d ∈ ds, Sh d w k) : Sh (.tuple ds) (3 + m * (w + 2)) (k + 1) := by
  obtain ⟨a, b, c⟩ := shAll h
  refine ⟨by rw [tame]; exact a, ?_, ?_⟩
  · rw [wid]
    have := Nat.mul_le_mul_right (w + 2) hm
    omega
  · rw [PyData.depth]; omega
theorem sh_nil {w k : Nat} {P : PyData → Prop} : ∀ d ∈ ([] : List PyData), P d := fun _ h => nomatch h
theorem sh_cons {P : PyData → Prop} {a : PyData} {ds : List PyData} (h : P a) (h2 : ∀ d ∈ ds, P d) : ∀ d ∈ a :: ds, P d := fun d m => by
  rcases List.mem_cons.mp m with rfl | m
  · exact h
  · exact h2 d m
theorem sh_map {α : Type} {P : PyData → Prop} {f : α → PyData} {l : List α} (h : ∀ a ∈ l, P (f a)) : ∀ d ∈ l.map f, P d := fun d m => by
  obtain ⟨a, ha, rfl⟩ := List.mem_map.mp m
  exact h a ha
theorem sh_bool {b : Bool} : Sh (.bool b) 5 0 := ⟨by rw [tame], by rw [wid]; omega, by rw [PyData.depth]; omega⟩
theorem sh_none : Sh .none 4 0 := ⟨by rw [tame], by rw [wid]; omega, by rw [PyData.depth]; omega⟩
theorem sh_nat {i : Nat} (h : i < 10 ^ 20) : Sh (dI i) 22 0 := ⟨by rw [tame, Int.natAbs_natCast]; exact decide_eq_true h, by rw [wid]; omega, by rw [PyData.depth]; omega⟩
theorem sh_rel {n : Nat} {r : Nat → Nat → Bool} (h : n ≤ 20) : Sh (rel n r) 10000 2 := ⟨rel_tame (by omega), rel_wid h, rel_depth⟩
theorem sh_row {n : Nat} {p : Nat → Bool} (h : n ≤ 20) : Sh (.tuple ((row n p).map dI)) 1000 1 := sh_mono (sh_tup 20 (by rw [List.length_map]; exact Nat.le_trans row_len h) (sh_map fun i hi => sh_nat (by have := (row_in.mp hi).1; omega))) (by omega) (by omega)
theorem x_repr {d : PyData} {w k : Nat} (h : Sh d w k) (hw : w ≤ 16777216) (hk : k ≤ 60) : bRepr [d] = .ok (.str d.shown) := v_repr h.t (Nat.le_trans h.w hw) (Nat.le_trans h.k hk)
theorem x_reprNe {d : PyData} {w k : Nat} (h : Sh d w k) (hw : w ≤ 16777216) (hk : k ≤ 60) : bin pNe (bRepr [d]) (bRepr [d]) = .ok (.bool false) := by
  rw [x_repr h hw hk, g_bin, v_neStr]
theorem x_reprEq {d : PyData} {w k : Nat} (h : Sh d w k) (hw : w ≤ 16777216) (hk : k ≤ 60) : bin pEq (bRepr [d]) (bRepr [d]) = .ok (.bool true) := by
  rw [x_repr h hw hk, g_bin, v_eqStr]
end Ev

set_option Elab.async false
set_option linter.all false
set_option autoImplicit false
set_option maxRecDepth 100000
set_option maxHeartbeats 2000000
namespace Ev
open PySem PySem.Spec L2 LamX PyProof.Rows
/-! ### relations as rules: what is made of them -/
def rThen (n : Nat) (r s : Nat → Nat → Bool) (i k : Nat) : Bool := (List.range n).any fun j => r i j && s j k
def rIn (n : Nat) (r s : Nat → Nat → Bool) : Bool := (List.range n).all fun i => (List.range n).all fun j => !r i j || s i j
def rAhead (n : Nat) (r s : Nat → Nat → Bool) (i j : Nat) : Bool := (List.range n).all fun k => !r j k || s i k
def rBehind (n : Nat) (r s : Nat → Nat → Bool) (i j : Nat) : Bool := rAhead n (fun a b => r b a) (fun a b => s b a) j i
abbrev rStill : Nat → Nat → Bool := fun i j => decide (i = j)
section
variable {n : Nat} {r s l q : Nat → Nat → Bool} {i j : Nat}
theorem beq_of {a b : Bool} (h : a = true ↔ b = true) : a = b := Bool.eq_iff_iff.mpr h
theorem imp_b {a b : Bool} : (!a || b) = true ↔ (a = true → b = true) := by cases a <;> cases b <;> simp
theorem rThen_iff : rThen n r s i j = true ↔ ∃ k, k < n ∧ r i k = true ∧ s k j = true := by
  unfold rThen
  rw [List.any_eq_true]
  exact ⟨fun ⟨k, a, b⟩ => ⟨k, List.mem_range.mp a, Bool.and_eq_true_iff.mp b⟩, fun ⟨k, a, b⟩ => ⟨k, List.mem_range.mpr a, Bool.and_eq_true_iff.mpr b⟩⟩
theorem rAhead_iff : rAhead n r s i j = true ↔ ∀ k, k < n → r j k = true → s i k = true := by
  unfold rAhead
  rw [List.all_eq_true]
  exact ⟨fun h k a => imp_b.mp (h k (List.mem_range.mpr a)), fun h k a => imp_b.mpr (h k (List.mem_range.mp a))⟩
theorem rBehind_iff : rBehind n r s i j = true ↔ ∀ k, k < n → r k i = true → s k j = true := rAhead_iff
theorem rIn_iff : rIn n r s = true ↔ ∀ i, i < n → ∀ j, j < n → r i j = true → s i j = true := by
  unfold rIn
  rw [List.all_eq_true]
  constructor
  · intro h i hi j hj
    exact imp_b.mp (List.all_eq_true.mp (h i (List.mem_range.mpr hi)) j (List.mem_range.mpr hj))
  · intro h i hi
    exact List.all_eq_true.mpr fun j hj => imp_b.mpr (h i (List.mem_range.mp hi) j (List.mem_range.mp hj))
theorem ahead_in : rIn n (rThen n (rAhead n r s) r) s = true := rIn_iff.mpr fun i _ j hj h => by
  obtain ⟨k, hk, a, b⟩ := rThen_iff.mp h
  exact rAhead_iff.mp a j hj b
theorem behind_in : rIn n (rThen n r (rBehind n r s)) s = true := rIn_iff.mpr fun i hi j _ h => by
  obtain ⟨k, hk, a, b⟩ := rThen_iff.mp h
  exact rBehind_iff.mp b i hi a
theorem ahead_or : rAhead n (fun i j => r i j || l i j) s i j = (rAhead n r s i j && rAhead n l s i j) := beq_of (by
  rw [Bool.and_eq_true_iff, rAhead_iff, rAhead_iff, rAhead_iff]
  exact ⟨fun h => ⟨fun k hk a => h k hk (Bool.or_eq_true_iff.mpr (.inl a)), fun k hk a => h k hk (Bool.or_eq_true_iff.mpr (.inr a))⟩, fun ⟨h1, h2⟩ k hk a => (Bool.or_eq_true_iff.mp a).elim (h1 k hk) (h2 k hk)⟩)
theorem ahead_and : rAhead n r (fun i j => s i j && l i j) i j = (rAhead n r s i j && rAhead n r l i j) := beq_of (by
  rw [Bool.and_eq_true_iff, rAhead_iff, rAhead_iff, rAhead_iff]
  exact ⟨fun h => ⟨fun k hk a => (Bool.and_eq_true_iff.mp (h k hk a)).1, fun k hk a => (Bool.and_eq_true_iff.mp (h k hk a)).2⟩, fun ⟨h1, h2⟩ k hk a => Bool.and_eq_true_iff.mpr ⟨h1 k hk a, h2 k hk a⟩⟩)
theorem ahead_then : rAhead n (rThen n l r) s i j = rAhead n l (rAhead n r s) i j := beq_of (by
  rw [rAhead_iff, rAhead_iff]
  exact ⟨fun h m hm a => rAhead_iff.mpr fun k hk b => h k hk (rThen_iff.mpr ⟨m, hm, a, b⟩), fun h k hk a => by
    obtain ⟨m, hm, a, b⟩ := rThen_iff.mp a
    exact rAhead_iff.mp (h m hm a) k hk b⟩)
theorem ahead_still (hj : j < n) : rAhead n rStill s i j = s i j := beq_of (by
  rw [rAhead_iff]
  exact ⟨fun h => h j hj (decide_eq_true rfl), fun h k _ a => (of_decide_eq_true a) ▸ h⟩)
theorem still_own : rIn n rStill (rAhead n r r) = true := rIn_iff.mpr fun i _ j _ a => rAhead_iff.mpr fun k _ b => by
  rw [of_decide_eq_true a]; exact b
theorem own_own : rIn n (rThen n (rAhead n r r) (rAhead n r r)) (rAhead n r r) = true := rIn_iff.mpr fun i _ j hj a => rAhead_iff.mpr fun k hk b => by
  obtain ⟨m, hm, a, c⟩ := rThen_iff.mp a
  exact rAhead_iff.mp a k hk (rAhead_iff.mp c k hk b)
theorem own_then (hi : i < n) (hj : j < n) : rThen n (rAhead n r r) r i j = r i j := beq_of (by
  rw [rThen_iff]
  exact ⟨fun ⟨m, hm, a, b⟩ => rAhead_iff.mp a j hj b, fun h => ⟨i, hi, rAhead_iff.mpr fun k _ b => b, h⟩⟩)
theorem in_ahead : rIn n q (rAhead n r s) = rIn n (rThen n q r) s := beq_of (by
  rw [rIn_iff, rIn_iff]
  exact ⟨fun h i hi k hk a => by
    obtain ⟨m, hm, a, b⟩ := rThen_iff.mp a
    exact rAhead_iff.mp (h i hi m hm a) k hk b, fun h i hi j hj a => rAhead_iff.mpr fun k hk b => h i hi k hk (rThen_iff.mpr ⟨j, hj, a, b⟩)⟩)
theorem in_behind : rIn n q (rBehind n r s) = rIn n (rThen n r q) s := beq_of (by
  rw [rIn_iff, rIn_iff]
  exact ⟨fun h k hk j hj a => by
    obtain ⟨m, hm, a, b⟩ := rThen_iff.mp a
    exact rBehind_iff.mp (h m hm j hj b) k hk a, fun h i hi j hj a => rBehind_iff.mpr fun k hk b => h k hk j hj (rThen_iff.mpr ⟨i, hi, b, a⟩)⟩)
/-- all relations of so many things, as rules -/
def Every (n : Nat) (L : List (Nat → Nat → Bool)) : Prop := ∀ q : Nat → Nat → Bool, ∃ r ∈ L, ∀ i, i < n → ∀ j, j < n → r i j = q i j
theorem rIn_ext {r' s' : Nat → Nat → Bool} (h1 : ∀ i, i < n → ∀ j, j < n → r i j = r' i j) (h2 : ∀ i, i < n → ∀ j, j < n → s i j = s' i j) : rIn n r s = rIn n r' s' := beq_of (by
  rw [rIn_iff, rIn_iff]
  exact ⟨fun h i hi j hj a => by rw [← h2 i hi j hj]; exact h i hi j hj (by rw [h1 i hi j hj]; exact a), fun h i hi j hj a => by rw [h2 i hi j hj]; exact h i hi j hj (by rw [← h1 i hi j hj]; exact a)⟩)
theorem rThen_ext {r' s' : Nat → Nat → Bool} (h1 : ∀ i, i < n → ∀ j, j < n → r i j = r' i j) (h2 : ∀ i, i < n → ∀ j, j < n → s i j = s' i j) (hi : i < n) (hj : j < n) : rThen n r s i j = rThen n r' s' i j := beq_of (by
  rw [rThen_iff, rThen_iff]
  exact ⟨fun ⟨k, hk, a, b⟩ => ⟨k, hk, by rw [← h1 i hi k hk]; exact a, by rw [← h2 k hk j hj]; exact b⟩, fun ⟨k, hk, a, b⟩ => ⟨k, hk, by rw [h1 i hi k hk]; exact a, by rw [h2 k hk j hj]; exact b⟩⟩)
theorem ahead_max {L : List (Nat → Nat → Bool)} (hL : Every n L) (hi : i < n) (hj : j < n) : ((L.filter fun q => rIn n (rThen n q r) s).any fun q => q i j) = rAhead n r s i j := beq_of (by
  rw [List.any_eq_true]
  constructor
  · rintro ⟨q, hq, a⟩
    exact rIn_iff.mp (in_ahead.trans (List.mem_filter.mp hq).2) i hi j hj a
  · intro h
    obtain ⟨q, hq, e⟩ := hL (rAhead n r s)
    refine ⟨q, List.mem_filter.mpr ⟨hq, ?_⟩, by rw [e i hi j hj]; exact h⟩
    show rIn n (rThen n q r) s = true
    rw [rIn_ext (fun a ha b hb => rThen_ext e (fun _ _ _ _ => rfl) ha hb) fun _ _ _ _ => rfl]
    exact ahead_in)
theorem behind_max {L : List (Nat → Nat → Bool)} (hL : Every n L) (hi : i < n) (hj : j < n) : ((L.filter fun q => rIn n (rThen n r q) s).any fun q => q i j) = rBehind n r s i j := beq_of (by
  rw [List.any_eq_true]
  constructor
  · rintro ⟨q, hq, a⟩
    exact rIn_iff.mp (in_behind.trans (List.mem_filter.mp hq).2) i hi j hj a
  · intro h
    obtain ⟨q, hq, e⟩ := hL (rBehind n r s)
    refine ⟨q, List.mem_filter.mpr ⟨hq, ?_⟩, by rw [e i hi j hj]; exact h⟩
    show rIn n (rThen n r q) s = true
    rw [rIn_ext (fun a ha b hb => rThen_ext (fun _ _ _ _ => rfl) e ha hb) fun _ _ _ _ => rfl]
    exact behind_in)
end
end Ev

set_option Elab.async false
set_option linter.all false
set_option autoImplicit false
set_option maxRecDepth 100000
set_option maxHeartbeats 2000000
namespace Ev
open PySem PySem.Spec L2 LamX PyProof.Rows
/-! ### equality of rows and relations, told -/
theorem eqvAll_dI : ∀ a b : List Nat, PyData.eqvAll (a.map dI) (b.map dI) = decide (a = b)
  | [], [] => rfl
  | [], b :: l => rfl
  | a :: l, [] => rfl
  | a :: l, b :: m => by
    rw [List.map_cons, List.map_cons, PyData.eqvAll, eqvAll_dI l m, PyData.eqv]
    by_cases h : a = b
    · subst h
      by_cases h2 : l = m <;> simp [h2]
    · have h2 : ¬ ((a : Int) = (b : Int)) := fun z => h (Int.ofNat.inj z)
      simp [h, h2]
theorem row_ok {a b : List Nat} : ((PyData.tuple (a.map dI)).plain && (PyData.tuple (b.map dI)).plain && decide (min (PyData.tuple (a.map dI)).depth (PyData.tuple (b.map dI)).depth ≤ 60)) = true := by
  have h : (PyData.tuple (a.map dI)).depth ≤ 1 := by
    rw [PyData.depth]
    have h := depthAll_map dI 0 a fun j _ => by rw [PyData.depth]; exact Nat.le_refl _
    omega
  rw [Bool.and_eq_true, Bool.and_eq_true]
  refine ⟨⟨plainAll_map dI a fun _ _ => rfl, plainAll_map dI b fun _ _ => rfl⟩, decide_eq_true ?_⟩
  omega
theorem rowL_ok {a b : List Nat} : ((PyData.list (a.map dI)).plain && (PyData.list (b.map dI)).plain && decide (min (PyData.list (a.map dI)).depth (PyData.list (b.map dI)).depth ≤ 60)) = true := by
  have h : (PyData.list (a.map dI)).depth ≤ 1 := by
    rw [PyData.depth]
    have h := depthAll_map dI 0 a fun j _ => by rw [PyData.depth]; exact Nat.le_refl _
    omega
  rw [Bool.and_eq_true, Bool.and_eq_true]
  refine ⟨⟨plainAll_map dI a fun _ _ => rfl, plainAll_map dI b fun _ _ => rfl⟩, decide_eq_true ?_⟩
  omega
theorem v_eqT {a b : List Nat} : pEq (.tuple (a.map dI)) (.tuple (b.map dI)) = .ok (.bool (decide (a = b))) := by
  unfold pEq
  rw [if_pos row_ok, PyData.eqv, eqvAll_dI]
theorem v_neT {a b : List Nat} : pNe (.tuple (a.map dI)) (.tuple (b.map dI)) = .ok (.bool (!decide (a = b))) := by
  unfold pNe
  rw [if_pos row_ok, PyData.eqv, eqvAll_dI]
theorem v_eqL {a b : List Nat} : pEq (.list (a.map dI)) (.list (b.map dI)) = .ok (.bool (decide (a = b))) := by
  unfold pEq
  rw [if_pos rowL_ok, PyData.eqv, eqvAll_dI]
theorem v_neL {a b : List Nat} : pNe (.list (a.map dI)) (.list (b.map dI)) = .ok (.bool (!decide (a = b))) := by
  unfold pNe
  rw [if_pos rowL_ok, PyData.eqv, eqvAll_dI]
theorem eqvAll_map {α : Type} (f g : α → PyData) : ∀ l : List α, PyData.eqvAll (l.map f) (l.map g) = l.all fun a => PyData.eqv (f a) (g a)
  | [] => rfl
  | a :: l => by rw [List.map_cons, List.map_cons, PyData.eqvAll, eqvAll_map f g l, List.all_cons]
def rEq (n : Nat) (r s : Nat → Nat → Bool) : Bool := (List.range n).all fun i => decide (row n (r i) = row n (s i))
theorem row_eq {n : Nat} {p q : Nat → Bool} : row n p = row n q ↔ ∀ i, i < n → p i = q i := by
  refine ⟨fun h i hi => ?_, row_ext⟩
  rw [← row_mem (p := p) hi, ← row_mem (p := q) hi, h]
theorem rEq_iff {n : Nat} {r s : Nat → Nat → Bool} : rEq n r s = true ↔ ∀ i, i < n → ∀ j, j < n → r i j = s i j := by
  unfold rEq
  rw [List.all_eq_true]
  exact ⟨fun h i hi => row_eq.mp (of_decide_eq_true (h i (List.mem_range.mpr hi))), fun h i hi => decide_eq_true (row_eq.mpr (h i (List.mem_range.mp hi)))⟩
theorem rel_eqv {n : Nat} {r s : Nat → Nat → Bool} : PyData.eqv (rel n r) (rel n s) = rEq n r s := by
  unfold rel rEq
  rw [PyData.eqv, eqvAll_map]
  exact congrArg (fun f => List.all (List.range n) f) (funext fun i => by rw [PyData.eqv, eqvAll_dI])
theorem rel_okEq {n : Nat} {r s : Nat → Nat → Bool} : ((rel n r).plain && (rel n s).plain && decide (min (rel n r).depth (rel n s).depth ≤ 60)) = true := by
  have a := (eqv_same (rel n r) rel_noB).2
  have b := (eqv_same (rel n s) rel_noB).2
  have h := rel_depth (n := n) (r := r)
  rw [a, b, Bool.true_and, Bool.true_and]
  exact decide_eq_true (by omega)
theorem v_relEqD {n : Nat} {r s : Nat → Nat → Bool} : pEq (rel n r) (rel n s) = .ok (.bool (rEq n r s)) := by
  unfold pEq
  rw [if_pos rel_okEq, rel_eqv]
theorem v_relNeD {n : Nat} {r s : Nat → Nat → Bool} : pNe (rel n r) (rel n s) = .ok (.bool (!rEq n r s)) := by
  unfold pNe
  rw [if_pos rel_okEq, rel_eqv]
/-! ### relations of equals -/
structure Eqv (n : Nat) (e : Nat → Nat → Bool) : Prop where
  refl : ∀ i, i < n → e i i = true
  symm : ∀ i, i < n → ∀ j, j < n → e i j = true → e j i = true
  trans : ∀ i, i < n → ∀ j, j < n → ∀ k, k < n → e i j = true → e j k = true → e i k = true
abbrev eqOf (f : Nat → Nat) : Nat → Nat → Bool := fun i j => decide (f j = f i)
theorem eqv_of {n : Nat} {f : Nat → Nat} : Eqv n (eqOf f) :=
  ⟨fun _ _ => decide_eq_true rfl, fun _ _ _ _ h => decide_eq_true (of_decide_eq_true h).symm, fun _ _ _ _ _ _ h1 h2 => decide_eq_true ((of_decide_eq_true h2).trans (of_decide_eq_true h1))⟩
theorem Eqv.row {n : Nat} {e : Nat → Nat → Bool} (h : Eqv n e) {i j : Nat} (hi : i < n) (hj : j < n) : row n (e i) = row n (e j) ↔ e i j = true := by
  rw [row_eq]
  constructor
  · intro g
    rw [g j hj]; exact h.refl j hj
  · intro g k hk
    exact beq_of ⟨fun a => h.trans j hj i hi k hk (h.symm i hi j hj g) a, fun a => h.trans i hi j hj k hk g a⟩
def rTw (n : Nat) (r : Nat → Nat → Bool) (i j : Nat) : Bool := decide (row n (r i) = row n (r j)) && decide (row n (fun k => r k i) = row n (fun k => r k j))
theorem rTw_iff {n : Nat} {r : Nat → Nat → Bool} {i j : Nat} : rTw n r i j = true ↔ (∀ k, k < n → r i k = r j k) ∧ ∀ k, k < n → r k i = r k j := by
  unfold rTw
  rw [Bool.and_eq_true, decide_eq_true_eq, decide_eq_true_eq, row_eq, row_eq]
theorem eqv_tw {n : Nat} {r : Nat → Nat → Bool} : Eqv n (rTw n r) :=
  ⟨fun i _ => rTw_iff.mpr ⟨fun _ _ => rfl, fun _ _ => rfl⟩, fun i _ j _ h => by
    obtain ⟨a, b⟩ := rTw_iff.mp h
    exact rTw_iff.mpr ⟨fun k hk => (a k hk).symm, fun k hk => (b k hk).symm⟩, fun i _ j _ k _ h1 h2 => by
    obtain ⟨a, b⟩ := rTw_iff.mp h1
    obtain ⟨c, d⟩ := rTw_iff.mp h2
    exact rTw_iff.mpr ⟨fun m hm => (a m hm).trans (c m hm), fun m hm => (b m hm).trans (d m hm)⟩⟩
def rSpr (n : Nat) (r e : Nat → Nat → Bool) (i j : Nat) : Bool := (row n (e i)).any fun a => (row n (e j)).any fun b => r a b
theorem rSpr_iff {n : Nat} {r e : Nat → Nat → Bool} {i j : Nat} : rSpr n r e i j = true ↔ ∃ a, a < n ∧ e i a = true ∧ ∃ b, b < n ∧ e j b = true ∧ r a b = true := by
  unfold rSpr
  rw [List.any_eq_true]
  constructor
  · rintro ⟨a, ha, h⟩
    obtain ⟨b, hb, h⟩ := List.any_eq_true.mp h
    exact ⟨a, (row_in.mp ha).1, (row_in.mp ha).2, b, (row_in.mp hb).1, (row_in.mp hb).2, h⟩
  · rintro ⟨a, h1, h2, b, h3, h4, h⟩
    exact ⟨a, row_in.mpr ⟨h1, h2⟩, List.any_eq_true.mpr ⟨b, row_in.mpr ⟨h3, h4⟩, h⟩⟩
def rSame (n : Nat) (r e : Nat → Nat → Bool) : Bool := (List.range n).all fun i => (row n (e i)).all fun j => rTw n r i j
theorem rSame_iff {n : Nat} {r e : Nat → Nat → Bool} : rSame n r e = true ↔ ∀ i, i < n → ∀ j, j < n → e i j = true → rTw n r i j = true := by
  unfold rSame
  rw [List.all_eq_true]
  constructor
  · intro h i hi j hj a
    exact List.all_eq_true.mp (h i (List.mem_range.mpr hi)) j (row_in.mpr ⟨hj, a⟩)
  · intro h i hi
    exact List.all_eq_true.mpr fun j hj => h i (List.mem_range.mp hi) j (row_in.mp hj).1 (row_in.mp hj).2
section
variable {n : Nat} {r s e e2 : Nat → Nat → Bool}
theorem spr_then (h : Eqv n e) {i j : Nat} (hi : i < n) (hj : j < n) : rThen n (rThen n e r) e i j = rSpr n r e i j := beq_of (by
  rw [rThen_iff, rSpr_iff]
  constructor
  · rintro ⟨k, hk, a, b⟩
    obtain ⟨m, hm, a, c⟩ := rThen_iff.mp a
    exact ⟨m, hm, a, k, hk, h.symm k hk j hj b, c⟩
  · rintro ⟨a, h1, h2, b, h3, h4, h5⟩
    exact ⟨b, h3, rThen_iff.mpr ⟨a, h1, h2, h5⟩, h.symm j hj b h3 h4⟩)
theorem spr_above (h : Eqv n e) : rIn n r (rSpr n r e) = true := rIn_iff.mpr fun i hi j hj a => rSpr_iff.mpr ⟨i, hi, h.refl i hi, j, hj, h.refl j hj, a⟩
/-- what stands for equals alike -/
theorem same_iff (h : Eqv n e) : rSame n r e = true ↔ ∀ i, i < n → ∀ j, j < n → ∀ a, a < n → ∀ b, b < n → e i a = true → e j b = true → r a b = true → r i j = true := by
  rw [rSame_iff]
  constructor
  · intro g i hi j hj a ha b hb h1 h2 h3
    have t1 := (rTw_iff.mp (g i hi a ha h1)).1 b hb
    have t2 := (rTw_iff.mp (g j hj b hb h2)).2 i hi
    rw [t2, t1, h3]
  · intro g i hi j hj a
    have b := h.symm i hi j hj a
    refine rTw_iff.mpr ⟨fun k hk => beq_of ⟨fun c => g j hj k hk i hi k hk b (h.refl k hk) c, fun c => g i hi k hk j hj k hk a (h.refl k hk) c⟩, fun k hk => beq_of ⟨fun c => g k hk j hj k hk i hi (h.refl k hk) b c, fun c => g k hk i hi k hk j hj (h.refl k hk) a c⟩⟩
theorem spr_same (h : Eqv n e) : rSame n (rSpr n r e) e = true := (same_iff h).mpr fun i hi j hj a ha b hb h1 h2 h3 => by
  obtain ⟨c, hc, h4, d, hd, h5, h6⟩ := rSpr_iff.mp h3
  exact rSpr_iff.mpr ⟨c, hc, h.trans i hi a ha c hc h1 h4, d, hd, h.trans j hj b hb d hd h2 h5, h6⟩
theorem same_spr (h : Eqv n e) (g : rSame n r e = true) {i j : Nat} (hi : i < n) (hj : j < n) : rSpr n r e i j = r i j := beq_of ⟨fun a => by
  obtain ⟨c, hc, h4, d, hd, h5, h6⟩ := rSpr_iff.mp a
  exact (same_iff h).mp g i hi j hj c hc d hd h4 h5 h6, fun a => rSpr_iff.mpr ⟨i, hi, h.refl i hi, j, hj, h.refl j hj, a⟩⟩
theorem spr_eq (h : Eqv n e) : rEq n (rSpr n r e) r = rSame n r e := beq_of ⟨fun g => by
  have g2 := rEq_iff.mp g
  exact (same_iff h).mpr fun i hi j hj a ha b hb h1 h2 h3 => by
    rw [← g2 i hi j hj]
    exact rSpr_iff.mpr ⟨a, ha, h1, b, hb, h2, h3⟩, fun g => rEq_iff.mpr fun i hi j hj => same_spr h g hi hj⟩
theorem rEq_ext {r' s' : Nat → Nat → Bool} (h1 : ∀ i, i < n → ∀ j, j < n → r i j = r' i j) (h2 : ∀ i, i < n → ∀ j, j < n → s i j = s' i j) : rEq n r s = rEq n r' s' := beq_of (by
  rw [rEq_iff, rEq_iff]
  exact ⟨fun h i hi j hj => by rw [← h1 i hi j hj, ← h2 i hi j hj]; exact h i hi j hj, fun h i hi j hj => by rw [h1 i hi j hj, h2 i hi j hj]; exact h i hi j hj⟩)
theorem same_in (h : Eqv n e) : rIn n e (rTw n r) = rSame n r e := beq_of (by rw [rIn_iff, rSame_iff])
theorem same_or (h : Eqv n e) (h1 : rSame n r e = true) (h2 : rSame n s e = true) : rSame n (fun i j => r i j || s i j) e = true := rSame_iff.mpr fun i hi j hj a => by
  obtain ⟨b, c⟩ := rTw_iff.mp (rSame_iff.mp h1 i hi j hj a)
  obtain ⟨b', c'⟩ := rTw_iff.mp (rSame_iff.mp h2 i hi j hj a)
  exact rTw_iff.mpr ⟨fun k hk => by rw [b k hk, b' k hk], fun k hk => by rw [c k hk, c' k hk]⟩
theorem same_turn (h1 : rSame n r e = true) : rSame n (fun i j => r j i) e = true := rSame_iff.mpr fun i hi j hj a => by
  obtain ⟨b, c⟩ := rTw_iff.mp (rSame_iff.mp h1 i hi j hj a)
  exact rTw_iff.mpr ⟨c, b⟩
theorem same_not (h1 : rSame n r e = true) : rSame n (fun i j => !r i j) e = true := rSame_iff.mpr fun i hi j hj a => by
  obtain ⟨b, c⟩ := rTw_iff.mp (rSame_iff.mp h1 i hi j hj a)
  exact rTw_iff.mpr ⟨fun k hk => by rw [b k hk], fun k hk => by rw [c k hk]⟩
theorem spr_least (h : Eqv n e) (h1 : rIn n r s = true) (h2 : rSame n s e = true) : rIn n (rSpr n r e) s = true := rIn_iff.mpr fun i hi j hj a => by
  obtain ⟨c, hc, h4, d, hd, h5, h6⟩ := rSpr_iff.mp a
  exact (same_iff h).mp h2 i hi j hj c hc d hd h4 h5 (rIn_iff.mp h1 c hc d hd h6)
theorem tw_turn {i j : Nat} : rTw n (fun i j => r j i) i j = rTw n r i j := Bool.and_comm _ _
theorem tw_not {i j : Nat} : rTw n (fun i j => !r i j) i j = rTw n r i j := beq_of (by
  rw [rTw_iff, rTw_iff]
  exact ⟨fun ⟨a, b⟩ => ⟨fun k hk => Bool.not_inj (a k hk), fun k hk => Bool.not_inj (b k hk)⟩, fun ⟨a, b⟩ => ⟨fun k hk => congrArg _ (a k hk), fun k hk => congrArg _ (b k hk)⟩⟩)
end
/-! ### loops that draw -/
theorem s_foldR {σ : Type} {f : PyData → σ → M σ} (J : Nat → σ → Prop) : ∀ (n a : Nat) (s : σ), J a s → (∀ k s, a ≤ k → k < a + n → J k s → (f (dI k) s).Sat (J (k + 1))) → (foldL ((List.range' a n).map dI) s f).Sat (J (a + n))
  | 0, a, s, h, _ => h
  | n + 1, a, s, h, hf => by
    rw [List.range'_succ, List.map_cons, foldL]
    refine s_bind ((hf a s (Nat.le_refl _) (by omega) h).mono fun s' h' => ?_)
    have := s_foldR J n (a + 1) s' h' fun k s h1 h2 => hf k s (by omega) (by omega)
    rw [show a + 1 + n = a + (n + 1) by omega] at this
    exact this
theorem s_fold0 {σ : Type} {f : PyData → σ → M σ} (J : Nat → σ → Prop) {n : Nat} {s : σ} (h : J 0 s) (hf : ∀ k s, k < n → J k s → (f (dI k) s).Sat (J (k + 1))) : (foldL ((List.range n).map dI) s f).Sat (J n) := by
  rw [List.range_eq_range']
  have := s_foldR J n 0 s h fun k s _ h2 => hf k s (by omega)
  rw [Nat.zero_add] at this
  exact this
theorem s_drawI {i : Int} {Q : PyData → Prop} (h0 : 0 < i) (h1 : i < 1000000) (h : ∀ d : Nat, (d : Int) < i → Q (dI d)) : (bDraw [.p, .d (.int i)]).Sat Q := by
  obtain ⟨n, rfl⟩ := Int.eq_ofNat_of_zero_le (Int.le_of_lt h0)
  exact s_draw (by omega) (by omega) fun d hd => h d (by omega)
theorem s_step {α β : Type} {m : M α} {f : α → M β} {P : α → Prop} {Q : β → Prop} (h : m.Sat P) (h2 : ∀ a, P a → (f a).Sat Q) : (m.bind f).Sat Q := s_bind (h.mono h2)
theorem s_stepE {α β X : Type} {m : M α} {f : α → M β} {g : X → α} {Q : β → Prop} (h : m.Sat fun d => ∃ x, d = g x) (h2 : ∀ x, (f (g x)).Sat Q) : (m.bind f).Sat Q := s_bind (h.mono fun d ⟨x, e⟩ => by rw [e]; exact h2 x)
theorem callM_bind {α : Type} {n : Nat} {f : List AV → M PyData} {m : M α} {k : α → M (List AV)} : callM n f (m.bind k) = m.bind fun x => callM n f (k x) := M.bind_assoc m
theorem g_callK2 {f : List AV → M PyData} {a b : AV} : callKM 2 [1, 0] 2 f (.ok [a, b]) = f [b, a] := by rfl
theorem g_callK1 {f : List AV → M PyData} {a : AV} : callKM 1 [0] 1 f (.ok [a]) = f [a] := by rfl
theorem g_mIfT {α : Type} {a b : M α} : mIf (.ok true) a b = a := by rfl
theorem g_mIfF {α : Type} {a b : M α} : mIf (.ok false) a b = b := by rfl
theorem g_isT {b : Bool} : qIs (.bool b) (.bool true) = .ok (.bool b) := by cases b <;> rfl
theorem v_notRow {n i : Nat} {p : Nat → Bool} (h : i < n) : pNotIn (dI i) (.tuple ((row n p).map dI)) = .ok (.bool (!p i)) := by rw [v_pNotIn, row_mem h]
theorem flat_nat {i : Nat} : flat (dI i) = .ok (dI i) := by
  unfold flat
  rw [if_pos (by rw [noL])]
theorem g_lsOf {ds : List PyData} : lsOf (.list ds) = .ok ds := by rfl
theorem g_mkTup3 {a b c : PyData} : mkTup [a, b, c] = .ok (.tuple [a, b, c]) := by
  unfold mkTup; rw [if_pos (by rw [big_size]; exact Nat.le_of_ble_eq_true rfl)]
theorem g_isNotB {b : Bool} : qIsNot (.bool b) (.bool true) = .ok (.bool (!b)) := by cases b <;> rfl
theorem row_none {n : Nat} {p : Nat → Bool} (h : ∀ i, i < n → p i = false) : row n p = [] := by
  unfold row
  exact List.filter_eq_nil_iff.mpr fun i hi => by rw [h i (List.mem_range.mp hi)]; simp
theorem v_foldSame {α σ : Type} {e : α → PyData} {f : PyData → σ → M σ} {s : σ} : ∀ {l : List α}, (∀ a ∈ l, f (e a) s = .ok s) → foldL (l.map e) s f = .ok s
  | [], _ => rfl
  | a :: l, h => by rw [List.map_cons, foldL, h a List.mem_cons_self, m_ok, v_foldSame fun b hb => h b (List.mem_cons_of_mem _ hb)]
theorem eqStr {x y : Str} : pEq (.str x) (.str y) = .ok (.bool (x == y)) := by
  unfold pEq
  rw [if_pos (by rfl), PyData.eqv]
theorem sE {x : Str} : (x == x) = true := beq_self_eq_true x
theorem sort0 : bSorted [.list []] = .ok (.list []) := by rfl
theorem row_filter_none {n : Nat} {p q : Nat → Bool} (h : ∀ i, i < n → p i = true → q i = false) : (row n p).filter q = [] := List.filter_eq_nil_iff.mpr fun i hi => by rw [h i (row_in.mp hi).1 (row_in.mp hi).2]; simp
theorem thenL_nx {S ρ : Type} {kk : S → M ρ} {s : S} : thenL kk (.nx s) = kk s := by rfl
theorem eqNil : pEq (.list []) (.list []) = .ok (.bool true) := by rfl
theorem pNe_rel {n : Nat} {r s : Nat → Nat → Bool} (h : ∀ i, i < n → ∀ j, j < n → r i j = s i j) : pNe (rel n r) (rel n s) = .ok (.bool false) := v_relNe h
theorem sh_rels2 {n : Nat} {r s : Nat → Nat → Bool} (hn : n ≤ 20) : Sh (.list [rel n r, rel n s]) (3 + 2 * 10002) 3 := sh_lst 2 (Nat.le_refl _) (sh_cons (sh_rel hn) (sh_cons (sh_rel hn) (sh_nil (w := 0) (k := 0))))
theorem sh_rels4 {n : Nat} {a b c d : Nat → Nat → Bool} (hn : n ≤ 20) : Sh (.list [rel n a, rel n b, rel n c, rel n d]) (3 + 4 * 10002) 3 := sh_lst 4 (Nat.le_refl _) (sh_cons (sh_rel hn) (sh_cons (sh_rel hn) (sh_cons (sh_rel hn) (sh_cons (sh_rel hn) (sh_nil (w := 0) (k := 0))))))
theorem sh_bools2 {a b : Bool} : Sh (.list [.bool a, .bool b]) (3 + 2 * (5 + 2)) 1 := sh_lst 2 (Nat.le_refl _) (sh_cons sh_bool (sh_cons sh_bool (sh_nil (w := 0) (k := 0))))
/-- a draw -/
theorem s_drawK {β : Type} {n : Nat} {f : PyData → M β} {Q : β → Prop} (h0 : 0 < n) (h1 : n < 1000000) (h : ∀ k, k < n → (f (dI k)).Sat Q) : ((bDraw [.p, .d (dI n)]).bind f).Sat Q := s_step (s_draw (Q := fun d => ∃ k, k < n ∧ d = dI k) h0 h1 fun d hd => ⟨d, hd, rfl⟩) fun d ⟨k, hk, e⟩ => by rw [e]; exact h k hk
theorem tw_symm {n : Nat} {r : Nat → Nat → Bool} {i j : Nat} (hi : i < n) (hj : j < n) : rTw n r j i = rTw n r i j := beq_of ⟨eqv_tw.symm j hj i hi, eqv_tw.symm i hi j hj⟩
theorem rel_twT {n : Nat} {r : Nat → Nat → Bool} : rel n (rTw n fun i j => r j i) = rel n (rTw n r) := rel_ext fun _ _ _ _ => tw_turn
theorem rel_twN {n : Nat} {r : Nat → Nat → Bool} : rel n (rTw n fun i j => !r i j) = rel n (rTw n r) := rel_ext fun _ _ _ _ => tw_not
theorem g_mul4 {d : PyData} : pMul (.list [d]) (.int 4) = .ok (.list [d, d, d, d]) := by rfl
theorem g_mkLst4 {a b c d : PyData} : mkLst [a, b, c, d] = .ok (.list [a, b, c, d]) := by
  unfold mkLst; rw [if_pos (by rw [big_size]; exact Nat.le_of_ble_eq_true rfl)]
theorem g_mkLst5 {a b c d e : PyData} : mkLst [a, b, c, d, e] = .ok (.list [a, b, c, d, e]) := by
  unfold mkLst; rw [if_pos (by rw [big_size]; exact Nat.le_of_ble_eq_true rfl)]
theorem g_un2 {α : Type} {a b : PyData} {f : PyData → PyData → M α} : un2 (.tuple [a, b]) f = f a b := by rfl
theorem forL_nil {S ρ : Type} {s : S} {f : PyData → S → M (LB S ρ)} : forL [] s f = .ok (.nx s) := by rfl
theorem forL_nx {S ρ : Type} {d : PyData} {ds : List PyData} {s s' : S} {f : PyData → S → M (LB S ρ)} (h : f d s = .ok (.nx s')) : forL (d :: ds) s f = forL ds s' f := by
  rw [forL, h]
  rfl
theorem g_mulI {a b : Int} (h : (-(2 ^ 64) < a ∧ a < 2 ^ 64) ∨ (-(2 ^ 64) < b ∧ b < 2 ^ 64)) : pMul (.int a) (.int b) = .ok (.int (a * b)) := by
  rw [pMul, if_pos h]
theorem g_modI {a b : Int} (h : b ≠ 0) : pMod (.int a) (.int b) = .ok (.int (a.fmod b)) := by
  rw [pMod, if_pos h]
theorem g_pow1018 : pPow (.int 10) (.int 18) = .ok (.int 1000000000000000000) := by rfl
theorem g_max2 {a b : Int} : bMax2 [.int a, .int b] = .ok (.int (if b > a then b else a)) := by rfl
theorem g_min2 {a b : Int} : bMin2 [.int a, .int b] = .ok (.int (if b < a then b else a)) := by rfl
theorem g_bIntI {a : Int} : bInt [.int a] = .ok (.int a) := by rfl
theorem g_bAbs {a : Int} : bAbs [.int a] = .ok (.int (if a < 0 then -a else a)) := by rfl
theorem g_bSum {l : List Int} : bSum [.list (l.map .int)] = .ok (.int l.sum) := by
  rw [bSum, intsOf_map]
theorem v_sIdx {ns : List Int} {k : Nat} (h : k < ns.length) : sIdx ns (dI k) = .ok (.int ns[k]) := by
  rw [sIdx, atI_nat ns h]
theorem g_toI {a : Int} : toI (.int a) = .ok (some a) := by rfl
theorem pot_fin {a b c : Int} (hb : 0 < b) (hb2 : b < 4611686018427387903) : potOk [.int (if a > 0 then a else 0), .int (c.fmod b + 1)] = true := by
  have h1 := Int.fmod_nonneg_of_pos c hb
  have h2 := Int.fmod_lt_of_pos c hb
  unfold potOk
  refine decide_eq_true ⟨?_, by omega, by omega⟩
  split <;> omega
/-! ### the same, closed to evaluation -/
@[irreducible] def Sa {α : Type} (m : M α) (Q : α → Prop) : Prop := m.Sat Q
theorem sa_iff {α : Type} {m : M α} {Q : α → Prop} : Sa m Q ↔ m.Sat Q := by
  unfold Sa
  exact Iff.rfl
theorem sa_of {α : Type} {m : M α} {Q : α → Prop} (h : m.Sat Q) : Sa m Q := sa_iff.mpr h
theorem sa_step {α β : Type} {m : M α} {f : α → M β} {P : α → Prop} {Q : β → Prop} (h : Sa m P) (h2 : ∀ a, P a → Sa (f a) Q) : Sa (m.bind f) Q := sa_iff.mpr (s_step (sa_iff.mp h) fun a p => sa_iff.mp (h2 a p))
theorem sa_stepE {α β X : Type} {m : M α} {f : α → M β} {g : X → α} {Q : β → Prop} (h : m.Sat fun d => ∃ x, d = g x) (h2 : ∀ x, Sa (f (g x)) Q) : Sa (m.bind f) Q := sa_iff.mpr (s_stepE h fun x => sa_iff.mp (h2 x))
theorem sa_true {f : PyData → M PyData} {m : M PyData} {Q : PyData → Prop} (h : m.Sat fun d => d = .bool true) (h2 : Sa (f (.bool true)) Q) : Sa (m.bind f) Q := sa_iff.mpr (s_step h fun d e => by rw [e]; exact sa_iff.mp h2)
theorem sa_drawK {β : Type} {n : Nat} {f : PyData → M β} {Q : β → Prop} (h0 : 0 < n) (h1 : n < 1000000) (h : ∀ k, k < n → Sa (f (dI k)) Q) : Sa ((bDraw [.p, .d (dI n)]).bind f) Q := sa_iff.mpr (s_drawK h0 h1 fun k hk => sa_iff.mp (h k hk))
theorem sa_ok {α : Type} {a : α} {Q : α → Prop} : Sa (.ok a) Q ↔ Q a := sa_iff
/-- all([f(k) for k in range(max(1, min(j, len(script))))]) -/
theorem sa_allK {n : Nat} {f : PyData → M PyData} {Q : PyData → Prop} {g : PyData → M PyData} (hn : n ≤ 1000) (hf : ∀ k, k < n → Sa (f (dI k)) fun d => d = .bool true) (hg : Sa (g (.bool true)) Q) : Sa (M.bind (M.bind (aCons (comp1 (rng1 [dI n]) (fun _ => .ok true) f) (.ok [])) bAll) g) Q := by
  rw [v_rng1 (by omega), sa_iff]
  unfold aCons
  rw [M.sat_bind, M.sat_bind, M.sat_bind]
  refine (s_comp1 (β := Unit) (g := fun _ _ => .bool true) (by omega) fun a ha => (sa_iff.mp (hf a ha)).mono fun d e => ⟨(), e⟩).mono fun d ⟨h, e⟩ => ?_
  subst e
  show M.Sat (bAll [.list ((List.range n).map fun _ => .bool true)]) _
  rw [v_bAll (List.range n) (fun _ => true), List.all_eq_true.mpr fun _ _ => rfl]
  have z : (g (.bool true)).Sat Q := sa_iff.mp hg
  exact z
end Ev

set_option Elab.async false
set_option linter.all false
set_option autoImplicit false
set_option maxRecDepth 100000
set_option maxHeartbeats 8000000
namespace Ev
open PySem PySem.Spec L2 LamX PyProof.Rows

def top (i : Nat) : Stmt := PySem.Challenge.pw_pairsled_k94_whole_alike_papers.main.body.getD i (.Pass ⟨0, 0, 0, 0⟩)
def fuel : Nat := 100000

structure GOk (G : Glb) : Prop where
  f_abs : G.mg "abs" = none
  f_all : G.mg "all" = none
  f_bool : G.mg "bool" = none
  f_divmod : G.mg "divmod" = none
  f_int : G.mg "int" = none
  f_isinstance : G.mg "isinstance" = none
  f_len : G.mg "len" = none
  f_list : G.mg "list" = none
  f_max : G.mg "max" = none
  f_min : G.mg "min" = none
  f_range : G.mg "range" = none
  f_repr : G.mg "repr" = none
  f_set : G.mg "set" = none
  f_sorted : G.mg "sorted" = none
  f_str : G.mg "str" = none
  f_tuple : G.mg "tuple" = none
  f_zip : G.mg "zip" = none
  c_FORMS_WORD : ∃ t, G.mg "FORMS_WORD" = some (.str "forms" t)
  c_MOST_THINGS : ∃ t, G.mg "MOST_THINGS" = some (.int 6 t)
  c_NAMES_WORD : ∃ t, G.mg "NAMES_WORD" = some (.str "names" t)
  d_is_integer : ∃ fa fd, G.mg "is_integer" = some (.ref fa) ∧ FunD G.K "is_integer" "is_integer" (defArgs (top 1)) (defBody (top 1)) (defScope (top 1)) [] [] fa fd
  d_is_within : ∃ fa fd, G.mg "is_within" = some (.ref fa) ∧ FunD G.K "is_within" "is_within" (defArgs (top 2)) (defBody (top 2)) (defScope (top 2)) [] [] fa fd
  d_is_list : ∃ fa fd, G.mg "is_list" = some (.ref fa) ∧ FunD G.K "is_list" "is_list" (defArgs (top 3)) (defBody (top 3)) (defScope (top 3)) [] [] fa fd
  d_is_tuple : ∃ fa fd, G.mg "is_tuple" = some (.ref fa) ∧ FunD G.K "is_tuple" "is_tuple" (defArgs (top 4)) (defBody (top 4)) (defScope (top 4)) [] [] fa fd
  d_are_rising : ∃ fa fd, G.mg "are_rising" = some (.ref fa) ∧ FunD G.K "are_rising" "are_rising" (defArgs (top 5)) (defBody (top 5)) (defScope (top 5)) [] [] fa fd
  d_is_lot_of : ∃ fa fd, G.mg "is_lot_of" = some (.ref fa) ∧ FunD G.K "is_lot_of" "is_lot_of" (defArgs (top 6)) (defBody (top 6)) (defScope (top 6)) [] [] fa fd
  d_is_relation_of : ∃ fa fd, G.mg "is_relation_of" = some (.ref fa) ∧ FunD G.K "is_relation_of" "is_relation_of" (defArgs (top 16)) (defBody (top 16)) (defScope (top 16)) [] [] fa fd
  d_is_relation_value : ∃ fa fd, G.mg "is_relation_value" = some (.ref fa) ∧ FunD G.K "is_relation_value" "is_relation_value" (defArgs (top 17)) (defBody (top 17)) (defScope (top 17)) [] [] fa fd
  d_want_relation : ∃ fa fd, G.mg "want_relation" = some (.ref fa) ∧ FunD G.K "want_relation" "want_relation" (defArgs (top 18)) (defBody (top 18)) (defScope (top 18)) [] [] fa fd
  d_want_as_many : ∃ fa fd, G.mg "want_as_many" = some (.ref fa) ∧ FunD G.K "want_as_many" "want_as_many" (defArgs (top 20)) (defBody (top 20)) (defScope (top 20)) [] [] fa fd
  d_want_two : ∃ fa fd, G.mg "want_two" = some (.ref fa) ∧ FunD G.K "want_two" "want_two" (defArgs (top 19)) (defBody (top 19)) (defScope (top 19)) [] [] fa fd
  d_want_thing : ∃ fa fd, G.mg "want_thing" = some (.ref fa) ∧ FunD G.K "want_thing" "want_thing" (defArgs (top 21)) (defBody (top 21)) (defScope (top 21)) [] [] fa fd
  d_by_rule : ∃ fa fd, G.mg "by_rule" = some (.ref fa) ∧ FunD G.K "by_rule" "by_rule" (defArgs (top 22)) (defBody (top 22)) (defScope (top 22)) [] [] fa fd
  d_are_names_value : ∃ fa fd, G.mg "are_names_value" = some (.ref fa) ∧ FunD G.K "are_names_value" "are_names_value" (defArgs (top 24)) (defBody (top 24)) (defScope (top 24)) [] [] fa fd
  d_want_names : ∃ fa fd, G.mg "want_names" = some (.ref fa) ∧ FunD G.K "want_names" "want_names" (defArgs (top 25)) (defBody (top 25)) (defScope (top 25)) [] [] fa fd
  d_renamed_of : ∃ fa fd, G.mg "renamed_of" = some (.ref fa) ∧ FunD G.K "renamed_of" "renamed_of" (defArgs (top 26)) (defBody (top 26)) (defScope (top 26)) [] [] fa fd ∧ ∃ c P, fd.code = .ref c ∧ TabB G.base G.mg c P ∧ (P, lamName "renamed_of") ∈ G.T ∧ ∀ q ∈ G.T, q.1 = P → q.2 = lamName "renamed_of"
  d_renamed : ∃ fa fd, G.mg "renamed" = some (.ref fa) ∧ FunD G.K "renamed" "renamed" (defArgs (top 27)) (defBody (top 27)) (defScope (top 27)) [] [] fa fd
  d_with_pair : ∃ fa fd, G.mg "with_pair" = some (.ref fa) ∧ FunD G.K "with_pair" "with_pair" (defArgs (top 28)) (defBody (top 28)) (defScope (top 28)) [] [] fa fd ∧ ∃ c P, fd.code = .ref c ∧ TabB G.base G.mg c P ∧ (P, lamName "with_pair") ∈ G.T ∧ ∀ q ∈ G.T, q.1 = P → q.2 = lamName "with_pair"
  d_all_names : ∃ fa fd, G.mg "all_names" = some (.ref fa) ∧ FunD G.K "all_names" "all_names" (defArgs (top 32)) (defBody (top 32)) (defScope (top 32)) [] [] fa fd
  d_namings_of : ∃ fa fd, G.mg "namings_of" = some (.ref fa) ∧ FunD G.K "namings_of" "namings_of" (defArgs (top 33)) (defBody (top 33)) (defScope (top 33)) [] [] fa fd
  d_first_of : ∃ fa fd, G.mg "first_of" = some (.ref fa) ∧ FunD G.K "first_of" "first_of" (defArgs (top 34)) (defBody (top 34)) (defScope (top 34)) [] [] fa fd
  d_form_of : ∃ fa fd, G.mg "form_of" = some (.ref fa) ∧ FunD G.K "form_of" "form_of" (defArgs (top 35)) (defBody (top 35)) (defScope (top 35)) [] [] fa fd
  d_are_alike : ∃ fa fd, G.mg "are_alike" = some (.ref fa) ∧ FunD G.K "are_alike" "are_alike" (defArgs (top 36)) (defBody (top 36)) (defScope (top 36)) [] [] fa fd
  d_alike_paper : ∃ fa fd, G.mg "alike_paper" = some (.ref fa) ∧ FunD G.K "alike_paper" "alike_paper" (defArgs (top 37)) (defBody (top 37)) (defScope (top 37)) [] [] fa fd
  d_are_forms : ∃ fa fd, G.mg "are_forms" = some (.ref fa) ∧ FunD G.K "are_forms" "are_forms" (defArgs (top 39)) (defBody (top 39)) (defScope (top 39)) [] [] fa fd
  d_is_alike_paper : ∃ fa fd, G.mg "is_alike_paper" = some (.ref fa) ∧ FunD G.K "is_alike_paper" "is_alike_paper" (defArgs (top 38)) (defBody (top 38)) (defScope (top 38)) [] [] fa fd
  d__law_pot : ∃ fa fd, G.mg "_law_pot" = some (.ref fa) ∧ FunD G.K "_law_pot" "_law_pot" (defArgs (top 41)) (defBody (top 41)) (defScope (top 41)) [] [] fa fd
  d__law_draw : ∃ fa fd, G.mg "_law_draw" = some (.ref fa) ∧ FunD G.K "_law_draw" "_law_draw" (defArgs (top 42)) (defBody (top 42)) (defScope (top 42)) [] [] fa fd
  d__law_pick : ∃ fa fd, G.mg "_law_pick" = some (.ref fa) ∧ FunD G.K "_law_pick" "_law_pick" (defArgs (top 43)) (defBody (top 43)) (defScope (top 43)) [] [] fa fd
  d__law_mixed : ∃ fa fd, G.mg "_law_mixed" = some (.ref fa) ∧ FunD G.K "_law_mixed" "_law_mixed" (defArgs (top 44)) (defBody (top 44)) (defScope (top 44)) [] [] fa fd
  d__law_relation : ∃ fa fd, G.mg "_law_relation" = some (.ref fa) ∧ FunD G.K "_law_relation" "_law_relation" (defArgs (top 45)) (defBody (top 45)) (defScope (top 45)) [] [] fa fd
  d__law_renamed : ∃ fa fd, G.mg "_law_renamed" = some (.ref fa) ∧ FunD G.K "_law_renamed" "_law_renamed" (defArgs (top 46)) (defBody (top 46)) (defScope (top 46)) [] [] fa fd
  d__law_all_names : ∃ fa fd, G.mg "_law_all_names" = some (.ref fa) ∧ FunD G.K "_law_all_names" "_law_all_names" (defArgs (top 47)) (defBody (top 47)) (defScope (top 47)) [] [] fa fd
  d__law_first : ∃ fa fd, G.mg "_law_first" = some (.ref fa) ∧ FunD G.K "_law_first" "_law_first" (defArgs (top 48)) (defBody (top 48)) (defScope (top 48)) [] [] fa fd
  d__law_two_right : ∃ fa fd, G.mg "_law_two_right" = some (.ref fa) ∧ FunD G.K "_law_two_right" "_law_two_right" (defArgs (top 49)) (defBody (top 49)) (defScope (top 49)) [] [] fa fd
  d__law_right : ∃ fa fd, G.mg "_law_right" = some (.ref fa) ∧ FunD G.K "_law_right" "_law_right" (defArgs (top 50)) (defBody (top 50)) (defScope (top 50)) [] [] fa fd
  d_law : ∃ fa fd, G.mg "law" = some (.ref fa) ∧ FunD G.K "law" "law" (defArgs (top 51)) (defBody (top 51)) (defScope (top 51)) [] [] fa fd
noncomputable abbrev m__law_draw : List AV → M PyData := bDraw
@[irreducible] noncomputable def m_is_integer : List AV → M PyData := fun as => match as with
  | [.d v_value] => (M.bind (bAnd (M.bind (.ok v_value) (pIsi "int")) (bNot (M.bind (.ok v_value) (pIsi "bool")))) fun d => .ok d)
  | _ => .err
@[irreducible] noncomputable def m_is_within : List AV → M PyData := fun as => match as with
  | [.d v_value, .d v_least, .d v_most] => (M.bind (bAnd (callM 1 m_is_integer (vCons (vD (.ok v_value)) vNil)) (chn pLe pLe (.ok v_least) (.ok v_value) (.ok v_most))) fun d => .ok d)
  | _ => .err
@[irreducible] noncomputable def m_is_list : List AV → M PyData := fun as => match as with
  | [.d v_value] => (M.bind (M.bind (.ok v_value) (pIsi2 "list" "tuple")) fun d => .ok d)
  | _ => .err
@[irreducible] noncomputable def m_is_tuple : List AV → M PyData := fun as => match as with
  | [.d v_value, .d v_many] => (M.bind (bAnd (M.bind (.ok v_value) (pIsi "tuple")) (bin pEq (M.bind (aCons (.ok v_value) aNil) bLen) (.ok v_many))) fun d => .ok d)
  | _ => .err
@[irreducible] noncomputable def m_are_rising : List AV → M PyData := fun as => match as with
  | [.d v_values] => (M.bind (M.bind (aCons (comp2' (M.bind (aCons (.ok v_values) (aCons (M.bind (.ok v_values) fun x => M.bind (M.bind (.ok (.int 1)) toI) fun l => M.bind (.ok none) fun h => pSlice x l h) aNil)) zipL) (fun near_1 far_2 => (.ok true)) (fun near_1 far_2 => (bin pLt (.ok near_1) (.ok far_2)))) aNil) bAll) fun d => .ok d)
  | _ => .err
@[irreducible] noncomputable def m_is_lot_of : List AV → M PyData := fun as => match as with
  | [.d v_value, .d v_many] => (M.bind (bAnd (M.bind (.ok v_value) (pIsi "tuple")) (bAnd (M.bind (aCons (comp1 (M.bind (.ok v_value) items) (fun one_1 => (.ok true)) (fun one_1 => (callM 3 m_is_within (vCons (vD (.ok one_1)) (vCons (vD (.ok (.int 0))) (vCons (vD (bin pSub (.ok v_many) (.ok (.int 1)))) vNil)))))) aNil) bAll) (callM 1 m_are_rising (vCons (vD (.ok v_value)) vNil)))) fun d => .ok d)
  | _ => .err
@[irreducible] noncomputable def m_is_relation_of : List AV → M PyData := fun as => match as with
  | [.d v_things, .d v_value] => (M.bind (bAnd (M.bind (.ok v_value) (pIsi "tuple")) (bAnd (bin pEq (M.bind (aCons (.ok v_value) aNil) bLen) (.ok v_things)) (M.bind (aCons (comp1 (M.bind (.ok v_value) items) (fun row_1 => (.ok true)) (fun row_1 => (callM 2 m_is_lot_of (vCons (vD (.ok row_1)) (vCons (vD (.ok v_things)) vNil))))) aNil) bAll))) fun d => .ok d)
  | _ => .err
@[irreducible] noncomputable def m_is_relation_value : List AV → M PyData := fun as => match as with
  | [.d v_value] => (M.bind (bAnd (M.bind (.ok v_value) (pIsi "tuple")) (bAnd (chn pLe pLe (.ok (.int 1)) (M.bind (aCons (.ok v_value) aNil) bLen) (.ok (.int 6))) (callM 2 m_is_relation_of (vCons (vD (M.bind (aCons (.ok v_value) aNil) bLen)) (vCons (vD (.ok v_value)) vNil))))) fun d => .ok d)
  | _ => .err
@[irreducible] noncomputable def m_want_relation : List AV → M PyData := fun as => match as with
  | [.d v_relation] => (M.bind (mNot (M.bind (callM 1 m_is_relation_value (vCons (vD (.ok v_relation)) vNil)) tru)) fun b => if b = true then .err else (.ok .none))
  | _ => .err
@[irreducible] noncomputable def m_want_as_many : List AV → M PyData := fun as => match as with
  | [.d v_relation, .d v_other] => (M.bind (M.bind (bin pNe (M.bind (aCons (.ok v_relation) aNil) bLen) (M.bind (aCons (.ok v_other) aNil) bLen)) tru) fun b => if b = true then .err else (.ok .none))
  | _ => .err
@[irreducible] noncomputable def m_want_two : List AV → M PyData := fun as => match as with
  | [.d v_relation, .d v_other] => (M.bind (callM 1 m_want_relation (vCons (vD (.ok v_relation)) vNil)) fun _ => (M.bind (callM 1 m_want_relation (vCons (vD (.ok v_other)) vNil)) fun _ => (M.bind (callM 2 m_want_as_many (vCons (vD (.ok v_relation)) (vCons (vD (.ok v_other)) vNil))) fun _ => (.ok .none))))
  | _ => .err
@[irreducible] noncomputable def m_want_thing : List AV → M PyData := fun as => match as with
  | [.d v_relation, .d v_thing] => (M.bind (mNot (M.bind (callM 3 m_is_within (vCons (vD (.ok v_thing)) (vCons (vD (.ok (.int 0))) (vCons (vD (bin pSub (M.bind (aCons (.ok v_relation) aNil) bLen) (.ok (.int 1)))) vNil)))) tru)) fun b => if b = true then .err else (.ok .none))
  | _ => .err
@[irreducible] noncomputable def m_by_rule : List AV → M PyData := fun as => match as with
  | [.d v_things, .c kc v_rule] => if kc ≤ 6 then (M.bind (M.bind (aCons (comp1 (M.bind (aCons (.ok v_things) aNil) rng1) (fun one_1 => (.ok true)) (fun one_1 => (M.bind (aCons (comp1 (M.bind (aCons (.ok v_things) aNil) rng1) (fun late_2 => (M.bind (M.bind (aCons (.ok one_1) (aCons (.ok late_2) aNil)) v_rule) tru)) (fun late_2 => (.ok late_2))) aNil) bTuple))) aNil) bTuple) fun d => .ok d) else .err
  | _ => .err
@[irreducible] noncomputable def m_are_names_value : List AV → M PyData := fun as => match as with
  | [.d v_things, .d v_value] => (M.bind (mOr (mNot (M.bind (callM 1 m_is_list (vCons (vD (.ok v_value)) vNil)) tru)) (mOr (M.bind (bin pNe (M.bind (aCons (.ok v_value) aNil) bLen) (.ok v_things)) tru) (mNot (M.bind (M.bind (aCons (comp1 (M.bind (.ok v_value) items) (fun one_1 => (.ok true)) (fun one_1 => (callM 3 m_is_within (vCons (vD (.ok one_1)) (vCons (vD (.ok (.int 0))) (vCons (vD (bin pSub (.ok v_things) (.ok (.int 1)))) vNil)))))) aNil) bAll) tru)))) fun b => if b = true then (M.bind (.ok (.bool false)) fun d => .ok d) else (M.bind (bin pEq (M.bind (M.bind (aCons (.ok v_value) aNil) bList) bLenSetX) (.ok v_things)) fun d => .ok d))
  | _ => .err
@[irreducible] noncomputable def m_want_names : List AV → M PyData := fun as => match as with
  | [.d v_relation, .d v_names] => (M.bind (mNot (M.bind (callM 2 m_are_names_value (vCons (vD (M.bind (aCons (.ok v_relation) aNil) bLen)) (vCons (vD (.ok v_names)) vNil))) tru)) fun b => if b = true then .err else (.ok .none))
  | _ => .err
@[irreducible] noncomputable def m_renamed_of : List AV → M PyData := fun as => match as with
  | [.d v_relation, .d v_names] => (M.bind (M.bind (M.bind (aCons (.ok v_relation) aNil) bLen) fun d => m_by_rule [.d d, .c 6 (lam2 fun one_1 late_2 => (bin pIn (bin pIdx (.ok v_names) (.ok late_2)) (bin pIdx (.ok v_relation) (bin pIdx (.ok v_names) (.ok one_1)))))]) fun d => .ok d)
  | _ => .err
@[irreducible] noncomputable def m_renamed : List AV → M PyData := fun as => match as with
  | [.d v_relation, .d v_names] => (M.bind (callM 1 m_want_relation (vCons (vD (.ok v_relation)) vNil)) fun _ => (M.bind (callM 2 m_want_names (vCons (vD (.ok v_relation)) (vCons (vD (.ok v_names)) vNil))) fun _ => (M.bind (callM 2 m_renamed_of (vCons (vD (.ok v_relation)) (vCons (vD (M.bind (aCons (.ok v_names) aNil) bList)) vNil))) fun d => .ok d)))
  | _ => .err
@[irreducible] noncomputable def m_with_pair : List AV → M PyData := fun as => match as with
  | [.d v_relation, .d v_thing, .d v_other] => (M.bind (callM 1 m_want_relation (vCons (vD (.ok v_relation)) vNil)) fun _ => (M.bind (callM 2 m_want_thing (vCons (vD (.ok v_relation)) (vCons (vD (.ok v_thing)) vNil))) fun _ => (M.bind (callM 2 m_want_thing (vCons (vD (.ok v_relation)) (vCons (vD (.ok v_other)) vNil))) fun _ => (M.bind (M.bind (M.bind (aCons (.ok v_relation) aNil) bLen) fun d => m_by_rule [.d d, .c 6 (lam2 fun one_1 late_2 => (bin pNe (bin pIn (.ok late_2) (bin pIdx (.ok v_relation) (.ok one_1))) (bin pEq (M.bind (aCons (.ok one_1) (aCons (.ok late_2) aNil)) mkTup) (M.bind (aCons (.ok v_thing) (aCons (.ok v_other) aNil)) mkTup))))]) fun d => .ok d))))
  | _ => .err
@[irreducible] noncomputable def m_all_names : List AV → M PyData := fun as => match as with
  | [.d v_things] => (M.bind (M.bind (aCons (M.bind aNil mkLst) aNil) mkLst) fun found_1 => (M.bind (M.bind (aCons (.ok v_things) aNil) rng1) fun ds => M.bind (foldL ds (found_1 : (PyData)) (fun turn_3 s_2 => (M.bind (M.bind aNil mkLst) fun d => onL d fun late_4 => (M.bind (M.bind (.ok s_2) items) fun ds => M.bind (foldL ds (late_4 : ((List PyData))) (fun names_6 s_5 => (M.bind (comp1 (M.bind (aCons (.ok v_things) aNil) rng1) (fun one_7 => (M.bind (bin pNotIn (.ok one_7) (.ok names_6)) tru)) (fun one_7 => (bin pAdd (.ok names_6) (M.bind (aCons (.ok one_7) aNil) mkLst)))) fun d => onL d fun d_8 => if (s_5).length + d_8.length ≤ sizeLine then (.ok (s_5 ++ d_8)) else .err))) fun s_5 => (M.bind (.ok (.list s_5)) fun found_9 => (.ok found_9)))))) fun s_2 => (M.bind (.ok s_2) fun d => .ok d)))
  | _ => .err
@[irreducible] noncomputable def m_namings_of : List AV → M PyData := fun as => match as with
  | [.d v_relation, .d v_other] => (M.bind (M.bind (bin pNe (M.bind (aCons (comp1 (M.bind (.ok v_relation) items) (fun row_1 => (.ok true)) (fun row_1 => (M.bind (aCons (.ok row_1) aNil) bLen))) aNil) bSorted) (M.bind (aCons (comp1 (M.bind (.ok v_other) items) (fun row_2 => (.ok true)) (fun row_2 => (M.bind (aCons (.ok row_2) aNil) bLen))) aNil) bSorted)) tru) fun b => if b = true then (M.bind (M.bind aNil mkLst) fun d => .ok d) else (M.bind (comp1 (M.bind (callM 1 m_all_names (vCons (vD (M.bind (aCons (.ok v_relation) aNil) bLen)) vNil)) items) (fun names_3 => (M.bind (bin pEq (callM 2 m_renamed_of (vCons (vD (.ok v_relation)) (vCons (vD (.ok names_3)) vNil))) (.ok v_other)) tru)) (fun names_3 => (.ok names_3))) fun d => .ok d))
  | _ => .err
@[irreducible] noncomputable def m_first_of : List AV → M PyData := fun as => match as with
  | [.d v_relation] => (M.bind (.ok .none) fun form_1 => (M.bind (.ok .none) fun told_2 => (M.bind (M.bind (callM 1 m_all_names (vCons (vD (M.bind (aCons (.ok v_relation) aNil) bLen)) vNil)) items) fun ds => M.bind (foldL ds ((form_1, told_2) : (PyData × PyData)) (fun names_4 s_3 => (M.bind (callM 2 m_renamed_of (vCons (vD (.ok v_relation)) (vCons (vD (.ok names_4)) vNil))) fun here_5 => (M.bind (M.bind (mOr (M.bind (bin qIs (.ok s_3.1) (.ok .none)) tru) (M.bind (bin pLt (.ok here_5) (.ok s_3.1)) tru)) fun b => if b = true then ((M.bind (.ok here_5) fun form_7 => (M.bind (.ok names_4) fun told_8 => (.ok (.nx (form_7, told_8))))) : M (LB (PyData × PyData) (PyData × PyData))) else (.ok (.nx (s_3.1, s_3.2)))) (thenL fun s_6 => (.ok (s_6.1, s_6.2))))))) fun s_3 => (M.bind (M.bind (aCons (.ok s_3.1) (aCons (.ok s_3.2) aNil)) mkTup) fun d => .ok d))))
  | _ => .err
@[irreducible] noncomputable def m_form_of : List AV → M PyData := fun as => match as with
  | [.d v_relation] => (M.bind (bin pIdx (callM 1 m_first_of (vCons (vD (.ok v_relation)) vNil)) (.ok (.int 0))) fun d => .ok d)
  | _ => .err
@[irreducible] noncomputable def m_are_alike : List AV → M PyData := fun as => match as with
  | [.d v_relation, .d v_other] => (M.bind (callM 2 m_want_two (vCons (vD (.ok v_relation)) (vCons (vD (.ok v_other)) vNil))) fun _ => (M.bind (bin pNe (callM 2 m_namings_of (vCons (vD (.ok v_relation)) (vCons (vD (.ok v_other)) vNil))) (M.bind aNil mkLst)) fun d => .ok d))
  | _ => .err
@[irreducible] noncomputable def m_alike_paper : List AV → M PyData := fun as => match as with
  | [.d v_relation, .d v_other] => (M.bind (callM 2 m_want_two (vCons (vD (.ok v_relation)) (vCons (vD (.ok v_other)) vNil))) fun _ => (M.bind (callM 2 m_namings_of (vCons (vD (.ok v_relation)) (vCons (vD (.ok v_other)) vNil))) fun found_1 => (M.bind (mIf (M.bind (bin pNe (.ok found_1) (M.bind aNil mkLst)) tru) (M.bind (aCons (.ok (.str "names")) (aCons (bin pIdx (.ok found_1) (.ok (.int 0))) aNil)) mkTup) (M.bind (aCons (.ok (.str "forms")) (aCons (M.bind (aCons (callM 1 m_form_of (vCons (vD (.ok v_relation)) vNil)) (aCons (callM 1 m_form_of (vCons (vD (.ok v_other)) vNil)) aNil)) mkTup) aNil)) mkTup)) fun d => .ok d)))
  | _ => .err
@[irreducible] noncomputable def m_are_forms : List AV → M PyData := fun as => match as with
  | [.d v_things, .d v_value] => (M.bind (bAnd (callM 2 m_is_tuple (vCons (vD (.ok v_value)) (vCons (vD (.ok (.int 2))) vNil))) (M.bind (aCons (comp1 (M.bind (.ok v_value) items) (fun one_1 => (.ok true)) (fun one_1 => (callM 2 m_is_relation_of (vCons (vD (.ok v_things)) (vCons (vD (.ok one_1)) vNil))))) aNil) bAll)) fun d => .ok d)
  | _ => .err
@[irreducible] noncomputable def m_is_alike_paper : List AV → M PyData := fun as => match as with
  | [.d v_relation, .d v_other, .d v_value] => (M.bind (callM 2 m_want_two (vCons (vD (.ok v_relation)) (vCons (vD (.ok v_other)) vNil))) fun _ => (M.bind (mOr (mNot (M.bind (callM 2 m_is_tuple (vCons (vD (.ok v_value)) (vCons (vD (.ok (.int 2))) vNil))) tru)) (mNot (M.bind (M.bind (bin pIdx (.ok v_value) (.ok (.int 0))) (pIsi "str")) tru))) fun b => if b = true then (M.bind (.ok (.bool false)) fun d => .ok d) else (M.bind (M.bind (bin pEq (bin pIdx (.ok v_value) (.ok (.int 0))) (.ok (.str "names"))) tru) fun b => if b = true then (M.bind (bAnd (callM 2 m_are_names_value (vCons (vD (M.bind (aCons (.ok v_relation) aNil) bLen)) (vCons (vD (bin pIdx (.ok v_value) (.ok (.int 1)))) vNil))) (bin pEq (callM 2 m_renamed_of (vCons (vD (.ok v_relation)) (vCons (vD (M.bind (aCons (bin pIdx (.ok v_value) (.ok (.int 1))) aNil) bList)) vNil))) (.ok v_other))) fun d => .ok d) else (M.bind (mOr (M.bind (bin pNe (bin pIdx (.ok v_value) (.ok (.int 0))) (.ok (.str "forms"))) tru) (mNot (M.bind (callM 2 m_are_forms (vCons (vD (M.bind (aCons (.ok v_relation) aNil) bLen)) (vCons (vD (bin pIdx (.ok v_value) (.ok (.int 1)))) vNil))) tru))) fun b => if b = true then (M.bind (.ok (.bool false)) fun d => .ok d) else (M.bind (bAnd (bin pNe (bin pIdx (bin pIdx (.ok v_value) (.ok (.int 1))) (.ok (.int 0))) (bin pIdx (bin pIdx (.ok v_value) (.ok (.int 1))) (.ok (.int 1)))) (bin pEq (bin pIdx (.ok v_value) (.ok (.int 1))) (M.bind (aCons (callM 1 m_form_of (vCons (vD (.ok v_relation)) vNil)) (aCons (callM 1 m_form_of (vCons (vD (.ok v_other)) vNil)) aNil)) mkTup))) fun d => .ok d)))))
  | _ => .err
@[irreducible] noncomputable def m__law_pot : List AV → M PyData := fun as => match as with
  | [.s v_script, .d v_k] => (M.bind (mIf (M.bind (bin pLt (.ok v_k) (.ok (.int v_script.length))) tru) (M.bind (aCons (M.bind (.ok v_k) (sIdx v_script)) aNil) bAbs) (bin pAdd (bin pMul (.ok (.int 3779)) (.ok v_k)) (.ok (.int 2731)))) fun cell_1 => (M.bind (M.bind (aCons (M.bind (aCons (.ok (.int 0)) (aCons (bin pSub (.ok cell_1) (bin pPow (.ok (.int 10)) (.ok (.int 18)))) aNil)) bMax2) (aCons (bin pAdd (bin pMod (M.bind (aCons (bin pAdd (bin pAdd (bin pMul (bin pMod (M.bind (aCons (.ok cell_1) aNil) bInt) (.ok (.int 2147483543))) (.ok (.int 46997))) (bin pMul (.ok (.int 2731)) (.ok v_k))) (.ok (.int 3779))) aNil) bInt) (.ok (.int 2147483563))) (.ok (.int 1))) aNil)) mkLst) fun d => .ok d))
  | _ => .err
@[irreducible] noncomputable def m__law_pick : List AV → M PyData := fun as => match as with
  | [.p, .d v_some] => (M.bind (bin pIdx (.ok v_some) (callM 2 m__law_draw (vCons (.ok .p) (vCons (vD (M.bind (aCons (.ok v_some) aNil) bLen)) vNil)))) fun d => .ok d)
  | _ => .err
@[irreducible] noncomputable def m__law_mixed : List AV → M PyData := fun as => match as with
  | [.p, .d v_some] => (M.bind (M.bind (M.bind (aCons (.ok v_some) aNil) bList) lsOf) fun left_1 => (M.bind (M.bind (M.bind aNil mkLst) lsOf) fun found_2 => (M.bind (whileS fuel ((left_1, found_2) : ((List PyData) × (List PyData))) (fun s_3 => (M.bind (bin pNe (.ok (.list s_3.1)) (M.bind aNil mkLst)) tru)) (fun s_3 => (M.bind (M.bind (callM 2 m__law_draw (vCons (.ok .p) (vCons (vD (M.bind (aCons (.ok (.list s_3.1)) aNil) bLen)) vNil))) flat) fun u => popK (pPopAt s_3.1 u) fun d_4 left_5 => if (s_3.2).length < sizeLine then (.ok (left_5, (s_3.2 ++ [d_4]))) else .err))) fun s_3 => (.ok (.list s_3.2)))))
  | _ => .err
@[irreducible] noncomputable def m__law_relation : List AV → M PyData := fun as => match as with
  | [.p, .d v_most] => (M.bind (bin pAdd (.ok (.int 1)) (callM 2 m__law_draw (vCons (.ok .p) (vCons (vD (.ok v_most)) vNil)))) fun things_1 => (M.bind (callM 2 m__law_draw (vCons (.ok .p) (vCons (vD (.ok (.int 6))) vNil))) fun way_2 => (M.bind (bin pAdd (.ok (.int 2)) (callM 2 m__law_draw (vCons (.ok .p) (vCons (vD (.ok (.int 3))) vNil)))) fun scarce_3 => (M.bind (comp1 (M.bind (aCons (.ok things_1) aNil) rng1) (fun one_4 => (.ok true)) (fun one_4 => (comp1 (M.bind (aCons (.ok things_1) aNil) rng1) (fun late_5 => (M.bind (bin pEq (callM 2 m__law_draw (vCons (.ok .p) (vCons (vD (.ok scarce_3)) vNil))) (.ok (.int 0))) tru)) (fun late_5 => (.ok late_5))))) fun d => onL d fun rows_6 => (M.bind (M.bind (M.bind (bin pEq (.ok way_2) (.ok (.int 1))) tru) fun b => if b = true then ((M.bind (comp1 (M.bind (aCons (.ok things_1) aNil) rng1) (fun one_8 => (.ok true)) (fun one_8 => (M.bind (aCons (callM 2 m__law_draw (vCons (.ok .p) (vCons (vD (.ok things_1)) vNil))) aNil) mkLst))) fun d => onL d fun rows_9 => (.ok (.nx (.list rows_9)))) : M (LB (PyData) PyData)) else (.ok (.nx (.list rows_6)))) (thenL fun s_7 => (M.bind (M.bind (M.bind (bin pEq (.ok way_2) (.ok (.int 2))) tru) fun b => if b = true then ((M.bind (comp1 (M.bind (.ok s_7) items) (fun row_11 => (.ok true)) (fun row_11 => (comp1 (M.bind (aCons (.ok things_1) aNil) rng1) (fun late_12 => (M.bind (bin pNotIn (.ok late_12) (.ok row_11)) tru)) (fun late_12 => (.ok late_12))))) fun d => onL d fun rows_13 => (.ok (.nx (.list rows_13)))) : M (LB (PyData) PyData)) else (.ok (.nx s_7))) (thenL fun s_10 => (M.bind (M.bind (M.bind (bin pEq (.ok way_2) (.ok (.int 3))) tru) fun b => if b = true then ((M.bind (comp1 (M.bind (aCons (.ok things_1) aNil) rng1) (fun one_15 => (.ok true)) (fun one_15 => (comp1 (M.bind (aCons (.ok things_1) aNil) rng1) (fun late_16 => (mOr (M.bind (bin pIn (.ok late_16) (bin pIdx (.ok s_10) (.ok one_15))) tru) (M.bind (bin pIn (.ok one_15) (bin pIdx (.ok s_10) (.ok late_16))) tru))) (fun late_16 => (.ok late_16))))) fun d => onL d fun rows_17 => (.ok (.nx (.list rows_17)))) : M (LB (PyData) PyData)) else (.ok (.nx s_10))) (thenL fun s_14 => (M.bind (M.bind (M.bind (bin pEq (.ok way_2) (.ok (.int 4))) tru) fun b => if b = true then ((M.bind (callM 2 m__law_draw (vCons (.ok .p) (vCons (vD (.ok things_1)) vNil))) fun step_19 => (M.bind (comp1 (M.bind (aCons (.ok things_1) aNil) rng1) (fun one_20 => (.ok true)) (fun one_20 => (M.bind (aCons (bin pMod (M.bind (aCons (bin pAdd (.ok one_20) (.ok step_19)) aNil) bInt) (.ok things_1)) aNil) mkLst))) fun d => onL d fun rows_21 => (.ok (.nx (.list rows_21))))) : M (LB (PyData) PyData)) else (.ok (.nx s_14))) (thenL fun s_18 => (M.bind (M.bind (aCons (comp1 (M.bind (.ok s_18) items) (fun row_22 => (.ok true)) (fun row_22 => (M.bind (aCons (M.bind (.ok row_22) bSetX) aNil) bTuple))) aNil) bTuple) fun d => .ok d)))))))))))))
  | _ => .err
@[irreducible] noncomputable def m__law_renamed : List AV → M PyData := fun as => match as with
  | [.d v_relation, .d v_names] => (M.bind (M.bind (aCons (comp1 (M.bind (.ok v_names) items) (fun one_1 => (.ok true)) (fun one_1 => (M.bind (aCons (M.bind (aCons (comp1 (M.bind (bin pIdx (.ok v_relation) (.ok one_1)) items) (fun late_2 => (.ok true)) (fun late_2 => (bin pIndex (.ok v_names) (.ok late_2)))) aNil) bSorted) aNil) bTuple))) aNil) bTuple) fun d => .ok d)
  | _ => .err
@[irreducible] noncomputable def m__law_all_names : List AV → M PyData := fun as => match as with
  | [.d v_things] => (M.bind (M.bind (aCons (M.bind aNil mkLst) aNil) mkLst) fun found_1 => (M.bind (M.bind (aCons (.ok v_things) aNil) rng1) fun ds => M.bind (foldL ds (found_1 : (PyData)) (fun turn_3 s_2 => (M.bind (M.bind aNil mkLst) fun d => onL d fun longer_4 => (M.bind (M.bind (.ok s_2) items) fun ds => M.bind (foldL ds (longer_4 : ((List PyData))) (fun names_6 s_5 => (M.bind (comp1 (M.bind (aCons (.ok v_things) aNil) rng1) (fun one_7 => (M.bind (bin pNotIn (.ok one_7) (.ok names_6)) tru)) (fun one_7 => (bin pAdd (.ok names_6) (M.bind (aCons (.ok one_7) aNil) mkLst)))) fun d => onL d fun d_8 => if (s_5).length + d_8.length ≤ sizeLine then (.ok (s_5 ++ d_8)) else .err))) fun s_5 => (M.bind (.ok (.list s_5)) fun found_9 => (.ok found_9)))))) fun s_2 => (M.bind (.ok s_2) fun d => .ok d)))
  | _ => .err
@[irreducible] noncomputable def m__law_first : List AV → M PyData := fun as => match as with
  | [.d v_relation] => (M.bind (M.bind (aCons (comp1 (M.bind (callM 1 m__law_all_names (vCons (vD (M.bind (aCons (.ok v_relation) aNil) bLen)) vNil)) items) (fun names_1 => (.ok true)) (fun names_1 => (callM 2 m__law_renamed (vCons (vD (.ok v_relation)) (vCons (vD (.ok names_1)) vNil))))) aNil) bMinA) fun d => .ok d)
  | _ => .err
@[irreducible] noncomputable def m__law_two_right : List AV → M PyData := fun as => match as with
  | [.p, .d v_relation, .d v_other] => (M.bind (M.bind (aCons (M.bind (aCons (.ok v_relation) (aCons (.ok v_other) aNil)) mkLst) aNil) bRepr) fun shown_1 => (M.bind (M.bind (M.bind aNil mkLst) lsOf) fun words_2 => (M.bind (M.bind (aCons (.ok v_relation) aNil) bLen) fun things_3 => (M.bind (comp1 (M.bind (callM 1 m__law_all_names (vCons (vD (.ok things_3)) vNil)) items) (fun names_4 => (M.bind (bin pEq (callM 2 m__law_renamed (vCons (vD (.ok v_relation)) (vCons (vD (.ok names_4)) vNil))) (.ok v_other)) tru)) (fun names_4 => (.ok names_4))) fun d => onL d fun some_5 => (M.bind (callM 1 m__law_first (vCons (vD (.ok v_relation)) vNil)) fun near_6 => (M.bind (callM 1 m__law_first (vCons (vD (.ok v_other)) vNil)) fun far_7 => (M.bind (mIf (M.bind (bin pNe (.ok (.list some_5)) (M.bind aNil mkLst)) tru) (M.bind (aCons (.ok (.str "names")) (aCons (bin pIdx (.ok (.list some_5)) (.ok (.int 0))) aNil)) mkTup) (M.bind (aCons (.ok (.str "forms")) (aCons (M.bind (aCons (.ok near_6) (aCons (.ok far_7) aNil)) mkTup) aNil)) mkTup)) fun due_8 => (M.bind (callM 2 m_alike_paper (vCons (vD (.ok v_relation)) (vCons (vD (.ok v_other)) vNil))) fun told_9 => (M.bind (mOr (M.bind (bin pNe (M.bind (aCons (M.bind (aCons (.ok told_9) (aCons (callKM 2 [1, 0] 2 m_alike_paper (vCons (vD (.ok v_other)) (vCons (vD (.ok v_relation)) vNil))) aNil)) mkLst) aNil) bRepr) (M.bind (aCons (M.bind (aCons (.ok due_8) (aCons (.ok due_8) aNil)) mkLst) aNil) bRepr)) tru) (mOr (M.bind (bin qIsNot (callM 3 m_is_alike_paper (vCons (vD (.ok v_relation)) (vCons (vD (.ok v_other)) (vCons (vD (.ok told_9)) vNil)))) (.ok (.bool true))) tru) (M.bind (bin pNe (callM 2 m_are_alike (vCons (vD (.ok v_relation)) (vCons (vD (.ok v_other)) vNil))) (bin pNe (.ok (.list some_5)) (M.bind aNil mkLst))) tru))) fun b => if b = true then (M.bind (.ok (.bool false)) fun d => .ok d) else (M.bind (M.bind (aCons (.ok (.int 5)) aNil) rng1) fun ds => M.bind (forL (ρ := PyData) ds (words_2 : ((List PyData))) (fun turn_11 s_10 => (M.bind (callM 2 m__law_pick (vCons (.ok .p) (vCons (vD (M.bind (aCons (callM 2 m__law_mixed (vCons (.ok .p) (vCons (vD (M.bind (.ok things_3) bRg1)) vNil))) (aCons (mIf (M.bind (bin pNe (.ok (.list some_5)) (M.bind aNil mkLst)) tru) (bin pIdx (.ok (.list some_5)) (.ok (.int 0))) (M.bind (.ok things_3) bRg1)) aNil)) mkLst)) vNil))) fun names_12 => (M.bind (bin pEq (callM 2 m__law_renamed (vCons (vD (.ok v_relation)) (vCons (vD (.ok names_12)) vNil))) (.ok v_other)) fun so_13 => (M.bind (M.bind (bin pNe (M.bind (aCons (M.bind (aCons (callM 3 m_is_alike_paper (vCons (vD (.ok v_relation)) (vCons (vD (.ok v_other)) (vCons (vD (M.bind (aCons (.ok (.str "names")) (aCons (M.bind (aCons (.ok names_12) aNil) bList) aNil)) mkTup)) vNil)))) (aCons (callKM 3 [2, 1, 0] 3 m_is_alike_paper (vCons (vD (M.bind (aCons (.ok (.str "names")) (aCons (M.bind (aCons (.ok names_12) aNil) bTuple) aNil)) mkTup)) (vCons (vD (.ok v_other)) (vCons (vD (.ok v_relation)) vNil)))) aNil)) mkLst) aNil) bRepr) (M.bind (aCons (M.bind (aCons (.ok so_13) (aCons (.ok so_13) aNil)) mkLst) aNil) bRepr)) tru) fun b => if b = true then (M.bind (.ok (.bool false)) fun d => .ok (.rt d)) else (M.bind (mIf (M.bind (.ok so_13) tru) (M.bind (aCons (.ok (.str "names")) aNil) mkLst) (M.bind aNil mkLst)) fun d => onL d fun d_14 => if (s_10).length + d_14.length ≤ sizeLine then (.ok (.nx (s_10 ++ d_14))) else .err)))))) (thenL fun s_10 => (M.bind (M.bind (M.bind (aCons (M.bind (aCons (.ok near_6) (aCons (.ok far_7) aNil)) mkTup) (aCons (M.bind (aCons (.ok far_7) (aCons (.ok near_6) aNil)) mkTup) (aCons (M.bind (aCons (.ok v_relation) (aCons (.ok v_other) aNil)) mkTup) (aCons (M.bind (aCons (.ok near_6) (aCons (.ok near_6) aNil)) mkTup) (aCons (M.bind (aCons (.ok near_6) (aCons (.ok v_relation) aNil)) mkTup) aNil))))) mkLst) items) fun ds => M.bind (forL (ρ := PyData) ds (s_10 : ((List PyData))) (fun forms_16 s_15 => (M.bind (bAnd (bin pEq (.ok forms_16) (M.bind (aCons (.ok near_6) (aCons (.ok far_7) aNil)) mkTup)) (bin pNe (.ok near_6) (.ok far_7))) fun so_17 => (M.bind (M.bind (bin pNe (M.bind (aCons (M.bind (aCons (callM 3 m_is_alike_paper (vCons (vD (.ok v_relation)) (vCons (vD (.ok v_other)) (vCons (vD (M.bind (aCons (.ok (.str "forms")) (aCons (.ok forms_16) aNil)) mkTup)) vNil)))) (aCons (callKM 3 [2, 1, 0] 3 m_is_alike_paper (vCons (vD (M.bind (aCons (.ok (.str "forms")) (aCons (.ok forms_16) aNil)) mkTup)) (vCons (vD (.ok v_other)) (vCons (vD (.ok v_relation)) vNil)))) aNil)) mkLst) aNil) bRepr) (M.bind (aCons (M.bind (aCons (.ok so_17) (aCons (.ok so_17) aNil)) mkLst) aNil) bRepr)) tru) fun b => if b = true then (M.bind (.ok (.bool false)) fun d => .ok (.rt d)) else (M.bind (mIf (M.bind (.ok so_17) tru) (M.bind (aCons (.ok (.str "forms")) aNil) mkLst) (M.bind aNil mkLst)) fun d => onL d fun d_18 => if (s_15).length + d_18.length ≤ sizeLine then (.ok (.nx (s_15 ++ d_18))) else .err))))) (thenL fun s_15 => (M.bind (M.bind (bin pNe (comp1 (M.bind (.ok (.list s_15)) items) (fun word_19 => (M.bind (bin pNe (.ok word_19) (bin pIdx (.ok told_9) (.ok (.int 0)))) tru)) (fun word_19 => (.ok word_19))) (M.bind aNil mkLst)) tru) fun b => if b = true then (M.bind (.ok (.bool false)) fun d => .ok d) else (M.bind (callM 2 m_alike_paper (vCons (vD (.ok v_other)) (vCons (vD (.ok v_relation)) vNil))) fun back_20 => (M.bind (mOr (M.bind (bin pNe (bin pIdx (.ok back_20) (.ok (.int 0))) (bin pIdx (.ok told_9) (.ok (.int 0)))) tru) (mAnd (M.bind (bin pEq (bin pIdx (.ok told_9) (.ok (.int 0))) (.ok (.str "forms"))) tru) (M.bind (bin pNe (bin pIdx (.ok back_20) (.ok (.int 1))) (M.bind (aCons (.ok far_7) (aCons (.ok near_6) aNil)) mkTup)) tru))) fun b => if b = true then (M.bind (.ok (.bool false)) fun d => .ok d) else (M.bind (bin pEq (M.bind (aCons (M.bind (aCons (.ok v_relation) (aCons (.ok v_other) aNil)) mkLst) aNil) bRepr) (.ok shown_1)) fun d => .ok d)))))))))))))))))
  | _ => .err
@[irreducible] noncomputable def m__law_right : List AV → M PyData := fun as => match as with
  | [.p] => (M.bind (callM 2 m__law_relation (vCons (.ok .p) (vCons (vD (.ok (.int 5))) vNil))) fun relation_1 => (M.bind (callM 2 m__law_mixed (vCons (.ok .p) (vCons (vD (M.bind (M.bind (aCons (.ok relation_1) aNil) bLen) bRg1)) vNil))) fun names_2 => (M.bind (callM 2 m_renamed (vCons (vD (.ok relation_1)) (vCons (vD (M.bind (aCons (.ok names_2) aNil) bList)) vNil))) fun late_3 => (M.bind (mNot (M.bind (callM 3 m__law_two_right (vCons (.ok .p) (vCons (vD (.ok relation_1)) (vCons (vD (.ok late_3)) vNil)))) tru)) fun b => if b = true then (M.bind (.ok (.bool false)) fun d => .ok d) else (M.bind (callM 3 m_with_pair (vCons (vD (.ok late_3)) (vCons (vD (callM 2 m__law_draw (vCons (.ok .p) (vCons (vD (M.bind (aCons (.ok relation_1) aNil) bLen)) vNil)))) (vCons (vD (callM 2 m__law_draw (vCons (.ok .p) (vCons (vD (M.bind (aCons (.ok relation_1) aNil) bLen)) vNil)))) vNil)))) fun other_4 => (M.bind (mOr (mNot (M.bind (callM 3 m__law_two_right (vCons (.ok .p) (vCons (vD (.ok relation_1)) (vCons (vD (.ok other_4)) vNil)))) tru)) (M.bind (bin pNe (bin pIdx (callM 2 m_alike_paper (vCons (vD (.ok relation_1)) (vCons (vD (.ok other_4)) vNil))) (.ok (.int 0))) (.ok (.str "forms"))) tru)) fun b => if b = true then (M.bind (.ok (.bool false)) fun d => .ok d) else (M.bind (callM 3 m_with_pair (vCons (vD (.ok other_4)) (vCons (vD (callM 2 m__law_draw (vCons (.ok .p) (vCons (vD (M.bind (aCons (.ok relation_1) aNil) bLen)) vNil)))) (vCons (vD (callM 2 m__law_draw (vCons (.ok .p) (vCons (vD (M.bind (aCons (.ok relation_1) aNil) bLen)) vNil)))) vNil)))) fun third_5 => (M.bind (callM 3 m__law_two_right (vCons (.ok .p) (vCons (vD (.ok relation_1)) (vCons (vD (.ok third_5)) vNil)))) fun d => .ok d))))))))
  | _ => .err
@[irreducible] noncomputable def m_law : List AV → M PyData := fun as => match as with
  | [.s v_script] => (M.bind (M.bind (aCons (comp1 (M.bind (aCons (M.bind (aCons (.ok (.int 1)) (aCons (M.bind (aCons (.ok (.int 2)) (aCons (.ok (.int v_script.length)) aNil)) bMin2) aNil)) bMax2) aNil) rng1) (fun k_1 => (.ok true)) (fun k_1 => (M.bind (callM 2 m__law_pot (vCons (.ok (.s v_script)) (vCons (vD (.ok k_1)) vNil))) fun d => onL d fun ds => M.bind vNil fun as => if potOk ds = true ∧ as.length + 1 = 1 then m__law_right (.p :: as) else .err))) aNil) bAll) fun d => .ok d)
  | _ => .err
theorem ok__law_draw {G : Glb} (h : GOk G) : FnD G 1 "_law_draw" (top 42) ["pot", "many"] (spF G 2 bDraw) := by
  obtain ⟨fa, fd, hm, FD⟩ := h.d__law_draw
  exact draw_ok FD hm (C8.fnScope_by (by decide +kernel)) ⟨by decide, by decide, by decide, by decide⟩ rfl rfl rfl rfl rfl h.f_divmod h.f_int rfl rfl rfl
theorem ok_is_integer {G : Glb} (h : GOk G) : FnD G 1 "is_integer" (top 1) ["value"] (spF G 1 m_is_integer) := by
  obtain ⟨fa, fd, hm, FD⟩ := h.d_is_integer
  refine fn_ok (N := ["value"]) FD hm (C8.fnScope_by (by decide +kernel)) fun as hl => ?_
  clear hl
  unfold m_is_integer
  split
  · rename_i v_value
    exact (es_ret (ev_and (ev_isi (T := "int") (ev_var 0) h.f_isinstance h.f_int bo_int bo_isinstance) (ev_one (ev_not (ev_isi (T := "bool") (ev_var 0) h.f_isinstance h.f_bool bo_bool bo_isinstance)))))
  · exact es_err

theorem ok_is_within {G : Glb} (h : GOk G) : FnD G 2 "is_within" (top 2) ["value", "least", "most"] (spF G 3 m_is_within) := by
  obtain ⟨fa, fd, hm, FD⟩ := h.d_is_within
  refine fn_ok (N := ["value", "least", "most"]) FD hm (C8.fnScope_by (by decide +kernel)) fun as hl => ?_
  clear hl
  unfold m_is_within
  split
  · rename_i v_value v_least v_most
    exact (es_ret (ev_and (ev_call (ok_is_integer h) (fun _ _ _ _ _ _ us hl => match us, hl with | [_], _ => rfl) (eas_cons (e1_d (ev_var 0)) eas_nil)) (ev_one (ev_chain od_le od_le (ev_var 1) (ev_var 0) (ev_var 2)))))
  · exact es_err

theorem ok_is_list {G : Glb} (h : GOk G) : FnD G 1 "is_list" (top 3) ["value"] (spF G 1 m_is_list) := by
  obtain ⟨fa, fd, hm, FD⟩ := h.d_is_list
  refine fn_ok (N := ["value"]) FD hm (C8.fnScope_by (by decide +kernel)) fun as hl => ?_
  clear hl
  unfold m_is_list
  split
  · rename_i v_value
    exact (es_ret (ev_isi2 (T := "list") (U := "tuple") (ev_var 0) h.f_isinstance h.f_list h.f_tuple bo_list bo_tuple bo_isinstance))
  · exact es_err

theorem ok_is_tuple {G : Glb} (h : GOk G) : FnD G 1 "is_tuple" (top 4) ["value", "many"] (spF G 2 m_is_tuple) := by
  obtain ⟨fa, fd, hm, FD⟩ := h.d_is_tuple
  refine fn_ok (N := ["value", "many"]) FD hm (C8.fnScope_by (by decide +kernel)) fun as hl => ?_
  clear hl
  unfold m_is_tuple
  split
  · rename_i v_value v_many
    exact (es_ret (ev_and (ev_isi (T := "tuple") (ev_var 0) h.f_isinstance h.f_tuple bo_tuple bo_isinstance) (ev_one (ev_cmp od_eq (ev_callB cd_len (ea_cons (ev_var 0) ea_nil) h.f_len bo_len) (ev_var 1)))))
  · exact es_err

theorem ok_are_rising {G : Glb} (h : GOk G) : FnD G 1 "are_rising" (top 5) ["values"] (spF G 1 m_are_rising) := by
  obtain ⟨fa, fd, hm, FD⟩ := h.d_are_rising
  refine fn_ok (N := ["values", "near", "far"]) FD hm (C8.fnScope_by (by decide +kernel)) fun as hl => ?_
  clear hl
  unfold m_are_rising
  split
  · rename_i v_values
    exact (es_ret (ev_callB cd_all (ea_cons ((el_lc (ec_lc2 1 2 (ei_zip (ea_cons (ev_var 0) (ea_cons (ev_slice (ev_var 0) (eo_some ev_int) eo_none) ea_nil)) h.f_zip) (by decide +kernel) (hc := fun near_1 far_2 => ets_nil) (he := fun near_1 far_2 => (ev_cmp od_lt (ev_var 1) (ev_var 2)))))).toE ea_nil) h.f_all bo_all))
  · exact es_err

theorem ok_is_lot_of {G : Glb} (h : GOk G) : FnD G 3 "is_lot_of" (top 6) ["value", "many"] (spF G 2 m_is_lot_of) := by
  obtain ⟨fa, fd, hm, FD⟩ := h.d_is_lot_of
  refine fn_ok (N := ["value", "many", "one"]) FD hm (C8.fnScope_by (by decide +kernel)) fun as hl => ?_
  clear hl
  unfold m_is_lot_of
  split
  · rename_i v_value v_many
    exact (es_ret (ev_and (ev_isi (T := "tuple") (ev_var 0) h.f_isinstance h.f_tuple bo_tuple bo_isinstance) (ev_and (ev_callB cd_all (ea_cons ((el_lc (ec_lc1 2 (ei_val (ev_var 0)) (by decide +kernel) (hc := fun one_1 => ets_nil) (he := fun one_1 => (ev_call (ok_is_within h) (fun _ _ _ _ _ _ us hl => match us, hl with | [_, _, _], _ => rfl) (eas_cons (e1_d (ev_var 2)) (eas_cons (e1_d ev_int) (eas_cons (e1_d (ev_bin od_sub (ev_var 1) ev_int)) eas_nil)))))))).toE ea_nil) h.f_all bo_all) (ev_one (ev_call (ok_are_rising h) (fun _ _ _ _ _ _ us hl => match us, hl with | [_], _ => rfl) (eas_cons (e1_d (ev_var 0)) eas_nil))))))
  · exact es_err

theorem ok_is_relation_of {G : Glb} (h : GOk G) : FnD G 4 "is_relation_of" (top 16) ["things", "value"] (spF G 2 m_is_relation_of) := by
  obtain ⟨fa, fd, hm, FD⟩ := h.d_is_relation_of
  refine fn_ok (N := ["things", "value", "row"]) FD hm (C8.fnScope_by (by decide +kernel)) fun as hl => ?_
  clear hl
  unfold m_is_relation_of
  split
  · rename_i v_things v_value
    exact (es_ret (ev_and (ev_isi (T := "tuple") (ev_var 1) h.f_isinstance h.f_tuple bo_tuple bo_isinstance) (ev_and (ev_cmp od_eq (ev_callB cd_len (ea_cons (ev_var 1) ea_nil) h.f_len bo_len) (ev_var 0)) (ev_one (ev_callB cd_all (ea_cons ((el_lc (ec_lc1 2 (ei_val (ev_var 1)) (by decide +kernel) (hc := fun row_1 => ets_nil) (he := fun row_1 => (ev_call (ok_is_lot_of h) (fun _ _ _ _ _ _ us hl => match us, hl with | [_, _], _ => rfl) (eas_cons (e1_d (ev_var 2)) (eas_cons (e1_d (ev_var 0)) eas_nil))))))).toE ea_nil) h.f_all bo_all)))))
  · exact es_err

theorem ok_is_relation_value {G : Glb} (h : GOk G) : FnD G 5 "is_relation_value" (top 17) ["value"] (spF G 1 m_is_relation_value) := by
  obtain ⟨fa, fd, hm, FD⟩ := h.d_is_relation_value
  refine fn_ok (N := ["value"]) FD hm (C8.fnScope_by (by decide +kernel)) fun as hl => ?_
  clear hl
  unfold m_is_relation_value
  split
  · rename_i v_value
    exact (es_ret (ev_and (ev_isi (T := "tuple") (ev_var 0) h.f_isinstance h.f_tuple bo_tuple bo_isinstance) (ev_and (ev_chain od_le od_le ev_int (ev_callB cd_len (ea_cons (ev_var 0) ea_nil) h.f_len bo_len) (ev_globE h.c_MOST_THINGS)) (ev_one (ev_call (ok_is_relation_of h) (fun _ _ _ _ _ _ us hl => match us, hl with | [_, _], _ => rfl) (eas_cons (e1_d (ev_callB cd_len (ea_cons (ev_var 0) ea_nil) h.f_len bo_len)) (eas_cons (e1_d (ev_var 0)) eas_nil)))))))
  · exact es_err

theorem ok_want_relation {G : Glb} (h : GOk G) : FnD G 6 "want_relation" (top 18) ["relation"] (spF G 1 m_want_relation) := by
  obtain ⟨fa, fd, hm, FD⟩ := h.d_want_relation
  refine fn_ok (N := ["relation"]) FD hm (C8.fnScope_by (by decide +kernel)) fun as hl => ?_
  clear hl
  unfold m_want_relation
  split
  · rename_i v_relation
    exact (es_ifR (et_not (ev_test (ev_call (ok_is_relation_value h) (fun _ _ _ _ _ _ us hl => match us, hl with | [_], _ => rfl) (eas_cons (e1_d (ev_var 0)) eas_nil)))) es_err (es_fn rfl))
  · exact es_err

theorem ok_want_as_many {G : Glb} (h : GOk G) : FnD G 1 "want_as_many" (top 20) ["relation", "other"] (spF G 2 m_want_as_many) := by
  obtain ⟨fa, fd, hm, FD⟩ := h.d_want_as_many
  refine fn_ok (N := ["relation", "other"]) FD hm (C8.fnScope_by (by decide +kernel)) fun as hl => ?_
  clear hl
  unfold m_want_as_many
  split
  · rename_i v_relation v_other
    exact (es_ifR (et_cmp od_ne (ev_callB cd_len (ea_cons (ev_var 0) ea_nil) h.f_len bo_len) (ev_callB cd_len (ea_cons (ev_var 1) ea_nil) h.f_len bo_len)) es_err (es_fn rfl))
  · exact es_err

theorem ok_want_two {G : Glb} (h : GOk G) : FnD G 7 "want_two" (top 19) ["relation", "other"] (spF G 2 m_want_two) := by
  obtain ⟨fa, fd, hm, FD⟩ := h.d_want_two
  refine fn_ok (N := ["relation", "other"]) FD hm (C8.fnScope_by (by decide +kernel)) fun as hl => ?_
  clear hl
  unfold m_want_two
  split
  · rename_i v_relation v_other
    exact (es_expr (ev_call (ok_want_relation h) (fun _ _ _ _ _ _ us hl => match us, hl with | [_], _ => rfl) (eas_cons (e1_d (ev_var 0)) eas_nil)) (es_expr (ev_call (ok_want_relation h) (fun _ _ _ _ _ _ us hl => match us, hl with | [_], _ => rfl) (eas_cons (e1_d (ev_var 1)) eas_nil)) (es_expr (ev_call (ok_want_as_many h) (fun _ _ _ _ _ _ us hl => match us, hl with | [_, _], _ => rfl) (eas_cons (e1_d (ev_var 0)) (eas_cons (e1_d (ev_var 1)) eas_nil))) (es_fn rfl))))
  · exact es_err

theorem ok_want_thing {G : Glb} (h : GOk G) : FnD G 3 "want_thing" (top 21) ["relation", "thing"] (spF G 2 m_want_thing) := by
  obtain ⟨fa, fd, hm, FD⟩ := h.d_want_thing
  refine fn_ok (N := ["relation", "thing"]) FD hm (C8.fnScope_by (by decide +kernel)) fun as hl => ?_
  clear hl
  unfold m_want_thing
  split
  · rename_i v_relation v_thing
    exact (es_ifR (et_not (ev_test (ev_call (ok_is_within h) (fun _ _ _ _ _ _ us hl => match us, hl with | [_, _, _], _ => rfl) (eas_cons (e1_d (ev_var 1)) (eas_cons (e1_d ev_int) (eas_cons (e1_d (ev_bin od_sub (ev_callB cd_len (ea_cons (ev_var 0) ea_nil) h.f_len bo_len) ev_int)) eas_nil)))))) es_err (es_fn rfl))
  · exact es_err

theorem ok_by_rule {G : Glb} (h : GOk G) : FnD G 7 "by_rule" (top 22) ["things", "rule"] (spF G 2 m_by_rule) := by
  obtain ⟨fa, fd, hm, FD⟩ := h.d_by_rule
  refine fn_ok (N := ["things", "rule", "one", "late"]) FD hm (C8.fnScope_by (by decide +kernel)) fun as hl => ?_
  clear hl
  unfold m_by_rule
  split
  · rename_i v_things kc v_rule
    split
    · rename_i hkc
      exact (es_ret (ev_callTy cd_tuple (ea_cons ((el_lc (ec_lc1 2 (ei_rng1 (ea_cons (ev_var 0) ea_nil) h.f_range) (by decide +kernel) (hc := fun one_1 => ets_nil) (he := fun one_1 => (ev_callTy cd_tuple (ea_cons ((el_lc (ec_lc1 3 (ei_rng1 (ea_cons (ev_var 0) ea_nil) h.f_range) (by decide +kernel) (hc := fun late_2 => (ets_one (ev_test (ev_callC 1 (ea_cons (ev_var 2) (ea_cons (ev_var 3) ea_nil)) (hk := hkc))))) (he := fun late_2 => (ev_var 3))))).toE ea_nil) h.f_tuple bo_tuple))))).toE ea_nil) h.f_tuple bo_tuple))
    · exact es_err
  · exact es_err

theorem ok_are_names_value {G : Glb} (h : GOk G) : FnD G 3 "are_names_value" (top 24) ["things", "value"] (spF G 2 m_are_names_value) := by
  obtain ⟨fa, fd, hm, FD⟩ := h.d_are_names_value
  refine fn_ok (N := ["things", "value", "one"]) FD hm (C8.fnScope_by (by decide +kernel)) fun as hl => ?_
  clear hl
  unfold m_are_names_value
  split
  · rename_i v_things v_value
    exact (es_ifR (et_w (ew_or (et_not (ev_test (ev_call (ok_is_list h) (fun _ _ _ _ _ _ us hl => match us, hl with | [_], _ => rfl) (eas_cons (e1_d (ev_var 1)) eas_nil)))) (ew_or (et_cmp od_ne (ev_callB cd_len (ea_cons (ev_var 1) ea_nil) h.f_len bo_len) (ev_var 0)) (ew_or1 (et_not (ev_test (ev_callB cd_all (ea_cons ((el_lc (ec_lc1 2 (ei_val (ev_var 1)) (by decide +kernel) (hc := fun one_1 => ets_nil) (he := fun one_1 => (ev_call (ok_is_within h) (fun _ _ _ _ _ _ us hl => match us, hl with | [_, _, _], _ => rfl) (eas_cons (e1_d (ev_var 2)) (eas_cons (e1_d ev_int) (eas_cons (e1_d (ev_bin od_sub (ev_var 0) ev_int)) eas_nil)))))))).toE ea_nil) h.f_all bo_all))))))) (es_ret ev_bl) (es_ret (ev_cmp od_eq (ev_lenSetX ((el_list (ea_cons (ev_var 1) ea_nil) h.f_list bo_list)).toE h.f_len h.f_set) (ev_var 0))))
  · exact es_err

theorem ok_want_names {G : Glb} (h : GOk G) : FnD G 4 "want_names" (top 25) ["relation", "names"] (spF G 2 m_want_names) := by
  obtain ⟨fa, fd, hm, FD⟩ := h.d_want_names
  refine fn_ok (N := ["relation", "names"]) FD hm (C8.fnScope_by (by decide +kernel)) fun as hl => ?_
  clear hl
  unfold m_want_names
  split
  · rename_i v_relation v_names
    exact (es_ifR (et_not (ev_test (ev_call (ok_are_names_value h) (fun _ _ _ _ _ _ us hl => match us, hl with | [_, _], _ => rfl) (eas_cons (e1_d (ev_callB cd_len (ea_cons (ev_var 0) ea_nil) h.f_len bo_len)) (eas_cons (e1_d (ev_var 1)) eas_nil))))) es_err (es_fn rfl))
  · exact es_err

theorem ok_renamed_of {G : Glb} (h : GOk G) : FnD G 8 "renamed_of" (top 26) ["relation", "names"] (spF G 2 m_renamed_of) := by
  obtain ⟨fa, fd, hm, FD, c, P, hc, hB, hin, huq⟩ := h.d_renamed_of
  refine fn_okM (N := ["relation", "names", "one", "late"]) (me := some (c, P, ("renamed_of" : Str) ++ ".<locals>.")) FD hm (C8.fnScope_by (by decide +kernel)) (fun _ _ _ e => by cases e; exact ⟨hc, rfl⟩) fun as hl => ?_
  clear hl
  unfold m_renamed_of
  split
  · rename_i v_relation v_names
    exact (es_ret (ev_callLam2 (k0 := 5) 2 3 (ok_by_rule h) (fun _ _ _ _ _ _ us hl => match us, hl with | [_, _], _ => rfl) (ev_callB cd_len (ea_cons (ev_var 0) ea_nil) h.f_len bo_len) rfl hB hin huq (lamN_by (by decide +kernel)) (fun one_1 late_2 => (ev_cmp od_in (ev_idx (ev_var 1) (ev_var 3)) (ev_idx (ev_var 0) (ev_idx (ev_var 1) (ev_var 2))))) (fun _ _ _ _ _ us hl => match us, hl with | [_, _], _ => rfl)))
  · exact es_err

theorem ok_renamed {G : Glb} (h : GOk G) : FnD G 9 "renamed" (top 27) ["relation", "names"] (spF G 2 m_renamed) := by
  obtain ⟨fa, fd, hm, FD⟩ := h.d_renamed
  refine fn_ok (N := ["relation", "names"]) FD hm (C8.fnScope_by (by decide +kernel)) fun as hl => ?_
  clear hl
  unfold m_renamed
  split
  · rename_i v_relation v_names
    exact (es_expr (ev_call (ok_want_relation h) (fun _ _ _ _ _ _ us hl => match us, hl with | [_], _ => rfl) (eas_cons (e1_d (ev_var 0)) eas_nil)) (es_expr (ev_call (ok_want_names h) (fun _ _ _ _ _ _ us hl => match us, hl with | [_, _], _ => rfl) (eas_cons (e1_d (ev_var 0)) (eas_cons (e1_d (ev_var 1)) eas_nil))) (es_ret (ev_call (ok_renamed_of h) (fun _ _ _ _ _ _ us hl => match us, hl with | [_, _], _ => rfl) (eas_cons (e1_d (ev_var 0)) (eas_cons (e1_d ((el_list (ea_cons (ev_var 1) ea_nil) h.f_list bo_list)).toE) eas_nil))))))
  · exact es_err

theorem ok_with_pair {G : Glb} (h : GOk G) : FnD G 8 "with_pair" (top 28) ["relation", "thing", "other"] (spF G 3 m_with_pair) := by
  obtain ⟨fa, fd, hm, FD, c, P, hc, hB, hin, huq⟩ := h.d_with_pair
  refine fn_okM (N := ["relation", "thing", "other", "one", "late"]) (me := some (c, P, ("with_pair" : Str) ++ ".<locals>.")) FD hm (C8.fnScope_by (by decide +kernel)) (fun _ _ _ e => by cases e; exact ⟨hc, rfl⟩) fun as hl => ?_
  clear hl
  unfold m_with_pair
  split
  · rename_i v_relation v_thing v_other
    exact (es_expr (ev_call (ok_want_relation h) (fun _ _ _ _ _ _ us hl => match us, hl with | [_], _ => rfl) (eas_cons (e1_d (ev_var 0)) eas_nil)) (es_expr (ev_call (ok_want_thing h) (fun _ _ _ _ _ _ us hl => match us, hl with | [_, _], _ => rfl) (eas_cons (e1_d (ev_var 0)) (eas_cons (e1_d (ev_var 1)) eas_nil))) (es_expr (ev_call (ok_want_thing h) (fun _ _ _ _ _ _ us hl => match us, hl with | [_, _], _ => rfl) (eas_cons (e1_d (ev_var 0)) (eas_cons (e1_d (ev_var 2)) eas_nil))) (es_ret (ev_callLam2 (k0 := 5) 3 4 (ok_by_rule h) (fun _ _ _ _ _ _ us hl => match us, hl with | [_, _], _ => rfl) (ev_callB cd_len (ea_cons (ev_var 0) ea_nil) h.f_len bo_len) rfl hB hin huq (lamN_by (by decide +kernel)) (fun one_1 late_2 => (ev_cmp od_ne (ev_cmp od_in (ev_var 4) (ev_idx (ev_var 0) (ev_var 3))) (ev_cmp od_eq (ev_tup (ea_cons (ev_var 3) (ea_cons (ev_var 4) ea_nil))) (ev_tup (ea_cons (ev_var 1) (ea_cons (ev_var 2) ea_nil)))))) (fun _ _ _ _ _ us hl => match us, hl with | [_, _], _ => rfl))))))
  · exact es_err

theorem ok_all_names {G : Glb} (h : GOk G) : FnD G 1 "all_names" (top 32) ["things"] (spF G 1 m_all_names) := by
  obtain ⟨fa, fd, hm, FD⟩ := h.d_all_names
  refine fn_ok (N := ["things", "found", "turn", "late", "names", "one"]) FD hm (C8.fnScope_by (by decide +kernel)) fun as hl => ?_
  clear hl
  unfold m_all_names
  split
  · rename_i v_things
    exact (es_set 1 ((el_lst (ea_cons ((el_lst ea_nil)).toE ea_nil))).toE (fun found_1 => (es_fold1 2 (found_1 : (PyData)) (fun s_2 => [dS v_things, dS s_2, .un, .un, .un, .un]) (ei_rng1 (ea_cons (ev_var 0) ea_nil) h.f_range) (envLe ⟨.inr rfl, .inr rfl, .inl rfl, .inl rfl, .inl rfl, .inl rfl, trivial⟩) (fun s_2 turn_3 => (es_own 3 (el_lst ea_nil) (fun late_4 => (es_fold1 4 (late_4 : ((List PyData))) (fun s_5 => [dS v_things, dS s_2, dS turn_3, .ow s_5, .un, .un]) (ei_val (ev_var 1)) (envLe ⟨.inr rfl, .inr rfl, .inr rfl, .inr rfl, .inl rfl, .inl rfl, trivial⟩) (fun s_5 names_6 => (es_extend 3 rfl ((el_lc (ec_lc1 5 (ei_rng1 (ea_cons (ev_var 0) ea_nil) h.f_range) (by decide +kernel) (hc := fun one_7 => (ets_one (et_cmp od_notin (ev_var 5) (ev_var 4)))) (he := fun one_7 => (ev_bin od_add (ev_var 4) ((el_lst (ea_cons (ev_var 5) ea_nil))).toE))))).toE (fun d_8 => (es_lp _ rfl (envLe ⟨.inr rfl, .inr rfl, .inr rfl, .inr rfl, .inl rfl, .inl rfl, trivial⟩))))) (fun s_5 => (es_thaw 3 rfl (es_set 1 (ev_var 3) (fun found_9 => (es_lp _ rfl (envLe ⟨.inr rfl, .inr rfl, .inl rfl, .inl rfl, .inl rfl, .inl rfl, trivial⟩)))))))))) (fun s_2 => (es_ret (ev_var 1))))))
  · exact es_err

theorem ok_namings_of {G : Glb} (h : GOk G) : FnD G 9 "namings_of" (top 33) ["relation", "other"] (spF G 2 m_namings_of) := by
  obtain ⟨fa, fd, hm, FD⟩ := h.d_namings_of
  refine fn_ok (N := ["relation", "other", "names", "row"]) FD hm (C8.fnScope_by (by decide +kernel)) fun as hl => ?_
  clear hl
  unfold m_namings_of
  split
  · rename_i v_relation v_other
    exact (es_ifR (et_cmp od_ne ((el_sorted (ea_cons ((el_lc (ec_lc1 3 (ei_val (ev_var 0)) (by decide +kernel) (hc := fun row_1 => ets_nil) (he := fun row_1 => (ev_callB cd_len (ea_cons (ev_var 3) ea_nil) h.f_len bo_len))))).toE ea_nil) h.f_sorted bo_sorted)).toE ((el_sorted (ea_cons ((el_lc (ec_lc1 3 (ei_val (ev_var 1)) (by decide +kernel) (hc := fun row_2 => ets_nil) (he := fun row_2 => (ev_callB cd_len (ea_cons (ev_var 3) ea_nil) h.f_len bo_len))))).toE ea_nil) h.f_sorted bo_sorted)).toE) (es_ret ((el_lst ea_nil)).toE) (es_ret ((el_lc (ec_lc1 2 (ei_val (ev_call (ok_all_names h) (fun _ _ _ _ _ _ us hl => match us, hl with | [_], _ => rfl) (eas_cons (e1_d (ev_callB cd_len (ea_cons (ev_var 0) ea_nil) h.f_len bo_len)) eas_nil))) (by decide +kernel) (hc := fun names_3 => (ets_one (et_cmp od_eq (ev_call (ok_renamed_of h) (fun _ _ _ _ _ _ us hl => match us, hl with | [_, _], _ => rfl) (eas_cons (e1_d (ev_var 0)) (eas_cons (e1_d (ev_var 2)) eas_nil))) (ev_var 1)))) (he := fun names_3 => (ev_var 2))))).toE))
  · exact es_err

theorem ok_first_of {G : Glb} (h : GOk G) : FnD G 9 "first_of" (top 34) ["relation"] (spF G 1 m_first_of) := by
  obtain ⟨fa, fd, hm, FD⟩ := h.d_first_of
  refine fn_ok (N := ["relation", "names", "form", "told", "here"]) FD hm (C8.fnScope_by (by decide +kernel)) fun as hl => ?_
  clear hl
  unfold m_first_of
  split
  · rename_i v_relation
    exact (es_tup2 2 3 (ep_d ev_non) (ep_d ev_non) (fun form_1 told_2 => (es_fold1 1 ((form_1, told_2) : (PyData × PyData)) (fun s_3 => [dS v_relation, .un, dS s_3.1, dS s_3.2, .un]) (ei_val (ev_call (ok_all_names h) (fun _ _ _ _ _ _ us hl => match us, hl with | [_], _ => rfl) (eas_cons (e1_d (ev_callB cd_len (ea_cons (ev_var 0) ea_nil) h.f_len bo_len)) eas_nil))) (envLe ⟨.inr rfl, .inl rfl, .inr rfl, .inr rfl, .inl rfl, trivial⟩) (fun s_3 names_4 => (es_set 4 (ev_call (ok_renamed_of h) (fun _ _ _ _ _ _ us hl => match us, hl with | [_, _], _ => rfl) (eas_cons (e1_d (ev_var 0)) (eas_cons (e1_d (ev_var 1)) eas_nil))) (fun here_5 => (es_if (E := fun s_6 => [dS v_relation, dS names_4, dS s_6.1, dS s_6.2, dS here_5]) (et_w (ew_or (et_cmp od_is (ev_var 2) ev_non) (ew_or1 (et_cmp od_lt (ev_var 4) (ev_var 2))))) (es_par 2 3 (ep_d (ev_var 4)) (ep_d (ev_var 1)) (fun form_7 told_8 => (es_nx _ rfl (envLe ⟨.inr rfl, .inr rfl, .inr rfl, .inr rfl, .inr rfl, trivial⟩)))) (es_nx _ rfl (envLe ⟨.inr rfl, .inr rfl, .inr rfl, .inr rfl, .inr rfl, trivial⟩)) (fun s_6 => (es_lp _ rfl (envLe ⟨.inr rfl, .inl rfl, .inr rfl, .inr rfl, .inl rfl, trivial⟩))))))) (fun s_3 => (es_ret (ev_tup (ea_cons (ev_var 2) (ea_cons (ev_var 3) ea_nil))))))))
  · exact es_err

theorem ok_form_of {G : Glb} (h : GOk G) : FnD G 10 "form_of" (top 35) ["relation"] (spF G 1 m_form_of) := by
  obtain ⟨fa, fd, hm, FD⟩ := h.d_form_of
  refine fn_ok (N := ["relation"]) FD hm (C8.fnScope_by (by decide +kernel)) fun as hl => ?_
  clear hl
  unfold m_form_of
  split
  · rename_i v_relation
    exact (es_ret (ev_idx (ev_call (ok_first_of h) (fun _ _ _ _ _ _ us hl => match us, hl with | [_], _ => rfl) (eas_cons (e1_d (ev_var 0)) eas_nil)) ev_int))
  · exact es_err

theorem ok_are_alike {G : Glb} (h : GOk G) : FnD G 10 "are_alike" (top 36) ["relation", "other"] (spF G 2 m_are_alike) := by
  obtain ⟨fa, fd, hm, FD⟩ := h.d_are_alike
  refine fn_ok (N := ["relation", "other"]) FD hm (C8.fnScope_by (by decide +kernel)) fun as hl => ?_
  clear hl
  unfold m_are_alike
  split
  · rename_i v_relation v_other
    exact (es_expr (ev_call (ok_want_two h) (fun _ _ _ _ _ _ us hl => match us, hl with | [_, _], _ => rfl) (eas_cons (e1_d (ev_var 0)) (eas_cons (e1_d (ev_var 1)) eas_nil))) (es_ret (ev_cmp od_ne (ev_call (ok_namings_of h) (fun _ _ _ _ _ _ us hl => match us, hl with | [_, _], _ => rfl) (eas_cons (e1_d (ev_var 0)) (eas_cons (e1_d (ev_var 1)) eas_nil))) ((el_lst ea_nil)).toE)))
  · exact es_err

theorem ok_alike_paper {G : Glb} (h : GOk G) : FnD G 11 "alike_paper" (top 37) ["relation", "other"] (spF G 2 m_alike_paper) := by
  obtain ⟨fa, fd, hm, FD⟩ := h.d_alike_paper
  refine fn_ok (N := ["relation", "other", "found"]) FD hm (C8.fnScope_by (by decide +kernel)) fun as hl => ?_
  clear hl
  unfold m_alike_paper
  split
  · rename_i v_relation v_other
    exact (es_expr (ev_call (ok_want_two h) (fun _ _ _ _ _ _ us hl => match us, hl with | [_, _], _ => rfl) (eas_cons (e1_d (ev_var 0)) (eas_cons (e1_d (ev_var 1)) eas_nil))) (es_set 2 (ev_call (ok_namings_of h) (fun _ _ _ _ _ _ us hl => match us, hl with | [_, _], _ => rfl) (eas_cons (e1_d (ev_var 0)) (eas_cons (e1_d (ev_var 1)) eas_nil))) (fun found_1 => (es_ret (ev_if (et_cmp od_ne (ev_var 2) ((el_lst ea_nil)).toE) (ev_tup (ea_cons (ev_globS h.c_NAMES_WORD) (ea_cons (ev_idx (ev_var 2) ev_int) ea_nil))) (ev_tup (ea_cons (ev_globS h.c_FORMS_WORD) (ea_cons (ev_tup (ea_cons (ev_call (ok_form_of h) (fun _ _ _ _ _ _ us hl => match us, hl with | [_], _ => rfl) (eas_cons (e1_d (ev_var 0)) eas_nil)) (ea_cons (ev_call (ok_form_of h) (fun _ _ _ _ _ _ us hl => match us, hl with | [_], _ => rfl) (eas_cons (e1_d (ev_var 1)) eas_nil)) ea_nil))) ea_nil))))))))
  · exact es_err

theorem ok_are_forms {G : Glb} (h : GOk G) : FnD G 5 "are_forms" (top 39) ["things", "value"] (spF G 2 m_are_forms) := by
  obtain ⟨fa, fd, hm, FD⟩ := h.d_are_forms
  refine fn_ok (N := ["things", "value", "one"]) FD hm (C8.fnScope_by (by decide +kernel)) fun as hl => ?_
  clear hl
  unfold m_are_forms
  split
  · rename_i v_things v_value
    exact (es_ret (ev_and (ev_call (ok_is_tuple h) (fun _ _ _ _ _ _ us hl => match us, hl with | [_, _], _ => rfl) (eas_cons (e1_d (ev_var 1)) (eas_cons (e1_d ev_int) eas_nil))) (ev_one (ev_callB cd_all (ea_cons ((el_lc (ec_lc1 2 (ei_val (ev_var 1)) (by decide +kernel) (hc := fun one_1 => ets_nil) (he := fun one_1 => (ev_call (ok_is_relation_of h) (fun _ _ _ _ _ _ us hl => match us, hl with | [_, _], _ => rfl) (eas_cons (e1_d (ev_var 0)) (eas_cons (e1_d (ev_var 2)) eas_nil))))))).toE ea_nil) h.f_all bo_all))))
  · exact es_err

theorem ok_is_alike_paper {G : Glb} (h : GOk G) : FnD G 11 "is_alike_paper" (top 38) ["relation", "other", "value"] (spF G 3 m_is_alike_paper) := by
  obtain ⟨fa, fd, hm, FD⟩ := h.d_is_alike_paper
  refine fn_ok (N := ["relation", "other", "value"]) FD hm (C8.fnScope_by (by decide +kernel)) fun as hl => ?_
  clear hl
  unfold m_is_alike_paper
  split
  · rename_i v_relation v_other v_value
    exact (es_expr (ev_call (ok_want_two h) (fun _ _ _ _ _ _ us hl => match us, hl with | [_, _], _ => rfl) (eas_cons (e1_d (ev_var 0)) (eas_cons (e1_d (ev_var 1)) eas_nil))) (es_ifR (et_w (ew_or (et_not (ev_test (ev_call (ok_is_tuple h) (fun _ _ _ _ _ _ us hl => match us, hl with | [_, _], _ => rfl) (eas_cons (e1_d (ev_var 2)) (eas_cons (e1_d ev_int) eas_nil))))) (ew_or1 (et_not (ev_test (ev_isi (T := "str") (ev_idx (ev_var 2) ev_int) h.f_isinstance h.f_str bo_str bo_isinstance)))))) (es_ret ev_bl) (es_ifR (et_cmp od_eq (ev_idx (ev_var 2) ev_int) (ev_globS h.c_NAMES_WORD)) (es_ret (ev_and (ev_call (ok_are_names_value h) (fun _ _ _ _ _ _ us hl => match us, hl with | [_, _], _ => rfl) (eas_cons (e1_d (ev_callB cd_len (ea_cons (ev_var 0) ea_nil) h.f_len bo_len)) (eas_cons (e1_d (ev_idx (ev_var 2) ev_int)) eas_nil))) (ev_one (ev_cmp od_eq (ev_call (ok_renamed_of h) (fun _ _ _ _ _ _ us hl => match us, hl with | [_, _], _ => rfl) (eas_cons (e1_d (ev_var 0)) (eas_cons (e1_d ((el_list (ea_cons (ev_idx (ev_var 2) ev_int) ea_nil) h.f_list bo_list)).toE) eas_nil))) (ev_var 1))))) (es_ifR (et_w (ew_or (et_cmp od_ne (ev_idx (ev_var 2) ev_int) (ev_globS h.c_FORMS_WORD)) (ew_or1 (et_not (ev_test (ev_call (ok_are_forms h) (fun _ _ _ _ _ _ us hl => match us, hl with | [_, _], _ => rfl) (eas_cons (e1_d (ev_callB cd_len (ea_cons (ev_var 0) ea_nil) h.f_len bo_len)) (eas_cons (e1_d (ev_idx (ev_var 2) ev_int)) eas_nil)))))))) (es_ret ev_bl) (es_ret (ev_and (ev_cmp od_ne (ev_idx (ev_idx (ev_var 2) ev_int) ev_int) (ev_idx (ev_idx (ev_var 2) ev_int) ev_int)) (ev_one (ev_cmp od_eq (ev_idx (ev_var 2) ev_int) (ev_tup (ea_cons (ev_call (ok_form_of h) (fun _ _ _ _ _ _ us hl => match us, hl with | [_], _ => rfl) (eas_cons (e1_d (ev_var 0)) eas_nil)) (ea_cons (ev_call (ok_form_of h) (fun _ _ _ _ _ _ us hl => match us, hl with | [_], _ => rfl) (eas_cons (e1_d (ev_var 1)) eas_nil)) ea_nil)))))))))))
  · exact es_err

theorem ok__law_pot {G : Glb} (h : GOk G) : FnD G 1 "_law_pot" (top 41) ["script", "k"] (spL G 2 m__law_pot) := by
  obtain ⟨fa, fd, hm, FD⟩ := h.d__law_pot
  refine fn_okL (N := ["script", "k", "cell"]) FD hm (C8.fnScope_by (by decide +kernel)) fun as hl => ?_
  clear hl
  unfold m__law_pot
  split
  · rename_i v_script v_k
    exact (es_set 2 (ev_if (et_cmp od_lt (ev_var 1) (ev_lenS 0 rfl h.f_len)) (ev_callB cd_abs (ea_cons (ev_ixS 0 (ev_var 1)) ea_nil) h.f_abs bo_abs) (ev_bin od_add (ev_bin od_mul ev_int (ev_var 1)) ev_int)) (fun cell_1 => (es_retL (el_lst (ea_cons (ev_callB cd_max2 (ea_cons ev_int (ea_cons (ev_bin od_sub (ev_var 2) (ev_bin od_pow ev_int ev_int)) ea_nil)) h.f_max bo_max) (ea_cons (ev_bin od_add (ev_bin od_mod (ev_callTy cd_int (ea_cons (ev_bin od_add (ev_bin od_add (ev_bin od_mul (ev_bin od_mod (ev_callTy cd_int (ea_cons (ev_var 2) ea_nil) h.f_int bo_int) ev_int) ev_int) (ev_bin od_mul ev_int (ev_var 1))) ev_int) ea_nil) h.f_int bo_int) ev_int) ev_int) ea_nil))))))
  · exact es_err

theorem ok__law_pick {G : Glb} (h : GOk G) : FnD G 2 "_law_pick" (top 43) ["pot", "some"] (spF G 2 m__law_pick) := by
  obtain ⟨fa, fd, hm, FD⟩ := h.d__law_pick
  refine fn_ok (N := ["pot", "some"]) FD hm (C8.fnScope_by (by decide +kernel)) fun as hl => ?_
  clear hl
  unfold m__law_pick
  split
  · rename_i v_some
    exact (es_ret (ev_idx (ev_var 1) (ev_call (ok__law_draw h) (fun _ _ _ _ _ _ us hl => match us, hl with | [_, _], _ => rfl) (eas_cons (e1_v 0) (eas_cons (e1_d (ev_callB cd_len (ea_cons (ev_var 1) ea_nil) h.f_len bo_len)) eas_nil)))))
  · exact es_err

theorem ok__law_mixed {G : Glb} (h : GOk G) : FnD G 2 "_law_mixed" (top 44) ["pot", "some"] (spF G 2 m__law_mixed) := by
  obtain ⟨fa, fd, hm, FD⟩ := h.d__law_mixed
  refine fn_ok (N := ["pot", "some", "left", "found"]) FD hm (C8.fnScope_by (by decide +kernel)) fun as hl => ?_
  clear hl
  unfold m__law_mixed
  split
  · rename_i v_some
    exact (es_par 2 3 (ep_l (el_list (ea_cons (ev_var 1) ea_nil) h.f_list bo_list)) (ep_l (el_lst ea_nil)) (fun left_1 found_2 => (es_whileS fuel ((left_1, found_2) : ((List PyData) × (List PyData))) (fun s_3 => [.v .p, dS v_some, .ow s_3.1, .ow s_3.2]) (envLe ⟨.inr rfl, .inr rfl, .inr rfl, .inr rfl, trivial⟩) (fun s_3 => (et_frz (et_cmp od_ne (ev_var 2) ((el_lst ea_nil)).toE))) (fun s_3 => (es_appPop 3 2 rfl rfl (ev_frzD (ev_call (ok__law_draw h) (fun _ _ _ _ _ _ us hl => match us, hl with | [_, _], _ => rfl) (eas_cons (e1_v 0) (eas_cons (e1_d (ev_callB cd_len (ea_cons (ev_var 2) ea_nil) h.f_len bo_len)) eas_nil)))) (fun d_4 left_5 => (es_lp _ rfl (envLe ⟨.inr rfl, .inr rfl, .inr rfl, .inr rfl, trivial⟩))))) (fun s_3 => (es_retO 3)))))
  · exact es_err

theorem ok__law_relation {G : Glb} (h : GOk G) : FnD G 2 "_law_relation" (top 45) ["pot", "most"] (spF G 2 m__law_relation) := by
  obtain ⟨fa, fd, hm, FD⟩ := h.d__law_relation
  refine fn_ok (N := ["pot", "most", "scarce", "rows", "things", "way", "step", "one", "late", "row"]) FD hm (C8.fnScope_by (by decide +kernel)) fun as hl => ?_
  clear hl
  unfold m__law_relation
  split
  · rename_i v_most
    exact (es_tup2 4 5 (ep_d (ev_bin od_add ev_int (ev_call (ok__law_draw h) (fun _ _ _ _ _ _ us hl => match us, hl with | [_, _], _ => rfl) (eas_cons (e1_v 0) (eas_cons (e1_d (ev_var 1)) eas_nil))))) (ep_d (ev_call (ok__law_draw h) (fun _ _ _ _ _ _ us hl => match us, hl with | [_, _], _ => rfl) (eas_cons (e1_v 0) (eas_cons (e1_d ev_int) eas_nil)))) (fun things_1 way_2 => (es_set 2 (ev_bin od_add ev_int (ev_call (ok__law_draw h) (fun _ _ _ _ _ _ us hl => match us, hl with | [_, _], _ => rfl) (eas_cons (e1_v 0) (eas_cons (e1_d ev_int) eas_nil)))) (fun scarce_3 => (es_norm [.v .p, dS v_most, dS scarce_3, .un, dS things_1, dS way_2, .un, .un, .un, .un] (es_own 3 (el_lc (ec_lc1 7 (ei_rng1 (ea_cons (ev_var 4) ea_nil) h.f_range) (by decide +kernel) (hc := fun one_4 => ets_nil) (he := fun one_4 => ((el_lc (ec_lc1 8 (ei_rng1 (ea_cons (ev_var 4) ea_nil) h.f_range) (by decide +kernel) (hc := fun late_5 => (ets_one (et_cmp od_eq (ev_call (ok__law_draw h) (fun _ _ _ _ _ _ us hl => match us, hl with | [_, _], _ => rfl) (eas_cons (e1_v 0) (eas_cons (e1_d (ev_var 2)) eas_nil))) ev_int))) (he := fun late_5 => (ev_var 8))))).toE))) (fun rows_6 => es_thaw 3 rfl (es_if (E := fun s_7 => [.v .p, dS v_most, dS scarce_3, dS s_7, dS things_1, dS way_2, .un, .un, .un, .un]) (et_cmp od_eq (ev_var 5) ev_int) (es_own 3 (el_lc (ec_lc1 7 (ei_rng1 (ea_cons (ev_var 4) ea_nil) h.f_range) (by decide +kernel) (hc := fun one_8 => ets_nil) (he := fun one_8 => ((el_lst (ea_cons (ev_call (ok__law_draw h) (fun _ _ _ _ _ _ us hl => match us, hl with | [_, _], _ => rfl) (eas_cons (e1_v 0) (eas_cons (e1_d (ev_var 4)) eas_nil))) ea_nil))).toE))) (fun rows_9 => es_thaw 3 rfl (es_nx _ rfl (envLe ⟨.inr rfl, .inr rfl, .inr rfl, .inr rfl, .inr rfl, .inr rfl, .inl rfl, .inl rfl, .inl rfl, .inl rfl, trivial⟩))) (hs := sw_cell rfl)) (es_nx _ rfl (envLe ⟨.inr rfl, .inr rfl, .inr rfl, .inr rfl, .inr rfl, .inr rfl, .inl rfl, .inl rfl, .inl rfl, .inl rfl, trivial⟩)) (fun s_7 => (es_if (E := fun s_10 => [.v .p, dS v_most, dS scarce_3, dS s_10, dS things_1, dS way_2, .un, .un, .un, .un]) (et_cmp od_eq (ev_var 5) ev_int) (es_own 3 (el_lc (ec_lc1 9 (ei_val (ev_var 3)) (by decide +kernel) (hc := fun row_11 => ets_nil) (he := fun row_11 => ((el_lc (ec_lc1 8 (ei_rng1 (ea_cons (ev_var 4) ea_nil) h.f_range) (by decide +kernel) (hc := fun late_12 => (ets_one (et_cmp od_notin (ev_var 8) (ev_var 9)))) (he := fun late_12 => (ev_var 8))))).toE))) (fun rows_13 => es_thaw 3 rfl (es_nx _ rfl (envLe ⟨.inr rfl, .inr rfl, .inr rfl, .inr rfl, .inr rfl, .inr rfl, .inl rfl, .inl rfl, .inl rfl, .inl rfl, trivial⟩))) (hs := sw_cell rfl)) (es_nx _ rfl (envLe ⟨.inr rfl, .inr rfl, .inr rfl, .inr rfl, .inr rfl, .inr rfl, .inl rfl, .inl rfl, .inl rfl, .inl rfl, trivial⟩)) (fun s_10 => (es_if (E := fun s_14 => [.v .p, dS v_most, dS scarce_3, dS s_14, dS things_1, dS way_2, .un, .un, .un, .un]) (et_cmp od_eq (ev_var 5) ev_int) (es_own 3 (el_lc (ec_lc1 7 (ei_rng1 (ea_cons (ev_var 4) ea_nil) h.f_range) (by decide +kernel) (hc := fun one_15 => ets_nil) (he := fun one_15 => ((el_lc (ec_lc1 8 (ei_rng1 (ea_cons (ev_var 4) ea_nil) h.f_range) (by decide +kernel) (hc := fun late_16 => (ets_one (et_w (ew_or (et_cmp od_in (ev_var 8) (ev_idx (ev_var 3) (ev_var 7))) (ew_or1 (et_cmp od_in (ev_var 7) (ev_idx (ev_var 3) (ev_var 8)))))))) (he := fun late_16 => (ev_var 8))))).toE))) (fun rows_17 => es_thaw 3 rfl (es_nx _ rfl (envLe ⟨.inr rfl, .inr rfl, .inr rfl, .inr rfl, .inr rfl, .inr rfl, .inl rfl, .inl rfl, .inl rfl, .inl rfl, trivial⟩))) (hs := sw_cell rfl)) (es_nx _ rfl (envLe ⟨.inr rfl, .inr rfl, .inr rfl, .inr rfl, .inr rfl, .inr rfl, .inl rfl, .inl rfl, .inl rfl, .inl rfl, trivial⟩)) (fun s_14 => (es_if (E := fun s_18 => [.v .p, dS v_most, dS scarce_3, dS s_18, dS things_1, dS way_2, .un, .un, .un, .un]) (et_cmp od_eq (ev_var 5) ev_int) (es_set 6 (ev_call (ok__law_draw h) (fun _ _ _ _ _ _ us hl => match us, hl with | [_, _], _ => rfl) (eas_cons (e1_v 0) (eas_cons (e1_d (ev_var 4)) eas_nil))) (fun step_19 => (es_own 3 (el_lc (ec_lc1 7 (ei_rng1 (ea_cons (ev_var 4) ea_nil) h.f_range) (by decide +kernel) (hc := fun one_20 => ets_nil) (he := fun one_20 => ((el_lst (ea_cons (ev_bin od_mod (ev_callTy cd_int (ea_cons (ev_bin od_add (ev_var 7) (ev_var 6)) ea_nil) h.f_int bo_int) (ev_var 4)) ea_nil))).toE))) (fun rows_21 => es_thaw 3 rfl (es_nx _ rfl (envLe ⟨.inr rfl, .inr rfl, .inr rfl, .inr rfl, .inr rfl, .inr rfl, .inl rfl, .inl rfl, .inl rfl, .inl rfl, trivial⟩))) (hs := sw_cell rfl)))) (es_nx _ rfl (envLe ⟨.inr rfl, .inr rfl, .inr rfl, .inr rfl, .inr rfl, .inr rfl, .inl rfl, .inl rfl, .inl rfl, .inl rfl, trivial⟩)) (fun s_18 => (es_ret (ev_callTy cd_tuple (ea_cons ((el_lc (ec_lc1 9 (ei_val (ev_var 3)) (by decide +kernel) (hc := fun row_22 => ets_nil) (he := fun row_22 => (ev_callTy cd_tuple (ea_cons ((el_ssetX (ev_var 9) h.f_sorted h.f_set)).toE ea_nil) h.f_tuple bo_tuple))))).toE ea_nil) h.f_tuple bo_tuple))))))))))) (hs := sw_cell rfl)))))))
  · exact es_err

theorem ok__law_renamed {G : Glb} (h : GOk G) : FnD G 1 "_law_renamed" (top 46) ["relation", "names"] (spF G 2 m__law_renamed) := by
  obtain ⟨fa, fd, hm, FD⟩ := h.d__law_renamed
  refine fn_ok (N := ["relation", "names", "one", "late"]) FD hm (C8.fnScope_by (by decide +kernel)) fun as hl => ?_
  clear hl
  unfold m__law_renamed
  split
  · rename_i v_relation v_names
    exact (es_ret (ev_callTy cd_tuple (ea_cons ((el_lc (ec_lc1 2 (ei_val (ev_var 1)) (by decide +kernel) (hc := fun one_1 => ets_nil) (he := fun one_1 => (ev_callTy cd_tuple (ea_cons ((el_sorted (ea_cons ((el_lc (ec_lc1 3 (ei_val (ev_idx (ev_var 0) (ev_var 2))) (by decide +kernel) (hc := fun late_2 => ets_nil) (he := fun late_2 => (ev_index (ev_var 1) (ev_var 3)))))).toE ea_nil) h.f_sorted bo_sorted)).toE ea_nil) h.f_tuple bo_tuple))))).toE ea_nil) h.f_tuple bo_tuple))
  · exact es_err

theorem ok__law_all_names {G : Glb} (h : GOk G) : FnD G 1 "_law_all_names" (top 47) ["things"] (spF G 1 m__law_all_names) := by
  obtain ⟨fa, fd, hm, FD⟩ := h.d__law_all_names
  refine fn_ok (N := ["things", "found", "turn", "longer", "names", "one"]) FD hm (C8.fnScope_by (by decide +kernel)) fun as hl => ?_
  clear hl
  unfold m__law_all_names
  split
  · rename_i v_things
    exact (es_set 1 ((el_lst (ea_cons ((el_lst ea_nil)).toE ea_nil))).toE (fun found_1 => (es_fold1 2 (found_1 : (PyData)) (fun s_2 => [dS v_things, dS s_2, .un, .un, .un, .un]) (ei_rng1 (ea_cons (ev_var 0) ea_nil) h.f_range) (envLe ⟨.inr rfl, .inr rfl, .inl rfl, .inl rfl, .inl rfl, .inl rfl, trivial⟩) (fun s_2 turn_3 => (es_own 3 (el_lst ea_nil) (fun longer_4 => (es_fold1 4 (longer_4 : ((List PyData))) (fun s_5 => [dS v_things, dS s_2, dS turn_3, .ow s_5, .un, .un]) (ei_val (ev_var 1)) (envLe ⟨.inr rfl, .inr rfl, .inr rfl, .inr rfl, .inl rfl, .inl rfl, trivial⟩) (fun s_5 names_6 => (es_extend 3 rfl ((el_lc (ec_lc1 5 (ei_rng1 (ea_cons (ev_var 0) ea_nil) h.f_range) (by decide +kernel) (hc := fun one_7 => (ets_one (et_cmp od_notin (ev_var 5) (ev_var 4)))) (he := fun one_7 => (ev_bin od_add (ev_var 4) ((el_lst (ea_cons (ev_var 5) ea_nil))).toE))))).toE (fun d_8 => (es_lp _ rfl (envLe ⟨.inr rfl, .inr rfl, .inr rfl, .inr rfl, .inl rfl, .inl rfl, trivial⟩))))) (fun s_5 => (es_thaw 3 rfl (es_set 1 (ev_var 3) (fun found_9 => (es_lp _ rfl (envLe ⟨.inr rfl, .inr rfl, .inl rfl, .inl rfl, .inl rfl, .inl rfl, trivial⟩)))))))))) (fun s_2 => (es_ret (ev_var 1))))))
  · exact es_err

theorem ok__law_first {G : Glb} (h : GOk G) : FnD G 2 "_law_first" (top 48) ["relation"] (spF G 1 m__law_first) := by
  obtain ⟨fa, fd, hm, FD⟩ := h.d__law_first
  refine fn_ok (N := ["relation", "names"]) FD hm (C8.fnScope_by (by decide +kernel)) fun as hl => ?_
  clear hl
  unfold m__law_first
  split
  · rename_i v_relation
    exact (es_ret (ev_callB cd_minA (ea_cons ((el_lc (ec_lc1 1 (ei_val (ev_call (ok__law_all_names h) (fun _ _ _ _ _ _ us hl => match us, hl with | [_], _ => rfl) (eas_cons (e1_d (ev_callB cd_len (ea_cons (ev_var 0) ea_nil) h.f_len bo_len)) eas_nil))) (by decide +kernel) (hc := fun names_1 => ets_nil) (he := fun names_1 => (ev_call (ok__law_renamed h) (fun _ _ _ _ _ _ us hl => match us, hl with | [_, _], _ => rfl) (eas_cons (e1_d (ev_var 0)) (eas_cons (e1_d (ev_var 1)) eas_nil))))))).toE ea_nil) h.f_min bo_min))
  · exact es_err

theorem ok__law_two_right {G : Glb} (h : GOk G) : FnD G 12 "_law_two_right" (top 49) ["pot", "relation", "other"] (spF G 3 m__law_two_right) := by
  obtain ⟨fa, fd, hm, FD⟩ := h.d__law_two_right
  refine fn_ok (N := ["pot", "relation", "other", "some", "due", "told", "turn", "forms", "back", "shown", "words", "things", "near", "far", "names", "so", "word"]) FD hm (C8.fnScope_by (by decide +kernel)) fun as hl => ?_
  clear hl
  unfold m__law_two_right
  split
  · rename_i v_relation v_other
    exact (es_par3 9 10 11 (ep_d (ev_callB cd_repr (ea_cons ((el_lst (ea_cons (ev_var 1) (ea_cons (ev_var 2) ea_nil)))).toE ea_nil) h.f_repr bo_repr)) (ep_l (el_lst ea_nil)) (ep_d (ev_callB cd_len (ea_cons (ev_var 1) ea_nil) h.f_len bo_len)) (fun shown_1 words_2 things_3 => (es_norm [.v .p, dS v_relation, dS v_other, .un, .un, .un, .un, .un, .un, dS shown_1, .ow words_2, dS things_3, .un, .un, .un, .un, .un] (es_ownLc 3 (ec_lc1 14 (ei_val (ev_call (ok__law_all_names h) (fun _ _ _ _ _ _ us hl => match us, hl with | [_], _ => rfl) (eas_cons (e1_d (ev_var 11)) eas_nil))) (by decide +kernel) (hc := fun names_4 => (ets_one (et_cmp od_eq (ev_call (ok__law_renamed h) (fun _ _ _ _ _ _ us hl => match us, hl with | [_, _], _ => rfl) (eas_cons (e1_d (ev_var 1)) (eas_cons (e1_d (ev_var 14)) eas_nil))) (ev_var 2)))) (he := fun names_4 => (ev_var 14))) (fun some_5 => es_thaw 3 rfl (es_par 12 13 (ep_d (ev_call (ok__law_first h) (fun _ _ _ _ _ _ us hl => match us, hl with | [_], _ => rfl) (eas_cons (e1_d (ev_var 1)) eas_nil))) (ep_d (ev_call (ok__law_first h) (fun _ _ _ _ _ _ us hl => match us, hl with | [_], _ => rfl) (eas_cons (e1_d (ev_var 2)) eas_nil))) (fun near_6 far_7 => (es_norm [.v .p, dS v_relation, dS v_other, dS (.list some_5), .un, .un, .un, .un, .un, dS shown_1, .ow words_2, dS things_3, dS near_6, dS far_7, .un, .un, .un] (es_set 4 (ev_if (et_cmp od_ne (ev_var 3) ((el_lst ea_nil)).toE) (ev_tup (ea_cons ev_str (ea_cons (ev_idx (ev_var 3) ev_int) ea_nil))) (ev_tup (ea_cons ev_str (ea_cons (ev_tup (ea_cons (ev_var 12) (ea_cons (ev_var 13) ea_nil))) ea_nil)))) (fun due_8 => (es_set 5 (ev_call (ok_alike_paper h) (fun _ _ _ _ _ _ us hl => match us, hl with | [_, _], _ => rfl) (eas_cons (e1_d (ev_var 1)) (eas_cons (e1_d (ev_var 2)) eas_nil))) (fun told_9 => (es_ifR (et_w (ew_or (et_cmp od_ne (ev_callB cd_repr (ea_cons ((el_lst (ea_cons (ev_var 5) (ea_cons (ev_callK ["other", "relation"] [1, 0] (ok_alike_paper h) (fun _ _ _ _ _ _ us hl => match us, hl with | [_, _], _ => rfl) (ek_cons (e1_d (ev_var 2)) (ek_cons (e1_d (ev_var 1)) ek_nil))) ea_nil)))).toE ea_nil) h.f_repr bo_repr) (ev_callB cd_repr (ea_cons ((el_lst (ea_cons (ev_var 4) (ea_cons (ev_var 4) ea_nil)))).toE ea_nil) h.f_repr bo_repr)) (ew_or (et_cmp od_isnot (ev_call (ok_is_alike_paper h) (fun _ _ _ _ _ _ us hl => match us, hl with | [_, _, _], _ => rfl) (eas_cons (e1_d (ev_var 1)) (eas_cons (e1_d (ev_var 2)) (eas_cons (e1_d (ev_var 5)) eas_nil)))) ev_bl) (ew_or1 (et_cmp od_ne (ev_call (ok_are_alike h) (fun _ _ _ _ _ _ us hl => match us, hl with | [_, _], _ => rfl) (eas_cons (e1_d (ev_var 1)) (eas_cons (e1_d (ev_var 2)) eas_nil))) (ev_cmp od_ne (ev_var 3) ((el_lst ea_nil)).toE)))))) (es_ret ev_bl) (es_for1 6 (words_2 : ((List PyData))) (fun s_10 => [.v .p, dS v_relation, dS v_other, dS (.list some_5), dS due_8, dS told_9, .un, .un, .un, dS shown_1, .ow s_10, dS things_3, dS near_6, dS far_7, .un, .un, .un]) (ei_rng1 (ea_cons ev_int ea_nil) h.f_range) (envLe ⟨.inr rfl, .inr rfl, .inr rfl, .inr rfl, .inr rfl, .inr rfl, .inl rfl, .inl rfl, .inl rfl, .inr rfl, .inr rfl, .inr rfl, .inr rfl, .inr rfl, .inl rfl, .inl rfl, .inl rfl, trivial⟩) (fun s_10 turn_11 => (es_set 14 (ev_call (ok__law_pick h) (fun _ _ _ _ _ _ us hl => match us, hl with | [_, _], _ => rfl) (eas_cons (e1_v 0) (eas_cons (e1_d ((el_lst (ea_cons (ev_call (ok__law_mixed h) (fun _ _ _ _ _ _ us hl => match us, hl with | [_, _], _ => rfl) (eas_cons (e1_v 0) (eas_cons (e1_d ((el_listRg (ev_var 11) h.f_list h.f_range)).toE) eas_nil))) (ea_cons (ev_if (et_cmp od_ne (ev_var 3) ((el_lst ea_nil)).toE) (ev_idx (ev_var 3) ev_int) ((el_listRg (ev_var 11) h.f_list h.f_range)).toE) ea_nil)))).toE) eas_nil))) (fun names_12 => (es_set 15 (ev_cmp od_eq (ev_call (ok__law_renamed h) (fun _ _ _ _ _ _ us hl => match us, hl with | [_, _], _ => rfl) (eas_cons (e1_d (ev_var 1)) (eas_cons (e1_d (ev_var 14)) eas_nil))) (ev_var 2)) (fun so_13 => (es_ifR (et_cmp od_ne (ev_callB cd_repr (ea_cons ((el_lst (ea_cons (ev_call (ok_is_alike_paper h) (fun _ _ _ _ _ _ us hl => match us, hl with | [_, _, _], _ => rfl) (eas_cons (e1_d (ev_var 1)) (eas_cons (e1_d (ev_var 2)) (eas_cons (e1_d (ev_tup (ea_cons ev_str (ea_cons ((el_list (ea_cons (ev_var 14) ea_nil) h.f_list bo_list)).toE ea_nil)))) eas_nil)))) (ea_cons (ev_callK ["value", "other", "relation"] [2, 1, 0] (ok_is_alike_paper h) (fun _ _ _ _ _ _ us hl => match us, hl with | [_, _, _], _ => rfl) (ek_cons (e1_d (ev_tup (ea_cons ev_str (ea_cons (ev_callTy cd_tuple (ea_cons (ev_var 14) ea_nil) h.f_tuple bo_tuple) ea_nil)))) (ek_cons (e1_d (ev_var 2)) (ek_cons (e1_d (ev_var 1)) ek_nil)))) ea_nil)))).toE ea_nil) h.f_repr bo_repr) (ev_callB cd_repr (ea_cons ((el_lst (ea_cons (ev_var 15) (ea_cons (ev_var 15) ea_nil)))).toE ea_nil) h.f_repr bo_repr)) (es_ret ev_bl) (es_extend 10 rfl (ev_if (ev_test (ev_var 15)) ((el_lst (ea_cons ev_str ea_nil))).toE ((el_lst ea_nil)).toE) (fun d_14 => (es_lp _ rfl (envLe ⟨.inr rfl, .inr rfl, .inr rfl, .inr rfl, .inr rfl, .inr rfl, .inl rfl, .inl rfl, .inl rfl, .inr rfl, .inr rfl, .inr rfl, .inr rfl, .inr rfl, .inl rfl, .inl rfl, .inl rfl, trivial⟩)))))))))) (fun s_10 => (es_for1 7 (s_10 : ((List PyData))) (fun s_15 => [.v .p, dS v_relation, dS v_other, dS (.list some_5), dS due_8, dS told_9, .un, .un, .un, dS shown_1, .ow s_15, dS things_3, dS near_6, dS far_7, .un, .un, .un]) (ei_val ((el_lst (ea_cons (ev_tup (ea_cons (ev_var 12) (ea_cons (ev_var 13) ea_nil))) (ea_cons (ev_tup (ea_cons (ev_var 13) (ea_cons (ev_var 12) ea_nil))) (ea_cons (ev_tup (ea_cons (ev_var 1) (ea_cons (ev_var 2) ea_nil))) (ea_cons (ev_tup (ea_cons (ev_var 12) (ea_cons (ev_var 12) ea_nil))) (ea_cons (ev_tup (ea_cons (ev_var 12) (ea_cons (ev_var 1) ea_nil))) ea_nil))))))).toE) (envLe ⟨.inr rfl, .inr rfl, .inr rfl, .inr rfl, .inr rfl, .inr rfl, .inl rfl, .inl rfl, .inl rfl, .inr rfl, .inr rfl, .inr rfl, .inr rfl, .inr rfl, .inl rfl, .inl rfl, .inl rfl, trivial⟩) (fun s_15 forms_16 => (es_set 15 (ev_and (ev_cmp od_eq (ev_var 7) (ev_tup (ea_cons (ev_var 12) (ea_cons (ev_var 13) ea_nil)))) (ev_one (ev_cmp od_ne (ev_var 12) (ev_var 13)))) (fun so_17 => (es_ifR (et_cmp od_ne (ev_callB cd_repr (ea_cons ((el_lst (ea_cons (ev_call (ok_is_alike_paper h) (fun _ _ _ _ _ _ us hl => match us, hl with | [_, _, _], _ => rfl) (eas_cons (e1_d (ev_var 1)) (eas_cons (e1_d (ev_var 2)) (eas_cons (e1_d (ev_tup (ea_cons ev_str (ea_cons (ev_var 7) ea_nil)))) eas_nil)))) (ea_cons (ev_callK ["value", "other", "relation"] [2, 1, 0] (ok_is_alike_paper h) (fun _ _ _ _ _ _ us hl => match us, hl with | [_, _, _], _ => rfl) (ek_cons (e1_d (ev_tup (ea_cons ev_str (ea_cons (ev_var 7) ea_nil)))) (ek_cons (e1_d (ev_var 2)) (ek_cons (e1_d (ev_var 1)) ek_nil)))) ea_nil)))).toE ea_nil) h.f_repr bo_repr) (ev_callB cd_repr (ea_cons ((el_lst (ea_cons (ev_var 15) (ea_cons (ev_var 15) ea_nil)))).toE ea_nil) h.f_repr bo_repr)) (es_ret ev_bl) (es_extend 10 rfl (ev_if (ev_test (ev_var 15)) ((el_lst (ea_cons ev_str ea_nil))).toE ((el_lst ea_nil)).toE) (fun d_18 => (es_lp _ rfl (envLe ⟨.inr rfl, .inr rfl, .inr rfl, .inr rfl, .inr rfl, .inr rfl, .inl rfl, .inl rfl, .inl rfl, .inr rfl, .inr rfl, .inr rfl, .inr rfl, .inr rfl, .inl rfl, .inl rfl, .inl rfl, trivial⟩)))))))) (fun s_15 => (es_thaw 10 rfl (es_ifR (et_cmp od_ne ((el_lc (ec_lc1 16 (ei_val (ev_var 10)) (by decide +kernel) (hc := fun word_19 => (ets_one (et_cmp od_ne (ev_var 16) (ev_idx (ev_var 5) ev_int)))) (he := fun word_19 => (ev_var 16))))).toE ((el_lst ea_nil)).toE) (es_ret ev_bl) (es_set 8 (ev_call (ok_alike_paper h) (fun _ _ _ _ _ _ us hl => match us, hl with | [_, _], _ => rfl) (eas_cons (e1_d (ev_var 2)) (eas_cons (e1_d (ev_var 1)) eas_nil))) (fun back_20 => (es_ifR (et_w (ew_or (et_cmp od_ne (ev_idx (ev_var 8) ev_int) (ev_idx (ev_var 5) ev_int)) (ew_or1 (et_w (ew_and (et_cmp od_eq (ev_idx (ev_var 5) ev_int) ev_str) (ew_and1 (et_cmp od_ne (ev_idx (ev_var 8) ev_int) (ev_tup (ea_cons (ev_var 13) (ea_cons (ev_var 12) ea_nil)))))))))) (es_ret ev_bl) (es_ret (ev_cmp od_eq (ev_callB cd_repr (ea_cons ((el_lst (ea_cons (ev_var 1) (ea_cons (ev_var 2) ea_nil)))).toE ea_nil) h.f_repr bo_repr) (ev_var 9)))))))))))))))))))))))))
  · exact es_err

theorem ok__law_right {G : Glb} (h : GOk G) : FnD G 13 "_law_right" (top 50) ["pot"] (spF G 1 m__law_right) := by
  obtain ⟨fa, fd, hm, FD⟩ := h.d__law_right
  refine fn_ok (N := ["pot", "relation", "names", "late", "other", "third"]) FD hm (C8.fnScope_by (by decide +kernel)) fun as hl => ?_
  clear hl
  unfold m__law_right
  split
  · exact (es_set 1 (ev_call (ok__law_relation h) (fun _ _ _ _ _ _ us hl => match us, hl with | [_, _], _ => rfl) (eas_cons (e1_v 0) (eas_cons (e1_d ev_int) eas_nil))) (fun relation_1 => (es_set 2 (ev_call (ok__law_mixed h) (fun _ _ _ _ _ _ us hl => match us, hl with | [_, _], _ => rfl) (eas_cons (e1_v 0) (eas_cons (e1_d ((el_listRg (ev_callB cd_len (ea_cons (ev_var 1) ea_nil) h.f_len bo_len) h.f_list h.f_range)).toE) eas_nil))) (fun names_2 => (es_set 3 (ev_call (ok_renamed h) (fun _ _ _ _ _ _ us hl => match us, hl with | [_, _], _ => rfl) (eas_cons (e1_d (ev_var 1)) (eas_cons (e1_d ((el_list (ea_cons (ev_var 2) ea_nil) h.f_list bo_list)).toE) eas_nil))) (fun late_3 => (es_norm [.v .p, dS relation_1, dS names_2, dS late_3, .un, .un] (es_ifR (et_not (ev_test (ev_call (ok__law_two_right h) (fun _ _ _ _ _ _ us hl => match us, hl with | [_, _, _], _ => rfl) (eas_cons (e1_v 0) (eas_cons (e1_d (ev_var 1)) (eas_cons (e1_d (ev_var 3)) eas_nil)))))) (es_ret ev_bl) (es_set 4 (ev_call (ok_with_pair h) (fun _ _ _ _ _ _ us hl => match us, hl with | [_, _, _], _ => rfl) (eas_cons (e1_d (ev_var 3)) (eas_cons (e1_d (ev_call (ok__law_draw h) (fun _ _ _ _ _ _ us hl => match us, hl with | [_, _], _ => rfl) (eas_cons (e1_v 0) (eas_cons (e1_d (ev_callB cd_len (ea_cons (ev_var 1) ea_nil) h.f_len bo_len)) eas_nil)))) (eas_cons (e1_d (ev_call (ok__law_draw h) (fun _ _ _ _ _ _ us hl => match us, hl with | [_, _], _ => rfl) (eas_cons (e1_v 0) (eas_cons (e1_d (ev_callB cd_len (ea_cons (ev_var 1) ea_nil) h.f_len bo_len)) eas_nil)))) eas_nil)))) (fun other_4 => (es_ifR (et_w (ew_or (et_not (ev_test (ev_call (ok__law_two_right h) (fun _ _ _ _ _ _ us hl => match us, hl with | [_, _, _], _ => rfl) (eas_cons (e1_v 0) (eas_cons (e1_d (ev_var 1)) (eas_cons (e1_d (ev_var 4)) eas_nil)))))) (ew_or1 (et_cmp od_ne (ev_idx (ev_call (ok_alike_paper h) (fun _ _ _ _ _ _ us hl => match us, hl with | [_, _], _ => rfl) (eas_cons (e1_d (ev_var 1)) (eas_cons (e1_d (ev_var 4)) eas_nil))) ev_int) ev_str)))) (es_ret ev_bl) (es_set 5 (ev_call (ok_with_pair h) (fun _ _ _ _ _ _ us hl => match us, hl with | [_, _, _], _ => rfl) (eas_cons (e1_d (ev_var 4)) (eas_cons (e1_d (ev_call (ok__law_draw h) (fun _ _ _ _ _ _ us hl => match us, hl with | [_, _], _ => rfl) (eas_cons (e1_v 0) (eas_cons (e1_d (ev_callB cd_len (ea_cons (ev_var 1) ea_nil) h.f_len bo_len)) eas_nil)))) (eas_cons (e1_d (ev_call (ok__law_draw h) (fun _ _ _ _ _ _ us hl => match us, hl with | [_, _], _ => rfl) (eas_cons (e1_v 0) (eas_cons (e1_d (ev_callB cd_len (ea_cons (ev_var 1) ea_nil) h.f_len bo_len)) eas_nil)))) eas_nil)))) (fun third_5 => (es_ret (ev_call (ok__law_two_right h) (fun _ _ _ _ _ _ us hl => match us, hl with | [_, _, _], _ => rfl) (eas_cons (e1_v 0) (eas_cons (e1_d (ev_var 1)) (eas_cons (e1_d (ev_var 5)) eas_nil))))))))))))))))))
  · exact es_err

theorem ok_law {G : Glb} (h : GOk G) : FnD G 14 "law" (top 51) ["script"] (spF G 1 m_law) := by
  obtain ⟨fa, fd, hm, FD⟩ := h.d_law
  refine fn_ok (N := ["script", "k"]) FD hm (C8.fnScope_by (by decide +kernel)) fun as hl => ?_
  clear hl
  unfold m_law
  split
  · rename_i v_script
    exact (es_ret (ev_callB cd_all (ea_cons ((el_lc (ec_lc1 1 (ei_rng1 (ea_cons (ev_callB cd_max2 (ea_cons ev_int (ea_cons (ev_callB cd_min2 (ea_cons ev_int (ea_cons (ev_lenS 0 rfl h.f_len) ea_nil)) h.f_min bo_min) ea_nil)) h.f_max bo_max) ea_nil) h.f_range) (by decide +kernel) (hc := fun k_1 => ets_nil) (he := fun k_1 => (ev_callPot (ok__law_right h) (fun _ _ _ _ _ _ us hl => match us, hl with | [_], _ => rfl) (el_call (ok__law_pot h) (fun _ _ _ _ _ _ us hl => match us, hl with | [_, _], _ => rfl) (eas_cons (e1_v 0) (eas_cons (e1_d (ev_var 1)) eas_nil))) eas_nil))))).toE ea_nil) h.f_all bo_all))
  · exact es_err

end Ev


set_option Elab.async false
set_option linter.all false
set_option autoImplicit false
set_option maxRecDepth 100000
set_option maxHeartbeats 8000000
namespace Ev
open PySem PySem.Spec L2 LamX PyProof.Rows
section
variable {n : Nat} {a b r s u e : Nat → Nat → Bool}
def goN (n : Nat) (a u : Nat → Nat → Bool) : Nat → Nat → Nat → Bool
  | 0 => a
  | k + 1 => rThen n (goN n a u k) u
def Shut (n : Nat) (u : Nat → Nat → Bool) (p : Nat → Bool) : Prop := ∀ z, z < n → ∀ j, j < n → p z = true → u z j = true → p j = true
theorem rowS {k : Nat} {p : Nat → Bool} : row (k + 1) p = row k p ++ (if p k = true then [k] else []) := by
  unfold row
  rw [List.range_succ, List.filter_append]
  cases h : p k <;> simp [List.filter, h]
theorem row_le {p q : Nat → Bool} : ∀ {n : Nat}, (∀ i, i < n → p i = true → q i = true) → (row n p).length ≤ (row n q).length
  | 0, _ => Nat.le_refl _
  | n + 1, h => by
    have g := row_le (n := n) fun i hi => h i (by omega)
    have t := h n (by omega)
    rw [rowS, rowS, List.length_append, List.length_append]
    cases hp : p n <;> cases hq : q n <;> simp_all <;> omega
theorem row_lt {p q : Nat → Bool} : ∀ {n : Nat}, (∀ i, i < n → p i = true → q i = true) → (∃ j, j < n ∧ q j = true ∧ p j = false) → (row n p).length < (row n q).length
  | 0, _, h => by obtain ⟨j, h, _⟩ := h; omega
  | n + 1, h, h2 => by
    obtain ⟨j, hj, hq, hp⟩ := h2
    have t := h n (by omega)
    rw [rowS, rowS, List.length_append, List.length_append]
    by_cases hjn : j = n
    · subst hjn
      have g := row_le (n := j) fun i hi => h i (by omega)
      rw [hp, hq]
      simp
      omega
    · have g := row_lt (n := n) (fun i hi => h i (by omega)) ⟨j, by omega, hq, hp⟩
      cases hp : p n <;> cases hq : q n <;> simp_all <;> omega
theorem go_up (hu : ∀ i, i < n → u i i = true) {k i j : Nat} (hj : j < n) (h : goN n a u k i j = true) : goN n a u (k + 1) i j = true := rThen_iff.mpr ⟨j, hj, h, hu j hj⟩
theorem go_base (hu : ∀ i, i < n → u i i = true) {i j : Nat} (hj : j < n) (h : a i j = true) : ∀ k, goN n a u k i j = true
  | 0 => h
  | k + 1 => go_up hu hj (go_base hu hj h k)
theorem go_cnt (ha : ∀ i, i < n → a i i = true) (hu : ∀ i, i < n → u i i = true) {i : Nat} (hi : i < n) : ∀ k, Shut n u (goN n a u k i) ∨ k + 1 ≤ (row n (goN n a u k i)).length
  | 0 => .inr (by
    have := row_lt (n := n) (p := fun _ => false) (q := a i) (fun _ _ h => nomatch h) ⟨i, hi, ha i hi, rfl⟩
    show 0 + 1 ≤ (row n (a i)).length
    omega)
  | k + 1 => by
    rcases go_cnt ha hu hi k with h | h
    · left
      intro z hz j hj p q
      obtain ⟨y, hy, p1, p2⟩ := rThen_iff.mp p
      exact rThen_iff.mpr ⟨z, hz, h y hy z hz p1 p2, q⟩
    · by_cases c : Shut n u (goN n a u k i)
      · left
        intro z hz j hj p q
        obtain ⟨y, hy, p1, p2⟩ := rThen_iff.mp p
        exact rThen_iff.mpr ⟨z, hz, c y hy z hz p1 p2, q⟩
      · right
        have : ∃ j, j < n ∧ goN n a u (k + 1) i j = true ∧ goN n a u k i j = false := Classical.byContradiction fun w => c fun z hz j hj p q => by
          cases hh : goN n a u k i j with
          | true => rfl
          | false => exact absurd ⟨j, hj, rThen_iff.mpr ⟨z, hz, p, q⟩, hh⟩ w
        have := row_lt (n := n) (p := goN n a u k i) (q := goN n a u (k + 1) i) (fun j hj h => go_up hu hj h) this
        omega
theorem go_shut (ha : ∀ i, i < n → a i i = true) (hu : ∀ i, i < n → u i i = true) {i : Nat} (hi : i < n) : Shut n u (goN n a u n i) := by
  rcases go_cnt ha hu hi n with h | h
  · exact h
  · have : (row n (goN n a u n i)).length ≤ n := row_len
    omega
theorem go_least {S : Nat → Bool} {i : Nat} (h1 : ∀ j, j < n → a i j = true → S j = true) (h2 : Shut n u S) : ∀ k j, j < n → goN n a u k i j = true → S j = true
  | 0, j, hj, h => h1 j hj h
  | k + 1, j, hj, h => by
    obtain ⟨z, hz, p, q⟩ := rThen_iff.mp h
    exact h2 z hz j hj (go_least h1 h2 k z hz p) q
def eith (n : Nat) (a b : Nat → Nat → Bool) : Nat → Nat → Bool := goN n a (fun i j => b i j || a i j) n
theorem or_refl (ha : Eqv n a) : ∀ i, i < n → (b i i || a i i) = true := fun i hi => by rw [ha.refl i hi, Bool.or_true]
theorem eith_a (ha : Eqv n a) {i j : Nat} (hj : j < n) (h : a i j = true) : eith n a b i j = true := go_base (u := fun i j => b i j || a i j) (or_refl ha) hj h n
theorem eith_shut (ha : Eqv n a) {i : Nat} (hi : i < n) : Shut n (fun i j => b i j || a i j) (eith n a b i) := go_shut ha.refl (or_refl ha) hi
theorem eith_least {S : Nat → Bool} {i : Nat} (h1 : ∀ j, j < n → a i j = true → S j = true) (h2 : Shut n (fun i j => b i j || a i j) S) {j : Nat} (hj : j < n) (h : eith n a b i j = true) : S j = true := go_least h1 h2 n j hj h
theorem or_symm (ha : Eqv n a) (hb : Eqv n b) {i j : Nat} (hi : i < n) (hj : j < n) (h : (b i j || a i j) = true) : (b j i || a j i) = true := by
  rcases Bool.or_eq_true _ _ ▸ h with h | h
  · rw [hb.symm i hi j hj h, Bool.true_or]
  · rw [ha.symm i hi j hj h, Bool.or_true]
theorem eith_trans (ha : Eqv n a) {i j k : Nat} (hi : i < n) (hj : j < n) (hk : k < n) (h1 : eith n a b i j = true) (h2 : eith n a b j k = true) : eith n a b i k = true :=
  eith_least (S := eith n a b i) (fun z hz q => eith_shut ha hi j hj z hz h1 (by show (b j z || a j z) = true; rw [q, Bool.or_true])) (eith_shut ha hi) hk h2
theorem eqv_eith (ha : Eqv n a) (hb : Eqv n b) : Eqv n (eith n a b) :=
  ⟨fun i hi => eith_a ha hi (ha.refl i hi), fun i hi j hj h => eith_least (S := fun z => eith n a b z i) (fun z hz q => eith_a ha hi (ha.symm i hi z hz q)) (fun z hz k hk p q => eith_trans ha hk hz hi (eith_shut ha hk k hk z hz (eith_a ha hk (ha.refl k hk)) (or_symm ha hb hz hk q)) p) hj h, fun i hi j hj k hk => eith_trans ha hi hj hk⟩
theorem then_flip (ha : Eqv n a) (hb : Eqv n b) {i j : Nat} (hi : i < n) (hj : j < n) : rThen n b a i j = rThen n a b j i := beq_of (by
  rw [rThen_iff, rThen_iff]
  exact ⟨fun ⟨k, hk, p, q⟩ => ⟨k, hk, ha.symm k hk j hj q, hb.symm i hi k hk p⟩, fun ⟨k, hk, p, q⟩ => ⟨k, hk, hb.symm k hk i hi q, ha.symm j hj k hk p⟩⟩)
abbrev dueB (n : Nat) (a b : Nat → Nat → Bool) : Bool := rEq n (rThen n a b) (rThen n b a)
theorem then_eith (ha : Eqv n a) {i j : Nat} (hi : i < n) (hj : j < n) (h : rThen n a b i j = true) : eith n a b i j = true := by
  obtain ⟨k, hk, p, q⟩ := rThen_iff.mp h
  exact eith_shut ha hi k hk j hj (eith_a ha hk p) (by show (b k j || a k j) = true; rw [q, Bool.true_or])
theorem then_shut (ha : Eqv n a) (hb : Eqv n b) (h : dueB n a b = true) {i : Nat} (hi : i < n) : Shut n (fun i j => b i j || a i j) (rThen n a b i) := fun z hz j hj p q => by
  have d := rEq_iff.mp h
  rcases Bool.or_eq_true _ _ ▸ q with q | q
  · obtain ⟨k, hk, p1, p2⟩ := rThen_iff.mp p
    exact rThen_iff.mpr ⟨k, hk, p1, hb.trans k hk z hz j hj p2 q⟩
  · rw [d i hi z hz] at p
    obtain ⟨k, hk, p1, p2⟩ := rThen_iff.mp p
    rw [d i hi j hj]
    exact rThen_iff.mpr ⟨k, hk, p1, ha.trans k hk z hz j hj p2 q⟩
theorem then_a (hb : Eqv n b) {i j : Nat} (hj : j < n) (h : a i j = true) : rThen n a b i j = true := rThen_iff.mpr ⟨j, hj, h, hb.refl j hj⟩
theorem eith_due (ha : Eqv n a) (hb : Eqv n b) (h : dueB n a b = true) {i j : Nat} (hi : i < n) (hj : j < n) : eith n a b i j = rThen n a b i j := beq_of ⟨fun p => eith_least (S := rThen n a b i) (fun z hz q => then_a hb hz q) (then_shut ha hb h hi) hj p, then_eith ha hi hj⟩
theorem due_of (ha : Eqv n a) (hb : Eqv n b) (h : ∀ i, i < n → ∀ j, j < n → eith n a b i j = true → rThen n a b i j = true) : dueB n a b = true := rEq_iff.mpr fun i hi j hj => by
  have e := eqv_eith ha hb
  rw [then_flip ha hb hi hj]
  exact beq_of ⟨fun p => h j hj i hi (e.symm i hi j hj (then_eith ha hi hj p)), fun p => h i hi j hj (e.symm j hj i hi (then_eith ha hj hi p))⟩
theorem due_eith (ha : Eqv n a) (hb : Eqv n b) : rEq n (rThen n a b) (eith n a b) = dueB n a b := beq_of ⟨fun h => due_of ha hb fun i hi j hj p => by rw [rEq_iff.mp h i hi j hj]; exact p, fun h => rEq_iff.mpr fun i hi j hj => (eith_due ha hb h hi hj).symm⟩
def meetB (n : Nat) (a b e : Nat → Nat → Bool) : Bool := (List.range n).all fun i => (row n (e i)).all fun j => (row n (a i)).any fun k => b j k
theorem due_meet (ha : Eqv n a) (hb : Eqv n b) : meetB n a b (eith n a b) = dueB n a b := by
  have z : meetB n a b (eith n a b) = true ↔ ∀ i, i < n → ∀ j, j < n → eith n a b i j = true → rThen n a b i j = true := by
    unfold meetB
    rw [List.all_eq_true]
    refine ⟨fun h i hi j hj p => ?_, fun h i hi => List.all_eq_true.mpr fun j hj => ?_⟩
    · obtain ⟨k, hk, q⟩ := List.any_eq_true.mp (List.all_eq_true.mp (h i (List.mem_range.mpr hi)) j (row_in.mpr ⟨hj, p⟩))
      obtain ⟨hk, w⟩ := row_in.mp hk
      exact rThen_iff.mpr ⟨k, hk, w, hb.symm j hj k hk q⟩
    · obtain ⟨hj, p⟩ := row_in.mp hj
      obtain ⟨k, hk, q, w⟩ := rThen_iff.mp (h i (List.mem_range.mp hi) j hj p)
      exact List.any_eq_true.mpr ⟨k, row_in.mpr ⟨hk, q⟩, hb.symm k hk j hj w⟩
  exact beq_of ⟨fun h => due_of ha hb (z.mp h), fun h => z.mpr fun i hi j hj p => by rw [← eith_due ha hb h hi hj]; exact p⟩
def barsN (n : Nat) (a b : Nat → Nat → Bool) : List (List Nat) := (List.range n).flatMap fun i => (row n (a i)).flatMap fun k => ((row n (b k)).filter fun j => !rThen n b a i j).map fun j => [i, k, j]
theorem bars_mem {l : List Nat} : l ∈ barsN n a b ↔ ∃ i k j, l = [i, k, j] ∧ i < n ∧ k < n ∧ j < n ∧ a i k = true ∧ b k j = true ∧ rThen n b a i j = false := by
  unfold barsN
  simp only [List.mem_flatMap, List.mem_map, List.mem_filter, List.mem_range, row_in, Bool.not_eq_true']
  constructor
  · rintro ⟨i, hi, k, ⟨hk, p⟩, j, ⟨⟨hj, q⟩, w⟩, e⟩
    exact ⟨i, k, j, e.symm, hi, hk, hj, p, q, w⟩
  · rintro ⟨i, k, j, e, hi, hk, hj, p, q, w⟩
    exact ⟨i, hi, k, ⟨hk, p⟩, j, ⟨⟨hj, q⟩, w⟩, e.symm⟩
theorem bars_due (ha : Eqv n a) (hb : Eqv n b) : barsN n a b = [] ↔ dueB n a b = true := by
  rw [List.eq_nil_iff_forall_not_mem]
  constructor
  · intro h
    have g : ∀ i, i < n → ∀ j, j < n → rThen n a b i j = true → rThen n b a i j = true := fun i hi j hj p => by
      obtain ⟨k, hk, q, w⟩ := rThen_iff.mp p
      cases hh : rThen n b a i j with
      | true => rfl
      | false => exact absurd (bars_mem.mpr ⟨i, k, j, rfl, hi, hk, hj, q, w, hh⟩) (h _)
    exact rEq_iff.mpr fun i hi j hj => beq_of ⟨g i hi j hj, fun p => by
      rw [then_flip ha hb hi hj] at p
      have := g j hj i hi p
      rw [then_flip ha hb hj hi] at this
      exact this⟩
  · intro h l hl
    obtain ⟨i, k, j, _, hi, hk, hj, p, q, w⟩ := bars_mem.mp hl
    have := rThen_iff.mpr ⟨k, hk, p, q⟩
    rw [rEq_iff.mp h i hi j hj, w] at this
    cases this
theorem bars_len (hn : n ≤ 6) : (barsN n a b).length ≤ 1000 := by
  have h1 : ∀ i k, (((row n (b k)).filter fun j => !rThen n b a i j).map fun j => [i, k, j]).length ≤ 6 := fun i k => by
    rw [List.length_map]
    exact Nat.le_trans (List.length_filter_le _ _) (Nat.le_trans row_len hn)
  have aux : ∀ (m : Nat) (g : Nat → List (List Nat)) (l : List Nat), (∀ a ∈ l, (g a).length ≤ m) → (l.flatMap g).length ≤ l.length * m := fun m g l => by
    induction l with
    | nil => intro _; simp
    | cons x l ih =>
      intro h
      have h1 := h x List.mem_cons_self
      have h2 := ih fun a ha => h a (List.mem_cons_of_mem _ ha)
      rw [List.flatMap_cons, List.length_append, List.length_cons, Nat.succ_mul]
      omega
  have h2 : ∀ i, ((row n (a i)).flatMap fun k => ((row n (b k)).filter fun j => !rThen n b a i j).map fun j => [i, k, j]).length ≤ 36 := fun i => by
    have := aux 6 (fun k => ((row n (b k)).filter fun j => !rThen n b a i j).map fun j => [i, k, j]) (row n (a i)) fun k _ => h1 i k
    have : (row n (a i)).length ≤ n := row_len
    omega
  have := aux 36 (fun i => (row n (a i)).flatMap fun k => ((row n (b k)).filter fun j => !rThen n b a i j).map fun j => [i, k, j]) (List.range n) fun i _ => h2 i
  rw [List.length_range] at this
  unfold barsN
  omega
theorem due_finer (ha : Eqv n a) (hb : Eqv n b) (h : rIn n a b = true) : dueB n a b = true := rEq_iff.mpr fun i hi j hj => by
  have h := rIn_iff.mp h
  refine beq_of ⟨fun p => ?_, fun p => ?_⟩
  · obtain ⟨k, hk, q, w⟩ := rThen_iff.mp p
    exact rThen_iff.mpr ⟨j, hj, hb.trans i hi k hk j hj (h i hi k hk q) w, ha.refl j hj⟩
  · obtain ⟨k, hk, q, w⟩ := rThen_iff.mp p
    exact rThen_iff.mpr ⟨i, hi, ha.refl i hi, hb.trans i hi k hk j hj q (h k hk j hj w)⟩
theorem due_swap (ha : Eqv n a) (hb : Eqv n b) : dueB n b a = dueB n a b := beq_of ⟨fun h => rEq_iff.mpr fun i hi j hj => (rEq_iff.mp h i hi j hj).symm, fun h => rEq_iff.mpr fun i hi j hj => (rEq_iff.mp h i hi j hj).symm⟩
end
/-- a loop that ends -/
theorem v_while {S : Type} {c : S → M Bool} {f : S → M S} (J : Nat → S → Prop) (P : S → Prop) (h : ∀ m s, J m s → (c s = .ok false ∧ P s) ∨ (c s = .ok true ∧ ∃ s' m', m' < m ∧ f s = .ok s' ∧ J m' s')) : ∀ (k m : Nat) (s : S), m < k → J m s → ∃ s', whileS k s c f = .ok s' ∧ P s'
  | 0, _, _, hk, _ => absurd hk (Nat.not_lt_zero _)
  | k + 1, m, s, hk, hj => by
    rcases h m s hj with ⟨e, p⟩ | ⟨e, s', m', hm, e2, j⟩
    · exact ⟨s, by rw [whileS, e]; rfl, p⟩
    · obtain ⟨s2, e3, p⟩ := v_while J P h k m' s' (by omega) j
      exact ⟨s2, by rw [whileS, e, m_ok, if_pos rfl, e2, m_ok, e3], p⟩
theorem v_foldJ {α σ : Type} {e : α → PyData} {f : PyData → σ → M σ} (J : List α → σ → Prop) : ∀ (l d : List α) (s : σ), J d s → (∀ a ∈ l, ∀ d s, J d s → ∃ s', f (e a) s = .ok s' ∧ J (d ++ [a]) s') → ∃ s', foldL (l.map e) s f = .ok s' ∧ J (d ++ l) s'
  | [], d, s, hj, _ => ⟨s, rfl, by rw [List.append_nil]; exact hj⟩
  | a :: l, d, s, hj, h => by
    obtain ⟨s1, e1, j1⟩ := h a List.mem_cons_self d s hj
    obtain ⟨s2, e2, j2⟩ := v_foldJ J l (d ++ [a]) s1 j1 fun b hb => h b (List.mem_cons_of_mem _ hb)
    exact ⟨s2, by rw [List.map_cons, foldL, e1, m_ok, e2], by rw [List.append_assoc] at j2; exact j2⟩
end Ev

set_option Elab.async false
set_option linter.all false
set_option autoImplicit false
set_option maxRecDepth 100000
set_option maxHeartbeats 8000000
namespace Ev
open PySem PySem.Spec L2 LamX PyProof.Rows
theorem le_dI (a b : Nat) : decide (a ≤ b) = W.dataLe false id (dI a) (dI b) := by
  have h := congrFun (congrFun (W.dataLe_int (β := Nat) fun b => (b : Int)) a) b
  have h2 : W.dataLe false id (dI a) (dI b) = W.dataLe false (fun b : Nat => PyData.int (b : Int)) a b := rfl
  rw [h2, h]
  exact decide_eq_decide.mpr (by omega)
theorem sort_rise (K : List Nat) : (K.mergeSort fun a b => decide (a ≤ b)).Pairwise (· ≤ ·) := (List.pairwise_mergeSort (le := fun a b => decide (a ≤ b)) (fun a b c h1 h2 => by simp at *; omega) (fun a b => by simp; omega) K).imp fun h => of_decide_eq_true h
theorem sort_row {n : Nat} {K : List Nat} (nd : K.Nodup) (lt : ∀ k ∈ K, k < n) : (K.mergeSort fun a b => decide (a ≤ b)) = row n fun j => decide (j ∈ K) := by
  have p := List.mergeSort_perm K fun a b => decide (a ≤ b)
  have nd2 : (K.mergeSort fun a b => decide (a ≤ b)).Nodup := p.nodup_iff.mpr nd
  refine rising_nat ?_ (List.Pairwise.filter _ List.pairwise_lt_range) fun z => ?_
  · exact ((sort_rise K).and nd2).imp fun ⟨h1, h2⟩ => by omega
  · rw [p.mem_iff, row_in]
    exact ⟨fun h => ⟨lt z h, decide_eq_true h⟩, fun h => of_decide_eq_true h.2⟩
theorem nodup_le {n : Nat} {K : List Nat} (nd : K.Nodup) (lt : ∀ k ∈ K, k < n) : K.length ≤ n := by
  rw [← (List.mergeSort_perm K fun a b => decide (a ≤ b)).length_eq, sort_row nd lt]
  exact row_len
theorem sort_nat {n : Nat} {K : List Nat} (nd : K.Nodup) (lt : ∀ k ∈ K, k < n) (hn : n ≤ 1000) : bSorted [.list (K.map dI)] = .ok (.list ((row n fun j => decide (j ∈ K)).map dI)) := by
  have c : canSort (K.map dI) = true := by
    unfold canSort
    simp only [Bool.and_eq_true, Bool.or_eq_true, decide_eq_true_eq, List.all_eq_true]
    refine ⟨⟨⟨fun d hd e he => ?_, ?_⟩, ?_⟩, .inr fun d hd => ?_⟩
    · obtain ⟨a, _, rfl⟩ := List.mem_map.mp hd
      obtain ⟨b, _, rfl⟩ := List.mem_map.mp he
      rfl
    · have := depthAll_map dI 0 K fun j _ => by rw [PyData.depth]; exact Nat.le_refl _
      omega
    · rw [List.length_map, big_size]
      have := nodup_le nd lt
      omega
    · obtain ⟨a, _, rfl⟩ := List.mem_map.mp hd
      rfl
  rw [bSorted, if_pos c, dSort_eq, ← List.map_mergeSort (r := fun a b => decide (a ≤ b)) fun a _ b _ => le_dI a b, sort_row nd lt]
/-- a dict of lists of numbers by numbers -/
abbrev enc (F : List (Nat × List Nat)) : List (PyData × PyData) := F.map fun x => (dI x.1, PyData.list (x.2.map dI))
abbrev keysF (F : List (Nat × List Nat)) : List Nat := F.map Prod.fst
theorem key_dI {α : Type} {k : Nat} {f : L2.Key → M α} : withKey (dI k) f = f (.inl (k : Int)) := by rfl
theorem key_eq {j k : Nat} : keyOf (dI j) = some (.inl (k : Int)) ↔ j = k := by
  show some (Sum.inl (j : Int)) = some (Sum.inl (k : Int)) ↔ j = k
  constructor
  · intro h
    injection h with h
    injection h with h
    omega
  · rintro rfl; rfl
theorem dget_some {k : Nat} : ∀ {F : List (Nat × List Nat)}, k ∈ keysF F → ∃ l, (k, l) ∈ F ∧ dGet (enc F) (.inl (k : Int)) = some (.list (l.map dI))
  | [], h => nomatch h
  | (j, l) :: F, h => by
    rw [enc, List.map_cons, dGet]
    by_cases e : j = k
    · subst e
      exact ⟨l, List.mem_cons_self, if_pos (key_eq.mpr rfl)⟩
    · rw [if_neg (fun w => e (key_eq.mp w))]
      rcases List.mem_cons.mp h with h | h
      · exact absurd h.symm e
      · obtain ⟨l2, m, g⟩ := dget_some h
        exact ⟨l2, List.mem_cons_of_mem _ m, g⟩
theorem dget_none {k : Nat} : ∀ {F : List (Nat × List Nat)}, k ∉ keysF F → dGet (enc F) (.inl (k : Int)) = none
  | [], h => rfl
  | (j, l) :: F, h => by
    rw [enc, List.map_cons, dGet, if_neg (fun w => h (by rw [← key_eq.mp w]; exact List.mem_cons_self))]
    exact dget_none fun w => h (List.mem_cons_of_mem _ w)
theorem dget_in {k : Nat} {F : List (Nat × List Nat)} : (dGet (enc F) (.inl (k : Int))).isSome = decide (k ∈ keysF F) := by
  by_cases h : k ∈ keysF F
  · obtain ⟨l, _, e⟩ := dget_some h
    rw [e, decide_eq_true h]; rfl
  · rw [dget_none h, decide_eq_false h]; rfl
theorem dput_new {k : Nat} {l : List Nat} {F : List (Nat × List Nat)} (h : k ∉ keysF F) : dPut (enc F) (.inl (k : Int)) (.list (l.map dI)) = enc (F ++ [(k, l)]) := by
  unfold dPut
  rw [if_neg]
  · rw [enc, enc, List.map_append]; rfl
  · rw [dHas, List.any_eq_true]
    rintro ⟨p, hp, e⟩
    obtain ⟨⟨j, l2⟩, hj, rfl⟩ := List.mem_map.mp hp
    exact h (by rw [← key_eq.mp (of_decide_eq_true e)]; exact List.mem_map.mpr ⟨_, hj, rfl⟩)
theorem keys_enc {F : List (Nat × List Nat)} : bKeys (.dict (enc F)) = .ok (.list ((keysF F).map dI)) := by
  rw [bKeys, enc, List.map_map, keysF, List.map_map]; rfl
end Ev

set_option Elab.async false
set_option linter.all false
set_option autoImplicit false
set_option maxRecDepth 100000
set_option maxHeartbeats 8000000
namespace Ev
open PySem PySem.Spec L2 LamX PyProof.Rows
structure Mid (n : Nat) (S : Nat → Bool) (F0 F : List (Nat × List Nat)) (late : List Nat) : Prop where
  nd : (keysF F).Nodup
  lt : ∀ k ∈ keysF F, k < n ∧ S k = true
  ln : ∀ x ∈ F, x.2.length ≤ F.length + 1
  old : ∀ k ∈ keysF F0, k ∈ keysF F
  new : ∀ k ∈ keysF F, k ∈ keysF F0 ∨ k ∈ late
  lat : ∀ k ∈ late, k ∈ keysF F
  sz : F.length = F0.length + late.length
section
variable {n : Nat} {w : Nat → Nat → Bool} {S : Nat → Bool} {i : Nat}
theorem Mid.len {F0 F : List (Nat × List Nat)} {late : List Nat} (h : Mid n S F0 F late) : F.length ≤ n := by
  have := nodup_le h.nd fun k hk => (h.lt k hk).1
  rw [keysF, List.length_map] at this
  exact this
theorem mid_step {F0 F : List (Nat × List Nat)} {late : List Nat} (h : Mid n S F0 F late) {o : Nat} (ho : o < n) (hs : S o = true) (hk : o ∉ keysF F) {l : List Nat} (hl : l.length ≤ F.length + 2) : Mid n S F0 (F ++ [(o, l)]) (late ++ [o]) := by
  have e : keysF (F ++ [(o, l)]) = keysF F ++ [o] := by rw [keysF, List.map_append]; rfl
  refine ⟨?_, ?_, ?_, ?_, ?_, ?_, ?_⟩
  · rw [e, List.nodup_append]
    exact ⟨h.nd, List.nodup_cons.mpr ⟨List.not_mem_nil, List.nodup_nil⟩, fun a ha b hb => by
      rw [List.mem_singleton] at hb
      subst hb
      exact fun w => hk (w ▸ ha)⟩
  · intro k hk
    rw [e, List.mem_append, List.mem_singleton] at hk
    rcases hk with hk | hk
    · exact h.lt k hk
    · rw [hk]; exact ⟨ho, hs⟩
  · intro x hx
    rw [List.length_append]
    rw [List.mem_append, List.mem_singleton] at hx
    rcases hx with hx | hx
    · have := h.ln x hx
      simp
      omega
    · rw [hx]; simp; omega
  · intro k hk
    rw [e]
    exact List.mem_append_left _ (h.old k hk)
  · intro k hk
    rw [e, List.mem_append, List.mem_singleton] at hk
    rcases hk with hk | hk
    · exact (h.new k hk).imp id fun z => List.mem_append_left _ z
    · exact .inr (by rw [hk]; exact List.mem_append_right _ List.mem_cons_self)
  · intro k hk
    rw [e]
    rcases List.mem_append.mp hk with hk | hk
    · exact List.mem_append_left _ (h.lat k hk)
    · exact List.mem_append_right _ hk
  · rw [List.length_append, List.length_append, h.sz]; simp; omega
/-- the state between rounds -/
structure Big (n : Nat) (w : Nat → Nat → Bool) (S : Nat → Bool) (i : Nat) (F : List (Nat × List Nat)) (last : List Nat) : Prop where
  nd : (keysF F).Nodup
  lt : ∀ k ∈ keysF F, k < n ∧ S k = true
  ln : ∀ x ∈ F, x.2.length ≤ F.length + 1
  la : ∀ h ∈ last, h < n ∧ (h = i ∨ h ∈ keysF F)
  cl : ∀ z, z = i ∨ z ∈ keysF F → z ∈ last ∨ ∀ o, o < n → w z o = true → o ∈ keysF F
theorem Big.mid {F : List (Nat × List Nat)} {last : List Nat} (h : Big n w S i F last) : Mid n S F F [] := ⟨h.nd, h.lt, h.ln, fun _ h => h, fun _ h => .inl h, (fun _ h => nomatch h), by simp⟩
theorem big_next {F0 F : List (Nat × List Nat)} {last late : List Nat} (h : Big n w S i F0 last) (m : Mid n S F0 F late) (d : ∀ z ∈ last, ∀ o, o < n → w z o = true → o ∈ keysF F) : Big n w S i F late := by
  refine ⟨m.nd, m.lt, m.ln, fun z hz => ⟨(m.lt z (m.lat z hz)).1, .inr (m.lat z hz)⟩, fun z hz => ?_⟩
  have old : z = i ∨ z ∈ keysF F0 → z ∈ late ∨ ∀ o, o < n → w z o = true → o ∈ keysF F := fun q => by
    rcases h.cl z q with c | c
    · exact .inr (d z c)
    · exact .inr fun o ho p => m.old o (c o ho p)
  rcases hz with hz | hz
  · exact old (.inl hz)
  · rcases m.new z hz with q | q
    · exact old (.inr q)
    · exact .inl q
theorem big_end {F : List (Nat × List Nat)} (h : Big n w S i F []) : (∀ j, j < n → w i j = true → j ∈ keysF F) ∧ ∀ z, z ∈ keysF F → ∀ j, j < n → w z j = true → j ∈ keysF F :=
  ⟨(h.cl i (.inl rfl)).resolve_left List.not_mem_nil, fun z hz => (h.cl z (.inr hz)).resolve_left List.not_mem_nil⟩
end
end Ev

set_option Elab.async false
set_option linter.all false
set_option autoImplicit false
set_option maxRecDepth 100000
set_option maxHeartbeats 8000000
namespace Ev
open PySem PySem.Spec L2 LamX PyProof.Rows
def lastN (l : List Nat) : Nat := l.getLast?.getD 0
theorem last_app {r : List Nat} {t : Nat} : lastN (r ++ [t]) = t := by simp [lastN]
theorem last_one {t : Nat} : lastN [t] = t := rfl
def extL (n : Nat) (u : Nat → Nat → Bool) (L : List (List Nat)) : List (List Nat) := L.flatMap fun r => ((List.range n).filter fun t => !decide (t ∈ r) && u (lastN r) t).map fun t => r ++ [t]
def extB (n : Nat) (u : Nat → Nat → Bool) (L : List (List Nat)) : List (List Nat) := L.flatMap fun r => (row n (u (lastN r))).map fun t => r ++ [t]
def firsts (S : Nat → Bool) : List (List Nat) → List (List Nat)
  | [] => []
  | r :: L => if S (lastN r) = true then firsts S L else r :: firsts (fun x => S x || x == lastN r) L
def after (S : Nat → Bool) (L : List (List Nat)) : Nat → Bool := fun x => S x || L.any fun r => x == lastN r
theorem after_nil {S : Nat → Bool} : after S [] = S := by funext x; simp [after]
theorem after_cons {S : Nat → Bool} {r : List Nat} {L : List (List Nat)} : after S (r :: L) = after (fun x => S x || x == lastN r) L := by
  funext x; simp [after, Bool.or_assoc]
theorem after_in {S : Nat → Bool} {r : List Nat} (h : S (lastN r) = true) : (fun x => S x || x == lastN r) = S := by
  funext x
  by_cases e : x = lastN r
  · rw [e, h]; rfl
  · have : (x == lastN r) = false := beq_eq_false_iff_ne.mpr e
    rw [this, Bool.or_false]
theorem after_app {S : Nat → Bool} {B : List (List Nat)} : ∀ {A : List (List Nat)}, after S (A ++ B) = after (after S A) B := fun {A} => by
  funext x; simp [after, Bool.or_assoc]
theorem firsts_app {B : List (List Nat)} : ∀ {A : List (List Nat)} {S : Nat → Bool}, firsts S (A ++ B) = firsts S A ++ firsts (after S A) B
  | [], S => by rw [after_nil]; rfl
  | r :: A, S => by
    rw [List.cons_append, firsts, firsts]
    by_cases h : S (lastN r) = true
    · rw [if_pos h, if_pos h, firsts_app, after_cons, after_in h]
    · rw [if_neg h, if_neg h, firsts_app, after_cons]; rfl
theorem firsts_none : ∀ {A : List (List Nat)} {S : Nat → Bool}, (∀ r ∈ A, S (lastN r) = true) → firsts S A = [] ∧ after S A = S
  | [], S, _ => ⟨rfl, after_nil⟩
  | r :: A, S, h => by
    have h1 := h r List.mem_cons_self
    obtain ⟨a, b⟩ := firsts_none (A := A) (S := S) fun q hq => h q (List.mem_cons_of_mem _ hq)
    exact ⟨by rw [firsts, if_pos h1, a], by rw [after_cons, after_in h1, b]⟩
theorem firsts_sub : ∀ {A : List (List Nat)} {S : Nat → Bool} {r : List Nat}, r ∈ firsts S A → r ∈ A
  | [], _, _, h => nomatch h
  | q :: A, S, r, h => by
    rw [firsts] at h
    split at h
    · exact List.mem_cons_of_mem _ (firsts_sub h)
    · rcases List.mem_cons.mp h with h | h
      · rw [h]; exact List.mem_cons_self
      · exact List.mem_cons_of_mem _ (firsts_sub h)
theorem find_firsts {late : Nat} : ∀ {A : List (List Nat)} {S : Nat → Bool}, S late = false → (firsts S A).find? (fun r => lastN r == late) = A.find? fun r => lastN r == late
  | [], _, _ => rfl
  | r :: A, S, h => by
    rw [firsts]
    by_cases h1 : S (lastN r) = true
    · have e : (lastN r == late) = false := beq_eq_false_iff_ne.mpr fun e => by rw [e, h] at h1; cases h1
      rw [if_pos h1, List.find?_cons, e, find_firsts h]
    · rw [if_neg h1, List.find?_cons, List.find?_cons]
      cases e : lastN r == late with
      | true => rfl
      | false =>
        refine find_firsts ?_
        show (S late || late == lastN r) = false
        rw [h, Bool.false_or, beq_eq_false_iff_ne]
        exact fun w => (beq_eq_false_iff_ne.mp e) w.symm
section
variable {n : Nat} {u : Nat → Nat → Bool}
theorem e_same {r : List Nat} {p : Nat → Bool} : ∀ {l : List Nat} {S : Nat → Bool}, (∀ t ∈ r, S t = true) → firsts S ((l.filter fun t => !decide (t ∈ r) && p t).map fun t => r ++ [t]) = firsts S ((l.filter p).map fun t => r ++ [t]) ∧ after S ((l.filter fun t => !decide (t ∈ r) && p t).map fun t => r ++ [t]) = after S ((l.filter p).map fun t => r ++ [t])
  | [], S, _ => ⟨rfl, rfl⟩
  | t :: l, S, h => by
    have S2 : ∀ t2 ∈ r, (S t2 || t2 == t) = true := fun t2 h2 => by rw [h t2 h2]; rfl
    rw [List.filter_cons, List.filter_cons]
    by_cases hp : p t = true
    · by_cases hr : t ∈ r
      · rw [hp, decide_eq_true hr]
        have hs : S (lastN (r ++ [t])) = true := by rw [last_app]; exact h t hr
        simp only [Bool.not_true, Bool.false_and, Bool.false_eq_true, if_false, if_true, List.map_cons]
        rw [firsts, if_pos hs, after_cons, after_in hs]
        exact e_same h
      · rw [hp, decide_eq_false hr]
        simp only [Bool.not_false, Bool.true_and, if_true, List.map_cons]
        rw [firsts, firsts, after_cons, after_cons, last_app]
        obtain ⟨a, b⟩ := e_same (p := p) (l := l) (S := S) h
        obtain ⟨c, d⟩ := e_same (p := p) (l := l) (S := fun x => S x || x == t) S2
        rw [a, c, d]
        exact ⟨rfl, rfl⟩
    · rw [Bool.not_eq_true] at hp
      rw [hp]
      simp only [Bool.and_false, Bool.false_eq_true, if_false]
      exact e_same h
theorem extL_cons {r : List Nat} {L : List (List Nat)} : extL n u (r :: L) = (((List.range n).filter fun t => !decide (t ∈ r) && u (lastN r) t).map fun t => r ++ [t]) ++ extL n u L := by
  rw [extL, List.flatMap_cons]; rfl
theorem extB_cons {r : List Nat} {L : List (List Nat)} : extB n u (r :: L) = ((row n (u (lastN r))).map fun t => r ++ [t]) ++ extB n u L := by
  rw [extB, List.flatMap_cons]; rfl
theorem ext_firsts : ∀ {L : List (List Nat)} {T S : Nat → Bool}, (∀ r ∈ L, ∀ x ∈ r, S x = true) → (∀ v, T v = true → ∀ t, t < n → u v t = true → S t = true) → firsts S (extB n u (firsts T L)) = firsts S (extL n u L) ∧ after S (extB n u (firsts T L)) = after S (extL n u L)
  | [], T, S, _, _ => ⟨rfl, rfl⟩
  | r :: L, T, S, h1, h2 => by
    rw [extL_cons, firsts_app, after_app, firsts]
    by_cases hT : T (lastN r) = true
    · rw [if_pos hT]
      obtain ⟨a, b⟩ := firsts_none (A := ((List.range n).filter fun t => !decide (t ∈ r) && u (lastN r) t).map fun t => r ++ [t]) (S := S) fun q hq => by
        obtain ⟨t, ht, rfl⟩ := List.mem_map.mp hq
        obtain ⟨ht, hq⟩ := List.mem_filter.mp ht
        rw [last_app]
        exact h2 _ hT t (List.mem_range.mp ht) (Bool.and_eq_true _ _ ▸ hq).2
      rw [a, b, List.nil_append]
      exact ext_firsts (fun q hq => h1 q (List.mem_cons_of_mem _ hq)) h2
    · rw [if_neg hT, extB_cons, firsts_app, after_app]
      obtain ⟨a, b⟩ := e_same (r := r) (p := u (lastN r)) (l := List.range n) (S := S) fun t ht => h1 r List.mem_cons_self t ht
      rw [a, b]
      obtain ⟨c, d⟩ := ext_firsts (L := L) (T := fun x => T x || x == lastN r) (S := after S ((row n (u (lastN r))).map fun t => r ++ [t])) (fun q hq x hx => by
        show (S x || _) = true
        rw [h1 q (List.mem_cons_of_mem _ hq) x hx]; rfl) fun v hv t ht q => by
        show (S t || _) = true
        rcases Bool.or_eq_true _ _ ▸ hv with hv | hv
        · rw [h2 v hv t ht q]; rfl
        · rw [eq_of_beq hv] at q
          rw [Bool.or_eq_true]
          right
          exact List.any_eq_true.mpr ⟨_, List.mem_map.mpr ⟨t, row_in.mpr ⟨ht, q⟩, rfl⟩, by rw [last_app]; exact beq_self_eq_true t⟩
      exact ⟨congrArg _ c, d⟩
def chainL (n : Nat) (u : Nat → Nat → Bool) (late : Nat) : Nat → List (List Nat) → Option (List Nat)
  | 0, _ => none
  | t + 1, L => match L.find? fun r => lastN r == late with
    | some r => some r
    | none => chainL n u late t (extL n u L)
def chainB (n : Nat) (u : Nat → Nat → Bool) (late : Nat) : Nat → (Nat → Bool) → List (List Nat) → Option (List Nat)
  | 0, _, _ => none
  | t + 1, S, B => match B.find? fun r => lastN r == late with
    | some r => some r
    | none => chainB n u late t (after S (extB n u B)) (firsts S (extB n u B))
/-- what is seen holds what the rows show -/
structure Seen (n : Nat) (u : Nat → Nat → Bool) (T : Nat → Bool) (L : List (List Nat)) : Prop where
  own : ∀ r ∈ L, ∀ x ∈ r, after T L x = true
  nxt : ∀ v, T v = true → ∀ t, t < n → u v t = true → after T L t = true
theorem seen_next {T : Nat → Bool} {L : List (List Nat)} (h : Seen n u T L) : Seen n u (after T L) (extL n u L) :=
  ⟨fun r hr x hx => by
    obtain ⟨q, hq, hr⟩ := List.mem_flatMap.mp hr
    obtain ⟨t, ht, rfl⟩ := List.mem_map.mp hr
    show (after T L x || _) = true
    rcases List.mem_append.mp hx with hx | hx
    · rw [h.own q hq x hx]; rfl
    · rw [List.mem_singleton.mp hx, Bool.or_eq_true]
      right
      exact List.any_eq_true.mpr ⟨_, List.mem_flatMap.mpr ⟨q, hq, List.mem_map.mpr ⟨t, ht, rfl⟩⟩, by rw [last_app]; exact beq_self_eq_true t⟩,
  fun v hv t ht q => by
    show (after T L t || _) = true
    rcases Bool.or_eq_true _ _ ▸ hv with hv | hv
    · rw [h.nxt v hv t ht q]; rfl
    · obtain ⟨r, hr, e⟩ := List.any_eq_true.mp hv
      rw [eq_of_beq e] at q
      by_cases hm : t ∈ r
      · rw [h.own r hr t hm]; rfl
      · rw [Bool.or_eq_true]
        right
        exact List.any_eq_true.mpr ⟨_, List.mem_flatMap.mpr ⟨r, hr, List.mem_map.mpr ⟨t, List.mem_filter.mpr ⟨List.mem_range.mpr ht, by rw [decide_eq_false hm, q]; rfl⟩, rfl⟩⟩, by rw [last_app]; exact beq_self_eq_true t⟩⟩
theorem after_not {T : Nat → Bool} {L : List (List Nat)} {late : Nat} (h : T late = false) (h2 : L.find? (fun r => lastN r == late) = none) : after T L late = false := by
  show (T late || _) = false
  rw [h, Bool.false_or]
  have := List.find?_eq_none.mp h2
  cases e : L.any fun r => late == lastN r with
  | false => rfl
  | true =>
    obtain ⟨r, hr, e⟩ := List.any_eq_true.mp e
    exact absurd (beq_iff_eq.mpr (eq_of_beq e).symm) (this r hr)
theorem chain_eq {late : Nat} : ∀ {t : Nat} {L : List (List Nat)} {T : Nat → Bool}, Seen n u T L → T late = false → chainB n u late t (after T L) (firsts T L) = chainL n u late t L
  | 0, _, _, _, _ => rfl
  | t + 1, L, T, h, hT => by
    rw [chainB, chainL, find_firsts hT]
    cases e : L.find? fun r => lastN r == late with
    | some r => rfl
    | none =>
      dsimp only
      obtain ⟨a, b⟩ := ext_firsts (L := L) (T := T) (S := after T L) h.own h.nxt
      rw [a, b]
      exact chain_eq (seen_next h) (after_not hT e)
theorem chainB_nil {late : Nat} : ∀ {t : Nat} {S : Nat → Bool}, chainB n u late t S [] = none
  | 0, _ => rfl
  | t + 1, S => by
    rw [chainB]
    exact chainB_nil
/-- a walk that meets no thing twice -/
inductive Wk (n : Nat) (u : Nat → Nat → Bool) (i : Nat) : List Nat → Prop
  | one : Wk n u i [i]
  | snoc {r : List Nat} {t : Nat} : Wk n u i r → t < n → t ∉ r → u (lastN r) t = true → Wk n u i (r ++ [t])
theorem Wk.lt {i : Nat} (hi : i < n) {r : List Nat} (h : Wk n u i r) : ∀ x ∈ r, x < n := by
  induction h with
  | one => intro x hx; rw [List.mem_singleton.mp hx]; exact hi
  | snoc _ ht _ _ ih =>
    intro x hx
    rcases List.mem_append.mp hx with hx | hx
    · exact ih x hx
    · rw [List.mem_singleton.mp hx]; exact ht
theorem Wk.nd {i : Nat} {r : List Nat} (h : Wk n u i r) : r.Nodup := by
  induction h with
  | one => exact List.nodup_cons.mpr ⟨List.not_mem_nil, List.nodup_nil⟩
  | snoc _ _ hm _ ih =>
    rw [List.nodup_append]
    exact ⟨ih, List.nodup_cons.mpr ⟨List.not_mem_nil, List.nodup_nil⟩, fun a ha b hb => by
      rw [List.mem_singleton] at hb
      subst hb
      exact fun w => hm (w ▸ ha)⟩
def itL (n : Nat) (u : Nat → Nat → Bool) : Nat → List (List Nat) → List (List Nat)
  | 0, L => L
  | k + 1, L => itL n u k (extL n u L)
/-- the rows of a round -/
def Lev (n : Nat) (u : Nat → Nat → Bool) (i k : Nat) (L : List (List Nat)) : Prop := ∀ r ∈ L, Wk n u i r ∧ r.length = k + 1
theorem lev_next {i k : Nat} {L : List (List Nat)} (h : Lev n u i k L) : Lev n u i (k + 1) (extL n u L) := fun r hr => by
  obtain ⟨q, hq, hr⟩ := List.mem_flatMap.mp hr
  obtain ⟨t, ht, rfl⟩ := List.mem_map.mp hr
  obtain ⟨ht, hp⟩ := List.mem_filter.mp ht
  obtain ⟨w, l⟩ := h q hq
  have hp := Bool.and_eq_true _ _ ▸ hp
  have h1 : ¬ t ∈ q := of_decide_eq_false (Bool.not_eq_true' _ ▸ hp.1)
  exact ⟨.snoc w (List.mem_range.mp ht) h1 hp.2, by rw [List.length_append, l]; rfl⟩
theorem chainL_some {i late : Nat} : ∀ {t k : Nat} {L : List (List Nat)} {r : List Nat}, Lev n u i k L → chainL n u late t L = some r → Wk n u i r ∧ lastN r = late
  | 0, _, _, _, _, h => nomatch h
  | t + 1, k, L, r, hl, h => by
    rw [chainL] at h
    cases e : L.find? fun r => lastN r == late with
    | some q =>
      rw [e] at h
      injection h with h
      subst h
      exact ⟨(hl q (List.mem_of_find?_eq_some e)).1, eq_of_beq (List.find?_some (p := fun r => lastN r == late) e)⟩
    | none =>
      rw [e] at h
      exact chainL_some (lev_next hl) h
theorem chainL_none {late : Nat} : ∀ {t : Nat} {L : List (List Nat)}, chainL n u late t L = none → ∀ k, k < t → ∀ r ∈ itL n u k L, lastN r ≠ late
  | 0, _, _, _, hk, _, _ => absurd hk (Nat.not_lt_zero _)
  | t + 1, L, h, k, hk, r, hr => by
    rw [chainL] at h
    cases e : L.find? fun r => lastN r == late with
    | some q => rw [e] at h; cases h
    | none =>
      rw [e] at h
      cases k with
      | zero => exact fun w => (List.find?_eq_none.mp e r hr) (beq_iff_eq.mpr w)
      | succ k => exact chainL_none h k (by omega) r hr
theorem itL_succ : ∀ {k : Nat} {L : List (List Nat)}, itL n u (k + 1) L = extL n u (itL n u k L)
  | 0, _ => rfl
  | k + 1, L => by rw [itL, itL_succ]; rfl
theorem lev_it {i : Nat} : ∀ k, Lev n u i k (itL n u k [[i]])
  | 0 => fun r hr => by rw [List.mem_singleton.mp hr]; exact ⟨.one, rfl⟩
  | k + 1 => by rw [itL_succ]; exact lev_next (lev_it k)
theorem it_pre {i : Nat} : ∀ {k : Nat} {r : List Nat}, r ∈ itL n u k [[i]] → ∀ x ∈ r, ∃ k' r', r' ∈ itL n u k' [[i]] ∧ lastN r' = x
  | 0, r, hr, x, hx => ⟨0, r, hr, by
    rw [List.mem_singleton.mp hr] at hx ⊢
    rw [List.mem_singleton.mp hx]; rfl⟩
  | k + 1, r, hr, x, hx => by
    have hr0 := hr
    rw [itL_succ] at hr
    obtain ⟨q, hq, hr⟩ := List.mem_flatMap.mp hr
    obtain ⟨t, ht, rfl⟩ := List.mem_map.mp hr
    rcases List.mem_append.mp hx with hx | hx
    · exact it_pre hq x hx
    · exact ⟨k + 1, _, hr0, by rw [List.mem_singleton.mp hx, last_app]⟩
end
end Ev

set_option Elab.async false
set_option linter.all false
set_option autoImplicit false
set_option maxRecDepth 100000
set_option maxHeartbeats 8000000
namespace Ev
open PySem PySem.Spec L2 LamX PyProof.Rows
section
variable {n : Nat} {a b c r s u e : Nat → Nat → Bool}
theorem or_comm' {i j : Nat} : (b i j || a i j) = (a i j || b i j) := Bool.or_comm _ _
theorem wk_eith (ha : Eqv n a) {i : Nat} (hi : i < n) {r : List Nat} (h : Wk n (fun i j => a i j || b i j) i r) : eith n a b i (lastN r) = true := by
  induction h with
  | one => exact eith_a ha hi (ha.refl i hi)
  | snoc w ht hm hu ih =>
    rw [last_app]
    have l : ∀ {r : List Nat}, Wk n (fun i j => a i j || b i j) i r → lastN r < n := fun {r} w => by
      cases w with
      | one => exact hi
      | snoc _ ht _ _ => rw [last_app]; exact ht
    exact eith_shut ha hi _ (l w) _ ht ih (by show (b _ _ || a _ _) = true; rw [or_comm']; exact hu)
theorem none_eith (ha : Eqv n a) {i late : Nat} (hi : i < n) (hl : late < n) (h : chainL n (fun i j => a i j || b i j) late n [[i]] = none) : eith n a b i late = false := by
  have hc := chainL_none h
  have step : ∀ z j, j < n → (∃ k r, r ∈ itL n (fun i j => a i j || b i j) k [[i]] ∧ lastN r = z) → (a z j || b z j) = true → ∃ k r, r ∈ itL n (fun i j => a i j || b i j) k [[i]] ∧ lastN r = j := fun z j hj ⟨k, r, hr, e⟩ q => by
    by_cases hm : j ∈ r
    · exact it_pre hr j hm
    · refine ⟨k + 1, r ++ [j], ?_, last_app⟩
      rw [itL_succ]
      exact List.mem_flatMap.mpr ⟨r, hr, List.mem_map.mpr ⟨j, List.mem_filter.mpr ⟨List.mem_range.mpr hj, by rw [decide_eq_false hm, e]; exact q⟩, rfl⟩⟩
  cases hh : eith n a b i late with
  | false => rfl
  | true =>
    have := eith_least (S := fun z => @decide (∃ k r, r ∈ itL n (fun i j => a i j || b i j) k [[i]] ∧ lastN r = z) (Classical.propDecidable _)) (fun j hj q => @decide_eq_true _ (Classical.propDecidable _) (step i j hj ⟨0, [i], List.mem_singleton.mpr rfl, rfl⟩ (by rw [q]; rfl))) (fun z hz j hj p q => @decide_eq_true _ (Classical.propDecidable _) (step z j hj (@of_decide_eq_true _ (Classical.propDecidable _) p) (by rw [← or_comm']; exact q))) hl hh
    obtain ⟨k, r, hr, e⟩ := @of_decide_eq_true _ (Classical.propDecidable _) this
    obtain ⟨w, l⟩ := lev_it k r hr
    have := nodup_le w.nd (w.lt hi)
    exact absurd e (hc k (by omega) r hr)
theorem some_eith (ha : Eqv n a) {i late : Nat} (hi : i < n) {r : List Nat} (h : chainL n (fun i j => a i j || b i j) late n [[i]] = some r) : eith n a b i late = true := by
  obtain ⟨w, e⟩ := chainL_some (lev_it 0) h
  rw [← e]
  exact wk_eith ha hi w
/-- the least above both -/
theorem eith_in (ha : Eqv n a) (he : Eqv n e) (h1 : rIn n a e = true) (h2 : rIn n b e = true) : rIn n (eith n a b) e = true := rIn_iff.mpr fun i hi j hj p =>
  eith_least (S := e i) (fun z hz q => rIn_iff.mp h1 i hi z hz q) (fun z hz k hk p q => by
    rcases Bool.or_eq_true _ _ ▸ q with q | q
    · exact he.trans i hi z hz k hk p (rIn_iff.mp h2 z hz k hk q)
    · exact he.trans i hi z hz k hk p (rIn_iff.mp h1 z hz k hk q)) hj p
theorem in_eith_a (ha : Eqv n a) : rIn n a (eith n a b) = true := rIn_iff.mpr fun i hi j hj p => eith_a ha hj p
theorem in_eith_b (ha : Eqv n a) : rIn n b (eith n a b) = true := rIn_iff.mpr fun i hi j hj p => eith_shut ha hi i hi j hj (eith_a ha hi (ha.refl i hi)) (by show (b i j || a i j) = true; rw [p]; rfl)
theorem rIn_trans (h1 : rIn n r s = true) (h2 : rIn n s u = true) : rIn n r u = true := rIn_iff.mpr fun i hi j hj p => rIn_iff.mp h2 i hi j hj (rIn_iff.mp h1 i hi j hj p)
theorem rIn_anti (h1 : rIn n r s = true) (h2 : rIn n s r = true) : ∀ i, i < n → ∀ j, j < n → r i j = s i j := fun i hi j hj => beq_of ⟨rIn_iff.mp h1 i hi j hj, rIn_iff.mp h2 i hi j hj⟩
theorem rIn_refl : rIn n r r = true := rIn_iff.mpr fun _ _ _ _ p => p
theorem eith_comm (ha : Eqv n a) (hb : Eqv n b) : ∀ i, i < n → ∀ j, j < n → eith n b a i j = eith n a b i j := rIn_anti (eith_in hb (eqv_eith ha hb) (in_eith_b ha) (in_eith_a ha)) (eith_in ha (eqv_eith hb ha) (in_eith_b hb) (in_eith_a hb))
theorem eith_assoc (ha : Eqv n a) (hb : Eqv n b) (hc : Eqv n c) : ∀ i, i < n → ∀ j, j < n → eith n (eith n a b) c i j = eith n a (eith n b c) i j := by
  have h1 := eqv_eith ha hb
  have h2 := eqv_eith hb hc
  have h3 := eqv_eith h1 hc
  have h4 := eqv_eith ha h2
  exact rIn_anti (eith_in h1 h4 (eith_in ha h4 (in_eith_a ha) (rIn_trans (in_eith_a hb) (in_eith_b ha))) (rIn_trans (in_eith_b hb) (in_eith_b ha))) (eith_in ha h3 (rIn_trans (in_eith_a ha) (in_eith_a h1)) (eith_in hb h3 (rIn_trans (in_eith_b ha) (in_eith_a h1)) (in_eith_b h1)))
theorem eith_fin (ha : Eqv n a) (hb : Eqv n b) (h : rIn n a b = true) : ∀ i, i < n → ∀ j, j < n → eith n a b i j = b i j := rIn_anti (eith_in ha hb h rIn_refl) (in_eith_b ha)
theorem eith_due2 (ha : Eqv n a) (hb : Eqv n b) : rEq n (eith n a b) b = rIn n a b := beq_of ⟨fun h => rIn_iff.mpr fun i hi j hj p => by rw [← rEq_iff.mp h i hi j hj]; exact eith_a ha hj p, fun h => rEq_iff.mpr (eith_fin ha hb h)⟩
theorem and_due : rEq n (fun i j => a i j && b i j) a = rIn n a b := beq_of ⟨fun h => rIn_iff.mpr fun i hi j hj p => by
  have := rEq_iff.mp h i hi j hj
  rw [p] at this
  exact this, fun h => rEq_iff.mpr fun i hi j hj => by
  show (a i j && b i j) = a i j
  cases p : a i j with
  | false => rfl
  | true => rw [rIn_iff.mp h i hi j hj p]; rfl⟩
theorem and_in_a : rIn n (fun i j => a i j && b i j) a = true := rIn_iff.mpr fun i hi j hj p => (Bool.and_eq_true _ _ ▸ p).1
theorem eith_and_a (ha : Eqv n a) : ∀ i, i < n → ∀ j, j < n → (eith n a b i j && a i j) = a i j := fun i hi j hj => by
  cases p : a i j with
  | false => rw [Bool.and_false]
  | true => rw [eith_a ha hj p]; rfl
end
end Ev

set_option Elab.async false
set_option linter.all false
set_option autoImplicit false
set_option maxRecDepth 100000
set_option maxHeartbeats 8000000
namespace Ev
open PySem PySem.Spec L2 LamX PyProof.Rows
abbrev lstN (r : List Nat) : PyData := .list (r.map dI)
theorem v_forFind {α ρ : Type} {e : α → PyData} {f : PyData → Unit → M (LB Unit ρ)} {q : α → Bool} {g : α → ρ} : ∀ {l : List α}, (∀ a ∈ l, f (e a) () = .ok (if q a = true then .rt (g a) else .nx ())) → forL (l.map e) () f = .ok ((l.find? q).elim (.nx ()) fun a => .rt (g a))
  | [], _ => rfl
  | x :: l, h => by
    rw [List.map_cons, forL, h x List.mem_cons_self, m_ok, List.find?_cons]
    cases q x with
    | true => rfl
    | false => exact v_forFind fun a ha => h a (List.mem_cons_of_mem _ ha)
section
variable {n : Nat} {u : Nat → Nat → Bool} {i late : Nat}
theorem ext_len {m : Nat} {L : List (List Nat)} (h : L.length ≤ 6 ^ m) (hn : n ≤ 6) : (extL n u L).length ≤ 6 ^ (m + 1) := by
  have aux : ∀ L : List (List Nat), (extL n u L).length ≤ L.length * 6 := fun L => by
    induction L with
    | nil => exact Nat.le_refl _
    | cons r L ih =>
      rw [extL_cons, List.length_append, List.length_cons, Nat.succ_mul, List.length_map]
      have := List.length_filter_le (fun t => !decide (t ∈ r) && u (lastN r) t) (List.range n)
      rw [List.length_range] at this
      omega
  have := aux L
  rw [Nat.pow_succ]
  have := Nat.mul_le_mul_right 6 h
  omega
theorem loopL {f : PyData → PyData → M (LB PyData PyData)} (hn : n ≤ 6) (hf : ∀ d k L, k < 6 → Lev n u i k L → L.length ≤ 6 ^ k → f d (.list (L.map lstN)) = .ok ((L.find? fun r => lastN r == late).elim (.nx (.list ((extL n u L).map lstN))) fun r => .rt (lstN r))) : ∀ (ds : List PyData) (k : Nat) (L : List (List Nat)), Lev n u i k L → L.length ≤ 6 ^ k → k + ds.length ≤ 6 → ∃ o, forL ds (.list (L.map lstN)) f = .ok o ∧ (chainL n u late ds.length L).elim (∃ s, o = .nx s) fun r => o = .rt (lstN r)
  | [], _, L, _, _, _ => ⟨_, rfl, _, rfl⟩
  | d :: ds, k, L, h1, h2, h3 => by
    rw [List.length_cons] at h3
    rw [forL, hf d k L (by omega) h1 h2, m_ok, List.length_cons, chainL]
    cases e : L.find? fun r => lastN r == late with
    | some r => exact ⟨_, rfl, rfl⟩
    | none =>
      dsimp only [Option.elim]
      exact loopL hn hf ds (k + 1) (extL n u L) (lev_next h1) (ext_len h2 hn) (by omega)
/-- what is seen, as a list -/
structure Sn (n : Nat) (S : Nat → Bool) (sn : List Nat) : Prop where
  is : ∀ x, decide (x ∈ sn) = S x
  nd : sn.Nodup
  lt : ∀ x ∈ sn, x < n
theorem loopW {c : PyData × List PyData → M Bool} {f : PyData × List PyData → M (LB (PyData × List PyData) PyData)} (hi : i < n)
    (hc : ∀ (B : List (List Nat)) (s : List PyData), c (.list (B.map lstN), s) = .ok (!decide (B = [])))
    (hf : ∀ (B : List (List Nat)) (S : Nat → Bool) (sn : List Nat), (∀ r ∈ B, Wk n u i r) → Sn n S sn → ∃ o, f (.list (B.map lstN), sn.map dI) = .ok o ∧ (B.find? fun r => lastN r == late).elim (∃ sn', o = .nx (.list ((firsts S (extB n u B)).map lstN), sn'.map dI) ∧ Sn n (after S (extB n u B)) sn') fun r => o = .rt (lstN r)) :
    ∀ (t k : Nat) (L : List (List Nat)) (T : Nat → Bool) (sn : List Nat) (fl : Nat), Lev n u i k L → Seen n u T L → T late = false → n ≤ k + t → t < fl → Sn n (after T L) sn → ∃ o, whileL fl (.list ((firsts T L).map lstN), sn.map dI) c f = .ok o ∧ (chainL n u late t L).elim (∃ s, o = .nx s) fun r => o = .rt (lstN r)
  | t, k, L, T, sn, 0, _, _, _, _, h, _ => absurd h (Nat.not_lt_zero _)
  | t, k, L, T, sn, fl + 1, h1, h2, h3, h4, h5, h6 => by
    by_cases hB : firsts T L = []
    · refine ⟨_, by rw [whileL, hc, m_ok, hB]; rfl, ?_⟩
      rw [← chain_eq h2 h3, hB, chainB_nil]
      exact ⟨_, rfl⟩
    · obtain _ | t := t
      · exfalso
        have : L = [] := List.eq_nil_iff_forall_not_mem.mpr fun r hr => by
          obtain ⟨w, l⟩ := h1 r hr
          have := nodup_le w.nd (w.lt hi)
          omega
        rw [this] at hB
        exact hB rfl
      · obtain ⟨o, e, p⟩ := hf (firsts T L) (after T L) sn (fun r hr => (h1 r (firsts_sub hr)).1) h6
        rw [find_firsts h3] at p
        rw [whileL, hc, m_ok, decide_eq_false hB, if_pos (show (!false) = true from rfl), e, m_ok, chainL]
        cases q : L.find? fun r => lastN r == late with
        | some r =>
          rw [q] at p
          have p : o = .rt (lstN r) := p
          rw [p]
          exact ⟨_, rfl, rfl⟩
        | none =>
          rw [q] at p
          obtain ⟨sn', p, g⟩ := p
          obtain ⟨c1, c2⟩ := ext_firsts (L := L) (T := T) (S := after T L) h2.own h2.nxt
          rw [c1] at p
          rw [c2] at g
          rw [p]
          dsimp only
          exact loopW hi hc hf t (k + 1) (extL n u L) (after T L) sn' fl (lev_next h1) (seen_next h2) (after_not h3 q) (by omega) (by omega) g
end
end Ev

set_option Elab.async false
set_option linter.all false
set_option autoImplicit false
set_option maxRecDepth 100000
set_option maxHeartbeats 4000000
namespace Ev
open PySem PySem.Spec L2 LamX PyProof.Rows
/-! maps of n things, what they make equal -/
section
variable {n : Nat} {f g h : Nat → Nat} {r e : Nat → Nat → Bool}
abbrev mapR (f : Nat → Nat) : Nat → Nat → Bool := fun i j => decide (f i = j)
def Mp (n : Nat) (f : Nat → Nat) : Prop := ∀ i, i < n → f i < n
def Inj (n : Nat) (f : Nat → Nat) : Prop := ∀ i, i < n → ∀ j, j < n → f i = f j → i = j
theorem row_map {i : Nat} (h : f i < n) : row n (mapR f i) = [f i] := row_one h
theorem row_map' {i : Nat} (h : f i < n) : row n (fun j => decide (f i = j)) = [f i] := row_one h
theorem tup_map (h : Mp n f) : PyData.tuple ((List.range n).map fun i => .tuple [dI (f i)]) = rel n (mapR f) := by
  unfold rel
  congr 1
  refine List.map_congr_left fun i hi => ?_
  rw [row_map (h i (List.mem_range.mp hi))]
  rfl
theorem map_then (hf : Mp n f) : rel n (rThen n (mapR f) (mapR g)) = rel n (mapR fun i => g (f i)) := rel_ext fun i hi j hj => beq_of (by
  rw [rThen_iff, decide_eq_true_eq]
  constructor
  · rintro ⟨k, _, h1, h2⟩
    show g (f i) = j
    rw [of_decide_eq_true h1]
    exact of_decide_eq_true h2
  · intro h
    exact ⟨f i, hf i hi, decide_eq_true rfl, decide_eq_true h⟩)
theorem map_back (hf : Mp n f) : rel n (rThen n (mapR f) fun i j => mapR f j i) = rel n (eqOf f) := rel_ext fun i hi j hj => beq_of (by
  rw [rThen_iff, decide_eq_true_eq]
  constructor
  · rintro ⟨k, _, h1, h2⟩
    rw [of_decide_eq_true h1]
    exact of_decide_eq_true h2
  · intro h
    exact ⟨f i, hf i hi, decide_eq_true rfl, decide_eq_true h⟩)
theorem map_rows (hf : Mp n f) {i j : Nat} (hi : i < n) (hj : j < n) : decide (row n (mapR f i) = row n (mapR f j)) = decide (f i = f j) := by
  rw [row_map (hf i hi), row_map (hf j hj)]
  exact decide_eq_decide.mpr (by simp)
/-- the things to which f leads -/
def img (n : Nat) (f : Nat → Nat) : Nat → Bool := fun j => (List.range n).any fun i => decide (f i = j)
theorem img_iff {j : Nat} : img n f j = true ↔ ∃ i, i < n ∧ f i = j := by
  unfold img
  rw [List.any_eq_true]
  constructor
  · rintro ⟨i, hi, h⟩
    exact ⟨i, List.mem_range.mp hi, of_decide_eq_true h⟩
  · rintro ⟨i, hi, h⟩
    exact ⟨i, List.mem_range.mpr hi, decide_eq_true h⟩
theorem inj_onto (hf : Mp n f) (hi : Inj n f) {j : Nat} (hj : j < n) : ∃ i, i < n ∧ f i = j := Classical.byContradiction fun no => by
  have nd : (j :: (List.range n).map f).Nodup := by
    rw [List.nodup_cons]
    refine ⟨fun h => ?_, ?_⟩
    · obtain ⟨i, hi, e⟩ := List.mem_map.mp h
      exact no ⟨i, List.mem_range.mp hi, e⟩
    · refine List.pairwise_map.mpr (List.Pairwise.imp_of_mem (fun {a b} ha hb ne e => ne (hi a (List.mem_range.mp ha) b (List.mem_range.mp hb) e)) List.nodup_range)
  have := nodup_le nd (n := n) fun k hk => by
    rcases List.mem_cons.mp hk with e | e
    · subst e; exact hj
    · obtain ⟨i, hi, e⟩ := List.mem_map.mp e
      rw [← e]
      exact hf i (List.mem_range.mp hi)
  rw [List.length_cons, List.length_map, List.length_range] at this
  omega
/-- kinds -/
def someB (n : Nat) (r : Nat → Nat → Bool) : Bool := (List.range n).all fun i => !decide (row n (r i) = [])
def oneB (n : Nat) (r : Nat → Nat → Bool) : Bool := (List.range n).all fun i => decide ((row n (r i)).length ≤ 1)
theorem map_some (hf : Mp n f) : someB n (mapR f) = true := List.all_eq_true.mpr fun i hi => by
  rw [row_map (hf i (List.mem_range.mp hi))]; rfl
theorem map_oneB (hf : Mp n f) : oneB n (mapR f) = true := List.all_eq_true.mpr fun i hi => by
  rw [row_map (hf i (List.mem_range.mp hi))]; rfl
theorem col_some (hf : Mp n f) : someB n (fun i j => mapR f j i) = (List.range n).all fun j => img n f j := beq_of (by
  unfold someB
  rw [List.all_eq_true, List.all_eq_true]
  refine forall_congr' fun j => forall_congr' fun hj => ?_
  rw [img_iff, Bool.not_eq_true', decide_eq_false_iff_not]
  constructor
  · intro h
    obtain ⟨i, hi⟩ := List.exists_mem_of_ne_nil _ h
    have := row_in.mp hi
    exact ⟨i, this.1, of_decide_eq_true this.2⟩
  · rintro ⟨i, hi, e⟩ h
    have : i ∈ row n (fun j1 => mapR f j1 j) := row_in.mpr ⟨hi, decide_eq_true e⟩
    rw [h] at this
    cases this)
theorem len_one {l : List Nat} (h : l.length ≤ 1) {i j : Nat} (hi : i ∈ l) (hj : j ∈ l) : i = j := by
  match l, h, hi, hj with
  | [x], _, hi, hj => rw [List.mem_singleton.mp hi, List.mem_singleton.mp hj]
  | [], _, hi, _ => cases hi
theorem one_len {l : List Nat} (nd : l.Nodup) (h : ∀ i ∈ l, ∀ j ∈ l, i = j) : l.length ≤ 1 := by
  match l, nd, h with
  | [], _, _ => simp
  | [x], _, _ => simp
  | x :: y :: r, nd, h =>
    have e := h x List.mem_cons_self y (List.mem_cons_of_mem _ List.mem_cons_self)
    rw [List.nodup_cons] at nd
    exact absurd (by rw [e]; exact List.mem_cons_self) nd.1
theorem row_nd {p : Nat → Bool} : (row n p).Nodup := List.Pairwise.filter _ List.nodup_range
theorem col_one (hf : Mp n f) : oneB n (fun i j => mapR f j i) = true ↔ Inj n f := by
  unfold oneB
  rw [List.all_eq_true]
  constructor
  · intro h i hi j hj e
    have := of_decide_eq_true (h (f j) (List.mem_range.mpr (hf j hj)))
    exact len_one this (row_in.mpr ⟨hi, decide_eq_true e⟩) (row_in.mpr ⟨hj, decide_eq_true rfl⟩)
  · intro h k hk
    refine decide_eq_true (one_len row_nd fun i hi j hj => ?_)
    have a := row_in.mp hi
    have b := row_in.mp hj
    exact h i a.1 j b.1 ((of_decide_eq_true a.2).trans (of_decide_eq_true b.2).symm)
theorem eqOf_still : rEq n (eqOf f) (fun i j => decide (i = j)) = true ↔ Inj n f := by
  rw [rEq_iff]
  constructor
  · intro h i hi j hj e
    have q : decide (f j = f i) = decide (i = j) := h i hi j hj
    rw [decide_eq_true e.symm] at q
    exact of_decide_eq_true q.symm
  · intro h i hi j hj
    refine decide_eq_decide.mpr ⟨fun e => (h j hj i hi e).symm, fun e => by rw [e]⟩
/-- namings -/
theorem naming_eq (hf : Mp n f) : (someB n (fun i j => mapR f j i) && oneB n fun i j => mapR f j i) = rEq n (eqOf f) fun i j => decide (i = j) := beq_of (by
  rw [Bool.and_eq_true, col_one hf, eqOf_still, col_some hf]
  refine ⟨fun h => h.2, fun h => ⟨List.all_eq_true.mpr fun j hj => img_iff.mpr (inj_onto hf h (List.mem_range.mp hj)), h⟩⟩)
theorem img_comp_onto (hg : Mp n g) (hi : Inj n g) {j : Nat} : img n (fun i => f (g i)) j = img n f j := beq_of (by
  rw [img_iff, img_iff]
  constructor
  · rintro ⟨i, h, e⟩
    exact ⟨g i, hg i h, e⟩
  · rintro ⟨i, h, e⟩
    obtain ⟨k, hk, e2⟩ := inj_onto hg hi h
    exact ⟨k, hk, by show f (g k) = j; rw [e2, e]⟩)
theorem eqOf_inj (hf : Mp n f) (hi : Inj n g) {i j : Nat} (h1 : i < n) (h2 : j < n) : eqOf (fun i => g (f i)) i j = eqOf f i j := decide_eq_decide.mpr ⟨fun e => hi _ (hf j h2) _ (hf i h1) e, fun e => congrArg g e⟩
theorem eqOf_finer : rIn n (eqOf f) (eqOf fun i => g (f i)) = true := rIn_iff.mpr fun i _ j _ h => decide_eq_true (congrArg g (of_decide_eq_true h))
/-- the least one of each class -/
def lst (n : Nat) (e : Nat → Nat → Bool) (i : Nat) : Nat := (row n (e i)).headD 0
theorem lst_head (h : Eqv n e) {i : Nat} (hi : i < n) : ∃ t, row n (e i) = lst n e i :: t := by
  unfold lst
  cases hr : row n (e i) with
  | nil =>
    have : i ∈ row n (e i) := row_in.mpr ⟨hi, h.refl i hi⟩
    rw [hr] at this
    cases this
  | cons a t => exact ⟨t, rfl⟩
theorem lst_in (h : Eqv n e) {i : Nat} (hi : i < n) : lst n e i < n ∧ e i (lst n e i) = true := by
  obtain ⟨t, ht⟩ := lst_head h hi
  exact row_in.mp (by rw [ht]; exact List.mem_cons_self)
theorem lst_map (h : Eqv n e) : Mp n (lst n e) := fun i hi => (lst_in h hi).1
theorem lst_same (h : Eqv n e) {i j : Nat} (hi : i < n) (hj : j < n) (he : e i j = true) : lst n e i = lst n e j := by
  unfold lst
  rw [(h.row hi hj).mpr he]
theorem lst_eq (h : Eqv n e) {i j : Nat} (hi : i < n) (hj : j < n) : decide (lst n e j = lst n e i) = e i j := beq_of (by
  rw [decide_eq_true_eq]
  constructor
  · intro q
    have a := lst_in h hi
    have b := lst_in h hj
    rw [q] at b
    exact h.trans i hi _ a.1 j hj a.2 (h.symm j hj _ a.1 b.2)
  · intro q
    exact (lst_same h hi hj q).symm)
theorem lst_lst (h : Eqv n e) {i : Nat} (hi : i < n) : lst n e (lst n e i) = lst n e i := by
  have a := lst_in h hi
  exact (lst_same h hi a.1 a.2).symm
/-- a fold whose state is told by what went before -/
theorem v_foldD {α σ : Type} {e : α → PyData} {f : PyData → σ → M σ} (S : List α → σ) : ∀ (l d : List α), (∀ d' a l', d ++ l = d' ++ a :: l' → f (e a) (S d') = .ok (S (d' ++ [a]))) → foldL (l.map e) (S d) f = .ok (S (d ++ l))
  | [], d, _ => by rw [List.map_nil, foldL, List.append_nil]
  | a :: l, d, h => by
    rw [List.map_cons, foldL, h d a l rfl, m_ok, v_foldD S l (d ++ [a]) fun d' b l' q => h d' b l' (by rw [← q, List.append_assoc]; rfl), List.append_assoc]
    rfl
theorem s_while {S : Type} {c : S → M Bool} {f : S → M S} (J : Nat → S → Prop) (P : S → Prop) (h : ∀ m s, J m s → (c s = .ok false ∧ P s) ∨ (c s = .ok true ∧ ∃ m', m' < m ∧ (f s).Sat (J m'))) : ∀ (k m : Nat) (s : S), m < k → J m s → (whileS k s c f).Sat P
  | 0, m, s, hm, _ => absurd hm (Nat.not_lt_zero _)
  | k + 1, m, s, hm, hj => by
    rw [whileS]
    rcases h m s hj with ⟨h1, h2⟩ | ⟨h1, m', h3, h2⟩
    · rw [h1, m_ok, if_neg (by simp)]
      exact h2
    · rw [h1, m_ok, if_pos rfl]
      exact s_step h2 fun s' hj' => s_while J P h k m' s' (by omega) hj'
end
end Ev

set_option Elab.async false
set_option linter.all false
set_option autoImplicit false
set_option maxRecDepth 100000
set_option maxHeartbeats 4000000
namespace Ev
open PySem PySem.Spec L2 LamX PyProof.Rows
/-! powers of a relation: they come round -/
section
variable {n : Nat} {r s t : Nat → Nat → Bool} {i j a b k : Nat}
theorem then_assoc : rThen n (rThen n r s) t i j = rThen n r (rThen n s t) i j := beq_of (by
  rw [rThen_iff, rThen_iff]
  constructor
  · rintro ⟨k, hk, h1, h2⟩
    obtain ⟨l, hl, h3, h4⟩ := rThen_iff.mp h1
    exact ⟨l, hl, h3, rThen_iff.mpr ⟨k, hk, h4, h2⟩⟩
  · rintro ⟨k, hk, h1, h2⟩
    obtain ⟨l, hl, h3, h4⟩ := rThen_iff.mp h2
    exact ⟨l, hl, rThen_iff.mpr ⟨k, hk, h1, h3⟩, h4⟩)
def pw (n : Nat) (r : Nat → Nat → Bool) : Nat → Nat → Nat → Bool
  | 0 => fun i j => decide (i = j)
  | k + 1 => rThen n (pw n r k) r
theorem then_id (hj : j < n) : rThen n r (fun i j => decide (i = j)) i j = r i j := beq_of (by
  rw [rThen_iff]
  constructor
  · rintro ⟨k, _, h1, h2⟩
    rw [← of_decide_eq_true h2]
    exact h1
  · exact fun h => ⟨j, hj, h, decide_eq_true rfl⟩)
theorem pw_add : ∀ b j, j < n → rThen n (pw n r a) (pw n r b) i j = pw n r (a + b) i j
  | 0, j, hj => then_id hj
  | b + 1, j, hj => by
    show rThen n (pw n r a) (rThen n (pw n r b) r) i j = rThen n (pw n r (a + b)) r i j
    rw [← then_assoc]
    refine beq_of ?_
    rw [rThen_iff, rThen_iff]
    exact exists_congr fun k => and_congr_right fun hk => by rw [pw_add b k hk]
theorem pw_mid (hj : j < n) : pw n r (a + b) i j = true ↔ ∃ k, k < n ∧ pw n r a i k = true ∧ pw n r b k j = true := by
  rw [← pw_add b j hj, rThen_iff]
theorem pw_one (hi : i < n) : pw n r 1 i j = r i j := beq_of (by
  show rThen n (fun i j => decide (i = j)) r i j = true ↔ _
  rw [rThen_iff]
  constructor
  · rintro ⟨k, _, h1, h2⟩
    rw [of_decide_eq_true h1]
    exact h2
  · exact fun h => ⟨i, hi, decide_eq_true rfl, h⟩)
/-- a walk's things -/
theorem pw_path : ∀ k j, i < n → j < n → pw n r k i j = true → ∃ f : Nat → Nat, (∀ t, t ≤ k → f t < n) ∧ f 0 = i ∧ f k = j ∧ ∀ t, t < k → r (f t) (f (t + 1)) = true
  | 0, j, hi, hj, h => ⟨fun _ => i, fun _ _ => hi, rfl, of_decide_eq_true h, fun t ht => absurd ht (Nat.not_lt_zero _)⟩
  | k + 1, j, hi, hj, h => by
    obtain ⟨l, hl, h1, h2⟩ := rThen_iff.mp h
    obtain ⟨f, g1, g2, g3, g4⟩ := pw_path k l hi hl h1
    refine ⟨fun t => if t ≤ k then f t else j, fun t ht => ?_, ?_, ?_, fun t ht => ?_⟩
    · dsimp only
      split
      · exact g1 t (by assumption)
      · exact hj
    · show (if 0 ≤ k then f 0 else j) = i
      rw [if_pos (Nat.zero_le _), g2]
    · show (if k + 1 ≤ k then f (k + 1) else j) = j
      rw [if_neg (by omega)]
    · show r (if t ≤ k then f t else j) (if t + 1 ≤ k then f (t + 1) else j) = true
      by_cases e : t + 1 ≤ k
      · rw [if_pos (by omega), if_pos e]
        exact g4 t (by omega)
      · rw [if_pos (by omega), if_neg e, show t = k by omega, g3]
        exact h2
theorem path_pw {f : Nat → Nat} (hf : ∀ t, t ≤ k → f t < n) (hr : ∀ t, t < k → r (f t) (f (t + 1)) = true) : ∀ b, a + b ≤ k → pw n r b (f a) (f (a + b)) = true
  | 0, _ => decide_eq_true rfl
  | b + 1, h => rThen_iff.mpr ⟨f (a + b), hf _ (by omega), path_pw hf hr b (by omega), hr (a + b) (by omega)⟩
theorem pigeon {f : Nat → Nat} (hf : ∀ t, t ≤ n → f t < n) : ∃ a b, a < b ∧ b ≤ n ∧ f a = f b := Classical.byContradiction fun no => by
  have nd : ((List.range (n + 1)).map f).Nodup := List.pairwise_map.mpr (List.Pairwise.imp_of_mem (fun {a b} ha hb lt e => no ⟨a, b, lt, Nat.le_of_lt_succ (List.mem_range.mp hb), e⟩) List.pairwise_lt_range)
  have := nodup_le nd (n := n) fun k hk => by
    obtain ⟨t, ht, e⟩ := List.mem_map.mp hk
    rw [← e]
    exact hf t (Nat.le_of_lt_succ (List.mem_range.mp ht))
  rw [List.length_map, List.length_range] at this
  omega
theorem pw_loop {x c : Nat} (hx : x < n) (h : pw n r c x x = true) : ∀ m, pw n r (c * m) x x = true
  | 0 => decide_eq_true rfl
  | m + 1 => by
    rw [Nat.mul_succ]
    exact (pw_mid hx).mpr ⟨x, hx, pw_loop hx h m, h⟩
theorem pw_grow (hn : n ≤ 6) (hi : i < n) (hj : j < n) (hk : n ≤ k) (h : pw n r k i j = true) : pw n r (k + 60) i j = true := by
  obtain ⟨f, g1, g2, g3, g4⟩ := pw_path k j hi hj h
  obtain ⟨a, b, h1, h2, e⟩ := pigeon (n := n) (f := f) fun t ht => g1 t (by omega)
  have p1 := path_pw (a := 0) g1 g4 a (by omega)
  have p2 := path_pw (a := a) g1 g4 (b - a) (by omega)
  have p3 := path_pw (a := a) g1 g4 (k - a) (by omega)
  rw [Nat.zero_add, g2] at p1
  rw [show a + (b - a) = b by omega, ← e] at p2
  rw [show a + (k - a) = k by omega, g3] at p3
  have hx : f a < n := g1 a (by omega)
  have hc : (b - a) * (60 / (b - a)) = 60 := by
    obtain q | q | q | q | q | q : b - a = 1 ∨ b - a = 2 ∨ b - a = 3 ∨ b - a = 4 ∨ b - a = 5 ∨ b - a = 6 := by omega
    all_goals rw [q]
  have p4 := pw_loop hx p2 (60 / (b - a))
  rw [hc] at p4
  rw [show k + 60 = a + (60 + (k - a)) by omega]
  exact (pw_mid hj).mpr ⟨f a, hx, p1, (pw_mid hj).mpr ⟨f a, hx, p4, p3⟩⟩
/-- how many pairs -/
def tot (n : Nat) (p : Nat → Nat → Bool) : Nat → Nat
  | 0 => 0
  | m + 1 => tot n p m + (row n (p m)).length
theorem tot_le {p q : Nat → Nat → Bool} : ∀ m, m ≤ n → (∀ i, i < n → ∀ j, j < n → p i j = true → q i j = true) → tot n p m ≤ tot n q m
  | 0, _, _ => Nat.le_refl _
  | m + 1, hm, h => Nat.add_le_add (tot_le m (by omega) h) (row_le (h m (by omega)))
theorem tot_lt {p q : Nat → Nat → Bool} : ∀ m, m ≤ n → (∀ i, i < n → ∀ j, j < n → p i j = true → q i j = true) → (∃ i, i < m ∧ ∃ j, j < n ∧ q i j = true ∧ p i j = false) → tot n p m < tot n q m
  | 0, _, _, ⟨i, hi, _⟩ => absurd hi (Nat.not_lt_zero _)
  | m + 1, hm, h, ⟨i, hi, j, hj, h1, h2⟩ => by
    show tot n p m + _ < tot n q m + _
    by_cases e : i = m
    · subst e
      have := tot_le i (by omega) h
      have := row_lt (h i (by omega)) ⟨j, hj, h1, h2⟩
      omega
    · have := tot_lt m (by omega) h ⟨i, by omega, j, hj, h1, h2⟩
      have := row_le (h m (by omega))
      omega
theorem tot_max {p : Nat → Nat → Bool} : ∀ m, tot n p m ≤ m * n
  | 0 => Nat.zero_le _
  | m + 1 => by
    have := tot_max (p := p) m
    have : (row n (p m)).length ≤ n := row_len
    rw [Nat.succ_mul]
    show tot n p m + _ ≤ _
    omega
theorem rEq_false {p q : Nat → Nat → Bool} (h : rEq n p q = false) : ∃ i, i < n ∧ ∃ j, j < n ∧ p i j ≠ q i j := Classical.byContradiction fun no => by
  have : rEq n p q = true := rEq_iff.mpr fun i hi j hj => Classical.byContradiction fun ne => no ⟨i, hi, j, hj, ne⟩
  rw [this] at h
  cases h
theorem pw_comes (hn : n ≤ 6) : ∃ K, K ≤ 2300 ∧ ∃ j, j < K ∧ rEq n (pw n r j) (pw n r K) = true := Classical.byContradiction fun no => by
  have ne : ∀ t, t ≤ 37 → rEq n (pw n r (6 + 60 * t)) (pw n r (6 + 60 * t + 60)) = false := fun t ht => Bool.eq_false_iff.mpr fun e => no ⟨6 + 60 * t + 60, by omega, 6 + 60 * t, by omega, e⟩
  have up : ∀ t, t ≤ 38 → t ≤ tot n (pw n r (6 + 60 * t)) n := fun t => by
    induction t with
    | zero => exact fun _ => Nat.zero_le _
    | succ t ih =>
      intro ht
      have h1 := ih (by omega)
      have mono : ∀ i, i < n → ∀ j, j < n → pw n r (6 + 60 * t) i j = true → pw n r (6 + 60 * t + 60) i j = true := fun i hi j hj h => pw_grow hn hi hj (by omega) h
      obtain ⟨i, hi, j, hj, d⟩ := rEq_false (ne t (by omega))
      have h2 := tot_lt n (Nat.le_refl _) mono ⟨i, hi, j, hj, by
        cases q : pw n r (6 + 60 * t) i j with
        | true => exact mono i hi j hj q
        | false =>
          rw [q] at d
          cases q2 : pw n r (6 + 60 * t + 60) i j with
          | true => rfl
          | false => exact absurd q2.symm d, by
        cases q : pw n r (6 + 60 * t) i j with
        | false => rfl
        | true => exact absurd (by rw [q, mono i hi j hj q]) d⟩
      rw [show 6 + 60 * (t + 1) = 6 + 60 * t + 60 by omega]
      omega
  have h1 := up 38 (by omega)
  have h2 : tot n (pw n r (6 + 60 * 38)) n ≤ n * n := tot_max n
  have h3 : n * n ≤ 6 * 6 := Nat.mul_le_mul hn hn
  omega
theorem pw_shift (h : rEq n (pw n r a) (pw n r b) = true) (t : Nat) : rEq n (pw n r (a + t)) (pw n r (b + t)) = true := rEq_iff.mpr fun i hi j hj => by
  rw [← pw_add t j hj, ← pw_add t j hj]
  exact rThen_ext (rEq_iff.mp h) (fun _ _ _ _ => rfl) hi hj
theorem pw_turns {p : Nat} (h : rEq n (pw n r a) (pw n r (a + p)) = true) : ∀ q s, rEq n (pw n r (a + (p * q + s))) (pw n r (a + s)) = true
  | 0, s => by rw [Nat.mul_zero, Nat.zero_add]; exact rEq_iff.mpr fun _ _ _ _ => rfl
  | q + 1, s => by
    have h1 := pw_turns h q s
    have h2 := pw_shift h (p * q + s)
    rw [Nat.mul_succ, show a + (p * q + p + s) = a + p + (p * q + s) by omega]
    exact rEq_iff.mpr fun i hi j hj => (rEq_iff.mp h2 i hi j hj).symm.trans (rEq_iff.mp h1 i hi j hj)
theorem pw_mod {p t : Nat} (h : rEq n (pw n r a) (pw n r (a + p)) = true) (ht : a ≤ t) : rel n (pw n r t) = rel n (pw n r (a + (t - a) % p)) := by
  have e := pw_turns h ((t - a) / p) ((t - a) % p)
  rw [Nat.div_add_mod, show a + (t - a) = t by omega] at e
  exact rel_ext (rEq_iff.mp e)
/-! ### pairs -/
def prs (n : Nat) (r : Nat → Nat → Bool) : List (Nat × Nat) := (List.range n).flatMap fun i => (row n (r i)).map fun j => (i, j)
theorem mem_prs {x : Nat × Nat} : x ∈ prs n r ↔ x.1 < n ∧ x.2 < n ∧ r x.1 x.2 = true := by
  unfold prs
  rw [List.mem_flatMap]
  constructor
  · rintro ⟨i, hi, h⟩
    obtain ⟨j, hj, e⟩ := List.mem_map.mp h
    subst e
    have := row_in.mp hj
    exact ⟨List.mem_range.mp hi, this.1, this.2⟩
  · rintro ⟨h1, h2, h3⟩
    exact ⟨x.1, List.mem_range.mpr h1, List.mem_map.mpr ⟨x.2, row_in.mpr ⟨h2, h3⟩, rfl⟩⟩
theorem flat_le {α β : Type} {g : α → List β} (m : Nat) : ∀ l : List α, (∀ a ∈ l, (g a).length ≤ m) → (l.flatMap g).length ≤ l.length * m
  | [], _ => by simp
  | a :: l, h => by
    rw [List.flatMap_cons, List.length_append, List.length_cons, Nat.succ_mul]
    have := h a List.mem_cons_self
    have := flat_le m l fun b hb => h b (List.mem_cons_of_mem _ hb)
    omega
theorem prs_len (hn : n ≤ 6) : (prs n r).length ≤ 36 := by
  have := flat_le (g := fun i => (row n (r i)).map fun j => (i, j)) 6 (List.range n) fun i _ => by
    rw [List.length_map]
    exact Nat.le_trans row_len hn
  rw [List.length_range] at this
  unfold prs
  omega
abbrev pT (p : Nat × Nat) : PyData := .tuple [dI p.1, dI p.2]
end
end Ev

set_option Elab.async false
set_option linter.all false
set_option autoImplicit false
set_option maxRecDepth 100000
set_option maxHeartbeats 8000000
namespace Ev
open PySem PySem.Spec L2 LamX PyProof.Rows
section
variable {n : Nat} {r s t a b e e2 w T : Nat → Nat → Bool} {S : Nat → Bool} {i j late : Nat} {f g : Nat → Nat} {P Q : List (Nat × Nat)} {p : Nat → Bool}
theorem v_is_integer {i : Int} : m_is_integer [.d (.int i)] = .ok (.bool true) := by
  simp only [m_is_integer, m_ok, g_isiII, g_isiIB, g_bNot, g_bAnd, Bool.not_false, Bool.and_self]
theorem v_is_within {i a b : Int} : m_is_within [.d (.int i), .d (.int a), .d (.int b)] = .ok (.bool (decide (a ≤ i) && decide (i ≤ b))) := by
  simp only [m_is_within, g_vD, g_vNil, g_vCons, g_call1, v_is_integer, g_bAndT, g_chnLe, m_ok]
theorem v_cut1 {α : Type} (xs : List α) : cutD xs (some 1) none = xs.drop 1 := by
  unfold cutD HT.sIx
  cases xs with
  | nil => rfl
  | cons a l => simp
theorem v_are_rising {l : List Nat} (h : l.Pairwise (· < ·)) (hl : l.length ≤ 1000) : m_are_rising [.d (.tuple (l.map dI))] = .ok (.bool true) := by
  simp only [m_are_rising, m_ok, toI, pSlice, v_cut1, g_aNil, g_aCons, g_zipT]
  have z : zipD (l.map dI) ((l.map dI).drop 1) = (l.zip (l.drop 1)).map fun q => .tuple [dI q.1, dI q.2] := by
    unfold zipD
    rw [← List.map_drop, List.zip_map, List.map_map]
    rfl
  rw [z, v_comp2' (e1 := fun q : Nat × Nat => dI q.1) (e2 := fun q : Nat × Nat => dI q.2) (fun q => .bool (decide ((q.1 : Int) < (q.2 : Int)))) (by simp; omega) (fun q _ => rfl)]
  simp only [g_aCons, m_ok, v_bAll]
  have y : ((l.zip (l.drop 1)).all fun q => decide ((q.1 : Int) < (q.2 : Int))) = true := by
    clear z hl
    induction l with
    | nil => rfl
    | cons a l ih =>
      cases l with
      | nil => rfl
      | cons b l =>
        have h2 := List.pairwise_cons.mp h
        have := ih h2.2
        have h3 := h2.1 b List.mem_cons_self
        simp at this ⊢
        exact ⟨h3, this⟩
  rw [y]
theorem row_rise {n : Nat} {p : Nat → Bool} : (row n p).Pairwise (· < ·) := List.Pairwise.filter _ List.pairwise_lt_range
theorem v_is_lot_of {n : Nat} {p : Nat → Bool} (hn : n ≤ 1000) : m_is_lot_of [.d (.tuple ((row n p).map dI)), .d (dI n)] = .ok (.bool true) := by
  simp only [m_is_lot_of, m_ok, g_isiTT, g_bAndT, g_itemsT]
  rw [v_comp' (fun _ => .bool true) (by have := row_len (n := n) (p := p); omega) fun i hi => by
    simp only [g_vD, g_vNil, g_vCons, g_bin, g_subI, g_call3, v_is_within]
    have := (row_in.mp hi).1
    rw [decide_eq_true (show (0 : Int) ≤ (i : Int) by omega), decide_eq_true (show (i : Int) ≤ (n : Int) - 1 by omega)]
    rfl]
  simp only [g_aNil, g_aCons, m_ok, v_bAll (row n p) (fun _ => true), List.all_eq_true.mpr (fun _ _ => rfl), g_bAndT, g_vD, g_vNil, g_vCons, g_call1]
  rw [v_are_rising row_rise (Nat.le_trans row_len hn)]
  rfl
theorem v_is_relation_of {n : Nat} {r : Nat → Nat → Bool} (hn : n ≤ 1000) : m_is_relation_of [.d (dI n), .d (rel n r)] = .ok (.bool true) := by
  have e : ((List.range n).all fun _ => true) = true := List.all_eq_true.mpr fun _ _ => rfl
  have l := v_len (n := n) (r := r)
  simp only [m_is_relation_of, m_ok, g_aNil, g_aCons, l, g_bin, g_eqI]
  unfold rel
  simp only [g_isiTT, g_bAndT, g_itemsT, beq_self_eq_true]
  rw [v_comp' (fun _ => .bool true) (by simp; omega) fun i hi => by
    simp only [g_vD, g_vNil, g_vCons, g_call2, v_is_lot_of hn]]
  simp only [g_aNil, g_aCons, m_ok, v_bAll (List.range n) (fun _ => true), e, g_bAndT]
theorem v_is_relation_value {n : Nat} {r : Nat → Nat → Bool} (h1 : 1 ≤ n) (hn : n ≤ 6) : m_is_relation_value [.d (rel n r)] = .ok (.bool true) := by
  have l := v_len (n := n) (r := r)
  have t : pIsi "tuple" (rel n r) = .ok (.bool true) := g_isiTT
  simp only [m_is_relation_value, m_ok, g_aNil, g_aCons, l, t, g_bAndT, g_chnLe, g_vD, g_vNil, g_vCons, g_call2, v_is_relation_of (show n ≤ 1000 by omega)]
  rw [decide_eq_true (show (1 : Int) ≤ (n : Int) by omega), decide_eq_true (show (n : Int) ≤ 6 by omega)]
  rfl
theorem v_want_relation {n : Nat} {r : Nat → Nat → Bool} (h1 : 1 ≤ n) (hn : n ≤ 6) : m_want_relation [.d (rel n r)] = .ok .none := by
  simp only [m_want_relation, g_vD, g_vNil, g_vCons, g_call1, v_is_relation_value h1 hn, m_ok, g_tru, g_mNot]
  rfl
theorem v_want_as_many {n : Nat} {r s : Nat → Nat → Bool} : m_want_as_many [.d (rel n r), .d (rel n s)] = .ok .none := by
  have l := v_len (n := n) (r := r)
  have l2 := v_len (n := n) (r := s)
  simp only [m_want_as_many, g_aNil, g_aCons, m_ok, l, l2, g_bin, g_neI, g_tru, beq_self_eq_true]
  rfl
theorem v_want_two {n : Nat} {r s : Nat → Nat → Bool} (h1 : 1 ≤ n) (hn : n ≤ 6) : m_want_two [.d (rel n r), .d (rel n s)] = .ok .none := by
  simp only [m_want_two, g_vD, g_vNil, g_vCons, g_call1, g_call2, v_want_relation h1 hn, v_want_as_many, m_ok]
theorem v_by_rule {n : Nat} (hn : n ≤ 1000) (f : List PyData → M PyData) (r : Nat → Nat → Bool) (hf : ∀ i j, i < n → j < n → f [dI i, dI j] = .ok (.bool (r i j))) : m_by_rule [.d (dI n), .c 6 f] = .ok (rel n r) := by
  have hb : n < 1000000 := by omega
  simp only [m_by_rule, g_aNil, g_aCons, m_ok, v_rng1 hb]
  rw [if_pos (Nat.le_refl 6), v_rows (r := r) hb fun i hi => by
    rw [v_row (p := r i) hb fun j hj => by simp only [g_aNil, g_aCons, m_ok, hf i j hi hj, g_tru]]
    simp only [g_aCons, m_ok, g_bTuple]]
  simp only [g_aCons, m_ok, g_bTuple]
  rfl
abbrev rowsL (n : Nat) (r : Nat → Nat → Bool) : List PyData := (List.range n).map fun i => .list ((row n (r i)).map dI)
theorem v_tupRows {n : Nat} {r : Nat → Nat → Bool} (hn : n ≤ 1000) : (M.bind (M.bind (aCons (comp1 (M.bind (.ok (.list (rowsL n r))) items) (fun row_15 => (.ok true)) (fun row_15 => (M.bind (aCons (.ok row_15) aNil) bTuple))) aNil) bTuple) fun d => .ok d) = .ok (rel n r) := by
  simp only [m_ok, g_itemsL, g_aNil]
  rw [v_comp' (fun i => .tuple ((row n (r i)).map dI)) (by simp; omega) fun i hi => by simp only [g_aCons, m_ok, g_bTuple]]
  simp only [g_aCons, m_ok, g_bTuple]
  rfl
theorem g_binL {g : PyData → PyData → M PyData} {a : PyData} {m : M PyData} : bin g (.ok a) m = m.bind fun y => g a y := by rfl
theorem g_binR {g : PyData → PyData → M PyData} {b : PyData} {m : M PyData} : bin g m (.ok b) = m.bind fun y => g y b := by rfl
theorem g_thenL {S ρ : Type} {kk : S → M ρ} {s : S} : thenL kk (.nx s) = kk s := by rfl
theorem s_aCons1 {m : M PyData} {Q : List PyData → Prop} (h : m.Sat fun d => Q [d]) : (aCons m (.ok [])).Sat Q := by
  unfold aCons
  exact s_bind (h.mono fun d q => q)
theorem s_drawE {m : M PyData} {n : Nat} {Q : PyData → Prop} (e : m = bDraw [.p, .d (dI n)]) (h0 : 0 < n) (h1 : n < 1000000) (h : ∀ d, d < n → Q (dI d)) : m.Sat Q := by
  rw [e]
  exact s_draw h0 h1 h
theorem s_draw1 {n : Nat} {Q : List PyData → Prop} (h0 : 0 < n) (h1 : n < 1000000) (h : ∀ d, d < n → Q [dI d]) : (aCons (bDraw [.p, .d (dI n)]) (.ok [])).Sat Q := by
  unfold aCons
  rw [M.sat_bind]
  exact s_draw (Q := fun d => M.Sat (M.bind (.ok []) fun ds => .ok (d :: ds)) Q) h0 h1 h
theorem v_foldRange {σ : Type} {f : PyData → σ → M σ} (S : Nat → σ) : ∀ (n a : Nat), (∀ k, k < n → f (dI (a + k)) (S (a + k)) = .ok (S (a + k + 1))) → foldL ((List.range' a n).map dI) (S a) f = .ok (S (a + n))
  | 0, a, _ => rfl
  | n + 1, a, h => by
    rw [List.range'_succ, List.map_cons, foldL]
    have h0 := h 0 (by omega)
    rw [Nat.add_zero] at h0
    rw [h0, m_ok, v_foldRange S n (a + 1) fun k hk => by
      have := h (k + 1) (by omega)
      rw [show a + (k + 1) = a + 1 + k by omega] at this
      exact this]
    rw [show a + 1 + n = a + (n + 1) by omega]
theorem v_fold0 {σ : Type} {f : PyData → σ → M σ} (S : Nat → σ) (n : Nat) (h : ∀ k, k < n → f (dI k) (S k) = .ok (S (k + 1))) : foldL ((List.range n).map dI) (S 0) f = .ok (S n) := by
  rw [List.range_eq_range']
  have := v_foldRange S n 0 fun k hk => by rw [Nat.zero_add]; exact h k hk
  rw [Nat.zero_add] at this
  exact this
def lotsL : Nat → List (List Nat)
  | 0 => [[]]
  | k + 1 => lotsL k ++ (lotsL k).map fun l => l ++ [k]
theorem lots_len : ∀ k, (lotsL k).length = 2 ^ k
  | 0 => rfl
  | k + 1 => by rw [lotsL, List.length_append, List.length_map, lots_len k, Nat.pow_succ]; omega
theorem row_succ {k : Nat} {p : Nat → Bool} : row (k + 1) p = row k p ++ (if p k = true then [k] else []) := by
  unfold row
  rw [List.range_succ, List.filter_append]
  congr 1
  by_cases h : p k = true
  · rw [if_pos h, List.filter_cons_of_pos h]; rfl
  · rw [if_neg h, List.filter_cons_of_neg h]; rfl
theorem lots_mem : ∀ {k : Nat} {l : List Nat}, l ∈ lotsL k ↔ ∃ p, l = row k p
  | 0, l => by
    rw [lotsL, List.mem_singleton]
    exact ⟨fun e => ⟨fun _ => true, e⟩, fun ⟨p, e⟩ => e⟩
  | k + 1, l => by
    rw [lotsL, List.mem_append, List.mem_map]
    constructor
    · rintro (h | ⟨m, h, rfl⟩)
      · obtain ⟨p, rfl⟩ := lots_mem.mp h
        refine ⟨fun i => decide (i < k) && p i, ?_⟩
        rw [row_succ, if_neg (by simp), List.append_nil]
        exact row_ext fun i hi => by simp [hi]
      · obtain ⟨p, rfl⟩ := lots_mem.mp h
        refine ⟨fun i => decide (i = k) || p i, ?_⟩
        rw [row_succ, if_pos (by simp)]
        congr 1
        exact row_ext fun i hi => by have : i ≠ k := by omega
                                     simp [this]
    · rintro ⟨p, rfl⟩
      rw [row_succ]
      by_cases h : p k = true
      · rw [if_pos h]
        exact .inr ⟨row k p, lots_mem.mpr ⟨p, rfl⟩, rfl⟩
      · rw [if_neg h, List.append_nil]
        exact .inl (lots_mem.mpr ⟨p, rfl⟩)
abbrev tupN (l : List Nat) : PyData := .tuple (l.map dI)
theorem sort_lots (L : List (List Nat)) (hL : L.length ≤ 1000) : ∃ P : List (List Nat), P.Perm L ∧ bSorted [.list (L.map tupN)] = .ok (.list (P.map tupN)) := by
  obtain ⟨P, h1, h2⟩ := perm_lift tupN (List.mergeSort_perm (L.map tupN) (W.dataLe false id)) L rfl
  rw [← dSort_eq] at h2
  refine ⟨P, h1, ?_⟩
  have c : canSort (L.map tupN) = true := by
    unfold canSort
    simp only [Bool.and_eq_true, Bool.or_eq_true, decide_eq_true_eq, List.all_eq_true]
    refine ⟨⟨⟨fun d hd e he => ?_, ?_⟩, ?_⟩, .inl fun d hd => ?_⟩
    · obtain ⟨a, _, rfl⟩ := List.mem_map.mp hd
      obtain ⟨b, _, rfl⟩ := List.mem_map.mp he
      show W.alikeAll (a.map dI) (b.map dI) = true
      rw [dI_map, dI_map]
      exact W.alike_ints _ _
    · have := depthAll_map tupN 1 L fun l _ => by
        rw [PyData.depth]
        have := depthAll_map dI 0 l fun j _ => by rw [PyData.depth]; exact Nat.le_refl _
        omega
      omega
    · rw [List.length_map, big_size]; omega
    · obtain ⟨a, _, rfl⟩ := List.mem_map.mp hd
      rfl
  rw [bSorted, if_pos c, h2]
def foundL (P : List (List Nat)) : Nat → List (List (List Nat))
  | 0 => [[]]
  | k + 1 => (foundL P k).flatMap fun told => P.map fun lot => told ++ [lot]
abbrev relN (t : List (List Nat)) : PyData := .tuple (t.map tupN)
theorem flat_len {α β : Type} (g : α → List β) (m : Nat) : ∀ l : List α, (∀ a ∈ l, (g a).length = m) → (l.flatMap g).length = l.length * m
  | [], _ => by simp
  | a :: l, h => by
    rw [List.flatMap_cons, List.length_append, h a List.mem_cons_self, flat_len g m l fun b hb => h b (List.mem_cons_of_mem _ hb), List.length_cons, Nat.succ_mul]
    omega
theorem found_len (P : List (List Nat)) : ∀ k, (foundL P k).length = P.length ^ k
  | 0 => rfl
  | k + 1 => by
    rw [foundL, flat_len _ P.length _ fun a _ => by rw [List.length_map], found_len P k, Nat.pow_succ]
theorem found_mem {P : List (List Nat)} : ∀ {k : Nat} {t : List (List Nat)}, t ∈ foundL P k ↔ t.length = k ∧ ∀ l ∈ t, l ∈ P
  | 0, t => by
    rw [foundL, List.mem_singleton]
    exact ⟨fun e => by subst e; exact ⟨rfl, fun l m => nomatch m⟩, fun h => List.length_eq_zero_iff.mp h.1⟩
  | k + 1, t => by
    rw [foundL, List.mem_flatMap]
    constructor
    · rintro ⟨u, hu, h⟩
      obtain ⟨l, hl, rfl⟩ := List.mem_map.mp h
      obtain ⟨h1, h2⟩ := found_mem.mp hu
      refine ⟨by rw [List.length_append, h1]; rfl, fun m hm => ?_⟩
      rcases List.mem_append.mp hm with e | e
      · exact h2 m e
      · rw [List.mem_singleton.mp e]; exact hl
    · rintro ⟨h1, h2⟩
      have ne : t ≠ [] := fun e => by rw [e] at h1; cases h1
      refine ⟨t.dropLast, found_mem.mpr ⟨by rw [List.length_dropLast, h1]; rfl, fun l m => h2 l (List.dropLast_subset _ m)⟩, List.mem_map.mpr ⟨t.getLast ne, h2 _ (List.getLast_mem ne), List.dropLast_concat_getLast ne⟩⟩
theorem relN_app (t : List (List Nat)) (l : List Nat) (h : t.length ≤ 1000) : pAdd (relN t) (.tuple [tupN l]) = .ok (relN (t ++ [l])) := by
  have z : (t.map tupN).length + [tupN l].length ≤ sizeLine := by
    rw [List.length_map, big_size]
    show t.length + 1 ≤ _
    omega
  rw [pAdd, if_pos z, relN, List.map_append]
  rfl
/-- the relation that a told one is -/
def ruleOf (t : List (List Nat)) (i j : Nat) : Bool := match t[i]? with
  | some l => decide (j ∈ l)
  | none => false
theorem relN_rel {n : Nat} {t : List (List Nat)} (h : t.length = n) (hl : ∀ l ∈ t, ∃ p, l = row n p) : relN t = rel n (ruleOf t) := by
  unfold relN rel
  congr 1
  apply List.ext_getElem
  · simp [h]
  · intro i h1 h2
    have hi : i < t.length := by simpa using h1
    obtain ⟨p, e⟩ := hl t[i] (List.getElem_mem hi)
    simp only [List.getElem_map, List.getElem_range]
    show PyData.tuple (t[i].map dI) = _
    have z : row n (ruleOf t i) = t[i] := by
      rw [e]
      exact row_ext fun j hj => by
        unfold ruleOf
        rw [List.getElem?_eq_getElem hi]
        show decide (j ∈ t[i]) = p j
        rw [e, row_mem hj]
    rw [z]
theorem s_comp3 {f : PyData → M PyData} {β : Type} [Inhabited β] {g : β → PyData} (hf : ∀ a, a < 3 → (f (dI a)).Sat fun d => ∃ x : β, d = g x) : (comp1 (rng1 [.int 3]) (fun _ => .ok true) f).Sat fun d => ∃ x y z, d = .list [g x, g y, g z] := by
  have e : rng1 [.int 3] = .ok ((List.range 3).map dI) := v_rng1 (n := 3) (by omega)
  rw [e]
  exact (s_comp1 (g := fun _ x => g x) (by omega) hf).mono fun d ⟨h, e⟩ => ⟨h 0, h 1, h 2, e⟩
theorem sNe1 : (("back" : Str) == ("self" : Str)) = false := by rfl
theorem sNe2 : (("back" : Str) == ("noself" : Str)) = false := by rfl
theorem sNe3 : (("back" : Str) == ("some" : Str)) = false := by rfl
theorem sNe4 : (("back" : Str) == ("each" : Str)) = false := by rfl
theorem sNe5 : (("back" : Str) == ("on" : Str)) = false := by rfl
theorem sNe6 : (("back" : Str) == ("noback" : Str)) = false := by rfl
theorem sNe7 : (("back" : Str) == ("one" : Str)) = false := by rfl
theorem sNe8 : (("back" : Str) == ("single" : Str)) = false := by rfl
theorem sNe9 : (("on" : Str) == ("self" : Str)) = false := by rfl
theorem sNe10 : (("on" : Str) == ("noself" : Str)) = false := by rfl
theorem sNe11 : (("on" : Str) == ("some" : Str)) = false := by rfl
theorem sNe12 : (("on" : Str) == ("each" : Str)) = false := by rfl
theorem flat_maps {α β : Type} (g : α → List β) (f : β → PyData) : ∀ l : List α, l.flatMap (fun a => (g a).map f) = (l.flatMap g).map f
  | [] => rfl
  | a :: l => by rw [List.flatMap_cons, List.flatMap_cons, List.map_append, flat_maps g f l]
theorem len36 (hn : n ≤ 6) (i : Nat) : (((row n (a i)).flatMap fun k => ((row n (b k)).filter fun j => !rThen n b a i j).map fun j => [i, k, j]).map tupN).length ≤ 36 := by
  rw [List.length_map]
  have h1 : ∀ k, (((row n (b k)).filter fun j => !rThen n b a i j).map fun j => [i, k, j]).length ≤ 6 := fun k => by
    rw [List.length_map]
    exact Nat.le_trans (List.length_filter_le _ _) (Nat.le_trans row_len hn)
  have aux : ∀ (g : Nat → List (List Nat)) (l : List Nat), (∀ a ∈ l, (g a).length ≤ 6) → (l.flatMap g).length ≤ l.length * 6 := fun g l => by
    induction l with
    | nil => intro _; simp
    | cons x l ih =>
      intro h
      have h1 := h x List.mem_cons_self
      have h2 := ih fun a ha => h a (List.mem_cons_of_mem _ ha)
      rw [List.flatMap_cons, List.length_append, List.length_cons, Nat.succ_mul]
      omega
  have := aux (fun k => ((row n (b k)).filter fun j => !rThen n b a i j).map fun j => [i, k, j]) (row n (a i)) fun k _ => h1 k
  have : (row n (a i)).length ≤ n := row_len
  omega
theorem len6 (hn : n ≤ 6) {q : Nat → Bool} {g : Nat → List Nat} {p : Nat → Bool} : ((((row n p).filter q).map g).map tupN).length ≤ 6 := by
  rw [List.length_map, List.length_map]
  exact Nat.le_trans (List.length_filter_le _ _) (Nat.le_trans row_len hn)
theorem v_foldAppM {α : Type} {e : α → PyData} {f : PyData → List PyData → M (List PyData)} {g : α → List PyData} (m : Nat) : ∀ (l : List α) (s : List PyData), (∀ a ∈ l, (g a).length ≤ m) → s.length + l.length * m ≤ 16777215 → (∀ a ∈ l, ∀ s : List PyData, s.length + m ≤ 16777215 → f (e a) s = .ok (s ++ g a)) → foldL (l.map e) s f = .ok (s ++ l.flatMap g)
  | [], s, _, _, _ => by
    rw [List.map_nil, foldL, List.flatMap_nil, List.append_nil]
  | a :: l, s, hm, hs, hf => by
    have h1 := hm a List.mem_cons_self
    have e1 : (a :: l).length * m = l.length * m + m := by rw [List.length_cons, Nat.succ_mul]
    rw [List.map_cons, foldL, hf a List.mem_cons_self s (by omega), m_ok, v_foldAppM m l (s ++ g a) (fun b hb => hm b (List.mem_cons_of_mem _ hb)) (by rw [List.length_append]; omega) fun b hb => hf b (List.mem_cons_of_mem _ hb), List.flatMap_cons, List.append_assoc]
theorem flat_if {α β : Type} (q : α → Bool) (f : α → β) : ∀ l : List α, (l.flatMap fun j => if q j = true then [f j] else []) = (l.filter q).map f
  | [] => rfl
  | x :: l => by
    rw [List.flatMap_cons, flat_if q f l, List.filter_cons]
    cases q x <;> rfl
theorem plain_tups (P : List (List Nat)) : PyData.plainAll (P.map tupN) = true := plainAll_map tupN P fun l _ => plainAll_map dI l fun _ _ => rfl
theorem eq_tups (P : List (List Nat)) : pEq (.list (P.map tupN)) (.list []) = .ok (.bool (decide (P = []))) := by
  unfold pEq
  rw [if_pos]
  · cases P <;> rfl
  · rw [Bool.and_eq_true, Bool.and_eq_true]
    refine ⟨⟨plain_tups P, rfl⟩, decide_eq_true ?_⟩
    exact Nat.le_trans (Nat.min_le_right _ _) (by rw [PyData.depth, PyData.depthAll]; omega)
theorem ne_tups (P : List (List Nat)) : pNe (.list (P.map tupN)) (.list []) = .ok (.bool (!decide (P = []))) := by
  unfold pNe
  rw [if_pos]
  · cases P <;> rfl
  · rw [Bool.and_eq_true, Bool.and_eq_true]
    refine ⟨⟨plain_tups P, rfl⟩, decide_eq_true ?_⟩
    exact Nat.le_trans (Nat.min_le_right _ _) (by rw [PyData.depth, PyData.depthAll]; omega)
def toldD : List (List Nat) → PyData
  | [] => .none
  | p :: _ => tupN p
theorem idx0 {d : PyData} {ds : List PyData} : pIdx (.list (d :: ds)) (.int 0) = .ok d := by
  have e : atI (d :: ds) 0 = some d := atI_nat (d :: ds) (i := 0) (by simp)
  show (match atI (d :: ds) 0 with | some d => M.ok d | none => M.err) = _
  rw [e]
theorem v_told (P : List (List Nat)) {f : PyData → M PyData} : M.bind (mIf (M.bind (bin pNe (.ok (.list (P.map tupN))) (M.bind aNil mkLst)) tru) (bin pIdx (.ok (.list (P.map tupN))) (.ok (.int 0))) (.ok .none)) f = f (toldD P) := by
  simp only [g_aNil, m_ok, g_mkLst0, g_bin, ne_tups, g_tru]
  cases P with
  | nil => rfl
  | cons p P => rw [List.map_cons, idx0]; rfl
theorem v_foldB {α σ β : Type} {e : α → PyData} {f : PyData → σ → M σ} {g : σ → M β} {Q : β → Prop} (J : List α → σ → Prop) (l : List α) (s : σ) (h0 : J [] s) (hs : ∀ a ∈ l, ∀ d s, J d s → ∃ s', f (e a) s = .ok s' ∧ J (d ++ [a]) s') (hg : ∀ s', J l s' → ∃ r, g s' = .ok r ∧ Q r) : ∃ r, (foldL (l.map e) s f).bind g = .ok r ∧ Q r := by
  obtain ⟨s', e1, j⟩ := v_foldJ J l [] s h0 hs
  obtain ⟨r, e2, q⟩ := hg s' j
  exact ⟨r, by rw [e1, m_ok, e2], q⟩
theorem ne_dI {l : List Nat} : pNe (.list (l.map dI)) (.list []) = .ok (.bool (!decide (l = []))) := v_neL (a := l) (b := [])
theorem add_path {l : List Nat} {o : Nat} (h : l.length ≤ 1000) : pAdd (.list (l.map dI)) (.list [dI o]) = .ok (.list ((l ++ [o]).map dI)) := v_addL (a := l) (b := [o]) (by simp; omega)
theorem v_forAll {α ρ : Type} {e : α → PyData} {f : PyData → Unit → M (LB Unit ρ)} {r : ρ} (q : α → Bool) : ∀ l : List α, (∀ a ∈ l, f (e a) () = .ok (if q a = true then .nx () else .rt r)) → forL (l.map e) () f = .ok (if l.all q = true then .nx () else .rt r)
  | [], _ => rfl
  | x :: l, h => by
    rw [List.map_cons, forL, h x List.mem_cons_self, m_ok, List.all_cons]
    cases q x with
    | true => rw [Bool.true_and]; exact v_forAll q l fun a ha => h a (List.mem_cons_of_mem _ ha)
    | false => rfl
theorem enumA_rel {r : Nat → Nat → Bool} : enumA [rel n r] = .ok ((List.range n).map fun i => .tuple [dI i, .tuple ((row n (r i)).map dI)]) := enum_map n fun i => .tuple ((row n (r i)).map dI)
theorem rEq_self : rEq n r r = true := rEq_iff.mpr fun _ _ _ _ => rfl
theorem neNil : pNe (.list []) (.list []) = .ok (.bool false) := by rfl
theorem g_mul3 {d : PyData} : pMul (.list [d]) (.int 3) = .ok (.list [d, d, d]) := by rfl
theorem g_isNN : qIs .none .none = .ok (.bool true) := by rfl
theorem g_isNotNN : qIsNot .none .none = .ok (.bool false) := by rfl
theorem g_isTN {ds : List PyData} : qIs (.tuple ds) .none = .ok (.bool false) := by rfl
theorem g_isNotTN {ds : List PyData} : qIsNot (.tuple ds) .none = .ok (.bool true) := by rfl
theorem sh_b3 {x y z : Bool} : Sh (.list [.bool x, .bool y, .bool z]) (3 + 3 * (5 + 2)) 1 := sh_lst 3 (Nat.le_refl _) (sh_cons sh_bool (sh_cons sh_bool (sh_cons sh_bool (sh_nil (w := 0) (k := 0)))))
theorem sh_n2 : Sh (.list [.none, .none]) (3 + 2 * (4 + 2)) 1 := sh_lst 2 (Nat.le_refl _) (sh_cons sh_none (sh_cons sh_none (sh_nil (w := 0) (k := 0))))
theorem g_divNN {p c : Nat} (h : 0 < c) (h2 : c < 1000) : pDiv (dI p) (dI c) = .ok (dI (p / c)) := by
  rw [pDiv, if_pos ⟨by omega, by omega⟩, Int.fdiv_eq_ediv_of_nonneg _ (by omega)]
  rfl
theorem g_mulNN {p c : Nat} (h2 : c < 1000) : pMul (dI p) (dI c) = .ok (dI (p * c)) := by
  rw [g_mulI (.inr ⟨by omega, by omega⟩)]
  rfl
theorem g_subNN {p c : Nat} (h : c ≤ p) : pSub (dI p) (dI c) = .ok (dI (p - c)) := by
  rw [g_subI]
  show M.ok (PyData.int _) = M.ok (PyData.int ((p - c : Nat) : Int))
  rw [Int.ofNat_sub h]
theorem g_sub1 {p : Nat} (h : 1 ≤ p) : pSub (dI p) (.int 1) = .ok (dI (p - 1)) := g_subNN (c := 1) h
theorem tabDue {R C : Nat} (h1 : 1 ≤ R) (h2 : R ≤ 2) (h3 : 1 ≤ C) (h4 : C ≤ 3) : dueB (R * C) (eqOf fun p => p / C) (eqOf fun p => p - p / C * C) = true := by
  obtain h | h : R = 1 ∨ R = 2 := by omega
  all_goals obtain k | k | k : C = 1 ∨ C = 2 ∨ C = 3 := by omega
  all_goals subst h; subst k; decide +kernel
theorem tabMet {R C : Nat} (h1 : 1 ≤ R) (h2 : R ≤ 2) (h3 : 1 ≤ C) (h4 : C ≤ 3) : rEq (R * C) (fun i j => eqOf (fun p => p / C) i j && eqOf (fun p => p - p / C * C) i j) (eqOf fun i => i) = true := by
  obtain h | h : R = 1 ∨ R = 2 := by omega
  all_goals obtain k | k | k : C = 1 ∨ C = 2 ∨ C = 3 := by omega
  all_goals subst h; subst k; decide +kernel
theorem tabBar {R C : Nat} (h2 : R = 2) (h3 : 2 ≤ C) (h4 : C ≤ 3) : dueB (R * C - 1) (eqOf fun p => p / C) (eqOf fun p => p - p / C * C) = false := by
  obtain k | k : C = 2 ∨ C = 3 := by omega
  all_goals subst h2; subst k; decide +kernel
theorem drawA {k : Int} : bin pAdd (.ok (.int 1)) (callM 2 m__law_draw (vCons (.ok .p) (vCons (vD (.ok (.int k))) vNil))) = (bDraw [.p, .d (.int k)]).bind fun y => pAdd (.int 1) y := by
  simp only [vD, vNil, vCons, m_ok, g_call2, bin]
theorem add1 {k : Nat} : pAdd (.int 1) (dI k) = .ok (dI (1 + k)) := g_addNN (a := 1)
theorem ltN {m k : Nat} : pLt (dI m) (.int k) = .ok (.bool (decide (m < k))) := by
  rw [g_ltI]
  congr 2
  exact decide_eq_decide.mpr (by omega)
theorem lt4 {m : Nat} : pLt (dI m) (.int 4) = .ok (.bool (decide (m < 4))) := ltN (k := 4)
theorem lt2 {m : Nat} : pLt (dI m) (.int 2) = .ok (.bool (decide (m < 2))) := ltN (k := 2)
theorem isFF : qIs (.bool false) (.bool false) = .ok (.bool true) := by rfl
theorem eqv_and (ha : Eqv n a) (hb : Eqv n b) : Eqv n fun i j => a i j && b i j :=
  ⟨fun i hi => by show (a i i && b i i) = true; rw [ha.refl i hi, hb.refl i hi]; rfl, fun i hi j hj h => by
    have h := Bool.and_eq_true _ _ ▸ h
    show (a j i && b j i) = true
    rw [ha.symm i hi j hj h.1, hb.symm i hi j hj h.2]; rfl, fun i hi j hj k hk h h2 => by
    have h := Bool.and_eq_true _ _ ▸ h
    have h2 := Bool.and_eq_true _ _ ▸ h2
    show (a i k && b i k) = true
    rw [ha.trans i hi j hj k hk h.1 h2.1, hb.trans i hi j hj k hk h.2 h2.2]; rfl⟩
theorem mulRep (hn : n ≤ 1000) : pMul (.list [.int 0]) (dI n) = .ok (.list ((List.range n).map fun _ => dI 0)) := by
  rw [pMul, if_pos ⟨by omega, by omega, by rw [big_size]; simp; omega⟩]
  congr 2
  rw [show ((n : Int)).toNat = n from Int.toNat_natCast n]
  induction n with
  | zero => rfl
  | succ n ih =>
    rw [List.replicate_succ', List.flatten_append, ih (by omega), List.range_succ, List.map_append]
    rfl
theorem wk_ne {u : Nat → Nat → Bool} {r : List Nat} (h : Wk n u i r) : r ≠ [] := by
  cases h with
  | one => exact fun h => nomatch h
  | snoc _ _ _ _ => exact fun h => by simp at h
theorem idx_last {r : List Nat} (h : r ≠ []) : pIdx (lstN r) (.int (-1)) = .ok (dI (lastN r)) := by
  have hl : 0 < r.length := List.length_pos_iff.mpr h
  have e : atI (r.map dI) (-1) = some (dI (lastN r)) := by
    have e1 : ixN (r.map dI).length (-1) = some (r.length - 1) := by
      rw [ixN, if_neg (by omega), if_pos (by rw [List.length_map]; omega), List.length_map]
      congr 1
      omega
    rw [atI, e1, Option.bind_some, List.getElem?_map]
    rw [← List.getLast?_eq_getElem?, lastN]
    cases q : r.getLast? with
    | none => exact absurd (List.getLast?_eq_none_iff.mp q) h
    | some x => rfl
  show (match atI (r.map dI) (-1) with | some d => M.ok d | none => M.err) = _
  rw [e]
theorem wk_last {u : Nat → Nat → Bool} (hi : i < n) {r : List Nat} (h : Wk n u i r) : lastN r < n := by
  cases h with
  | one => exact hi
  | snoc _ ht _ _ => rw [last_app]; exact ht
theorem neg1 : pNeg (.int 1) = .ok (.int (-1)) := rfl
theorem add_one {r : List Nat} {t : Nat} (h : r.length ≤ 1000) : pAdd (lstN r) (.list [dI t]) = .ok (lstN (r ++ [t])) := v_addL (a := r) (b := [t]) (by simp; omega)
theorem loopL_fin {u : Nat → Nat → Bool} {f : PyData → PyData → M (LB PyData PyData)} {g : LB PyData PyData → M PyData} (hn : n ≤ 6) (hf : ∀ d k L, k < 6 → Lev n u i k L → L.length ≤ 6 ^ k → f d (.list (L.map lstN)) = .ok ((L.find? fun r => lastN r == late).elim (.nx (.list ((extL n u L).map lstN))) fun r => .rt (lstN r))) (g1 : ∀ s, g (.nx s) = .ok .none) (g2 : ∀ r, g (.rt r) = .ok r) : (forL ((List.range n).map dI) (.list [.list [dI i]]) f).bind g = .ok ((chainL n u late n [[i]]).elim .none lstN) := by
  have lp := loopL (n := n) (u := u) (i := i) (late := late) hn hf ((List.range n).map dI) 0 [[i]] (lev_it 0) (Nat.le_refl 1) (by rw [List.length_map, List.length_range]; omega)
  obtain ⟨o, e, p⟩ := lp
  rw [show (PyData.list [.list [dI i]]) = .list ([[i]].map lstN) from rfl, e, m_ok]
  rw [List.length_map, List.length_range] at p
  cases q : chainL n u late n [[i]] with
  | none =>
    rw [q] at p
    obtain ⟨s, p⟩ := p
    rw [p, g1]; rfl
  | some r =>
    rw [q] at p
    have p : o = .rt (lstN r) := p
    rw [p, g2]; rfl
theorem pow6 {k : Nat} (h : k < 6) : 6 ^ k ≤ 7776 := by
  obtain h | h | h | h | h | h : k = 0 ∨ k = 1 ∨ k = 2 ∨ k = 3 ∨ k = 4 ∨ k = 5 := by omega
  all_goals subst h; decide
theorem loopW_fin {u : Nat → Nat → Bool} {c : PyData × List PyData → M Bool} {f : PyData × List PyData → M (LB (PyData × List PyData) PyData)} {g : LB (PyData × List PyData) PyData → M PyData} (hn : n ≤ 6) (hi : i < n)
    (hc : ∀ (B : List (List Nat)) (s : List PyData), c (.list (B.map lstN), s) = .ok (!decide (B = [])))
    (hf : ∀ (B : List (List Nat)) (S : Nat → Bool) (sn : List Nat), (∀ r ∈ B, Wk n u i r) → Sn n S sn → ∃ o, f (.list (B.map lstN), sn.map dI) = .ok o ∧ (B.find? fun r => lastN r == late).elim (∃ sn', o = .nx (.list ((firsts S (extB n u B)).map lstN), sn'.map dI) ∧ Sn n (after S (extB n u B)) sn') fun r => o = .rt (lstN r))
    (g1 : ∀ s, g (.nx s) = .ok .none) (g2 : ∀ r, g (.rt r) = .ok r) : (whileL fuel (.list [.list [dI i]], [dI i]) c f).bind g = .ok ((chainL n u late n [[i]]).elim .none lstN) := by
  have af : ∀ x, after (fun _ => false) [[i]] x = decide (x ∈ [i]) := fun x => by
    show (false || (x == lastN [i] || false)) = _
    rw [Bool.false_or, Bool.or_false, last_one]
    by_cases h : x = i
    · rw [h, beq_self_eq_true, decide_eq_true (List.mem_singleton.mpr rfl)]
    · rw [beq_eq_false_iff_ne.mpr h, decide_eq_false fun w => h (List.mem_singleton.mp w)]
  have lp := loopW (n := n) (u := u) (i := i) (late := late) hi hc hf n 0 [[i]] (fun _ => false) [i] fuel (lev_it 0) ⟨fun r hr x hx => by
    rw [List.mem_singleton.mp hr] at hx
    rw [af, decide_eq_true hx], (fun v hv => by cases hv)⟩ rfl (by omega) (by show n < 100000; omega) ⟨fun x => (af x).symm, List.nodup_cons.mpr ⟨List.not_mem_nil, List.nodup_nil⟩, fun x hx => by rw [List.mem_singleton.mp hx]; exact hi⟩
  obtain ⟨o, e, p⟩ := lp
  have e : whileL fuel (.list [.list [dI i]], [dI i]) c f = .ok o := e
  rw [e, m_ok]
  cases q : chainL n u late n [[i]] with
  | none =>
    rw [q] at p
    obtain ⟨s, p⟩ := p
    rw [p, g1]; rfl
  | some r =>
    rw [q] at p
    have p : o = .rt (lstN r) := p
    rw [p, g2]; rfl
theorem ne_lsts (P : List (List Nat)) : pNe (.list (P.map lstN)) (.list []) = .ok (.bool (!decide (P = []))) := by
  unfold pNe
  rw [if_pos]
  · cases P <;> rfl
  · rw [Bool.and_eq_true, Bool.and_eq_true]
    refine ⟨⟨plainAll_map lstN P fun l _ => plainAll_map dI l fun _ _ => rfl, rfl⟩, decide_eq_true ?_⟩
    exact Nat.le_trans (Nat.min_le_right _ _) (by rw [PyData.depth, PyData.depthAll]; omega)
theorem extB_snoc {u : Nat → Nat → Bool} {d : List (List Nat)} {r : List Nat} : extB n u (d ++ [r]) = extB n u d ++ (row n (u (lastN r))).map fun t => r ++ [t] := by
  rw [extB, List.flatMap_append, List.flatMap_cons, List.flatMap_nil, List.append_nil]; rfl
theorem after_one {S : Nat → Bool} {X : List (List Nat)} {q : List Nat} : after S (X ++ [q]) = fun x => after S X x || x == lastN q := by
  rw [after_app, after_cons, after_nil]
theorem firsts_one {S : Nat → Bool} {X : List (List Nat)} {q : List Nat} : firsts S (X ++ [q]) = firsts S X ++ (if after S X (lastN q) = true then [] else [q]) := by
  rw [firsts_app]; rfl
theorem v_thing (hi : i < n) : m_is_within [.d (dI i), .d (.int 0), .d (.int ((n : Int) - 1))] = .ok (.bool true) := by
  rw [v_is_within, decide_eq_true (by omega), decide_eq_true (by omega)]; rfl
theorem idxT0 {x : PyData} {ds : List PyData} : pIdx (.tuple (x :: ds)) (.int 0) = .ok x := by
  have e : atI (x :: ds) 0 = some x := atI_nat (x :: ds) (i := 0) (by simp)
  show (match atI (x :: ds) 0 with | some d => M.ok d | none => M.err) = _
  rw [e]
theorem idxT1 {x y : PyData} {ds : List PyData} : pIdx (.tuple (x :: y :: ds)) (.int 1) = .ok y := by
  have e : atI (x :: y :: ds) 1 = some y := atI_nat (x :: y :: ds) (i := 1) (by simp)
  show (match atI (x :: y :: ds) 1 with | some d => M.ok d | none => M.err) = _
  rw [e]
theorem wk_head {u : Nat → Nat → Bool} {r : List Nat} (h : Wk n u i r) : ∃ q, r = i :: q := by
  induction h with
  | one => exact ⟨[], rfl⟩
  | snoc _ _ _ _ ih =>
    obtain ⟨q, e⟩ := ih
    exact ⟨_, by rw [e, List.cons_append]⟩
theorem zip_snoc {t : Nat} : ∀ {r : List Nat} {p : Nat × Nat}, p ∈ (r ++ [t]).zip ((r ++ [t]).drop 1) → p ∈ r.zip (r.drop 1) ∨ p = (lastN r, t)
  | [], p, h => by simp at h
  | [x], p, h => by
    right
    simpa [lastN] using h
  | x :: y :: r, p, h => by
    rcases List.mem_cons.mp h with h | h
    · left
      rw [h]
      exact List.mem_cons_self
    · rcases zip_snoc (r := y :: r) h with h | h
      · left
        exact List.mem_cons_of_mem _ h
      · right
        rw [h]
        congr 1
theorem wk_adj {u : Nat → Nat → Bool} (hi : i < n) {r : List Nat} (h : Wk n u i r) : ∀ p ∈ r.zip (r.drop 1), p.1 < n ∧ p.2 < n ∧ u p.1 p.2 = true := by
  induction h with
  | one => exact fun p hp => by cases hp
  | snoc w ht hm hu ih =>
    intro p hp
    rcases zip_snoc hp with h | h
    · exact ih p h
    · rw [h]; exact ⟨wk_last hi w, ht, hu⟩
def paperD (n : Nat) (a b : Nat → Nat → Bool) (i : Nat) : Option (List Nat) → PyData
  | none => .tuple [.str "lot", .tuple ((row n (eith n a b i)).map dI)]
  | some r => .tuple [.str "chain", lstN r]
theorem notNL {ds : List PyData} : qIsNot (.list ds) .none = .ok (.bool true) := by rfl
theorem notNN : qIsNot .none .none = .ok (.bool false) := by rfl
theorem v_paper (hi : i < n) {o : Option (List Nat)} {f : PyData → M PyData} : M.bind (mIf (M.bind (bin qIsNot (.ok (o.elim .none lstN)) (.ok .none)) tru) (M.bind (aCons (.ok (.str "chain")) (aCons (.ok (o.elim .none lstN)) aNil)) mkTup) (M.bind (aCons (.ok (.str "lot")) (aCons (bin pIdx (.ok (rel n (eith n a b))) (.ok (dI i))) aNil)) mkTup)) f = f (paperD n a b i o) := by
  cases o with
  | none => simp only [Option.elim_none, g_bin, notNN, m_ok, g_tru, g_mIfF, v_ix hi, g_aNil, g_aCons, g_mkTup2]; rfl
  | some r => simp only [Option.elim_some, g_bin, notNL, m_ok, g_tru, g_mIfT, g_aNil, g_aCons, g_mkTup2]; rfl
theorem sNe20 : (("lot" : Str) == ("chain" : Str)) = false := by rfl
theorem isStr {x : Str} : pIsi "str" (.str x) = .ok (.bool true) := by rfl
theorem g_call5 {f : List AV → M PyData} {a b c d e : AV} : callM 5 f (.ok [a, b, c, d, e]) = f [a, b, c, d, e] := by rfl
theorem g_callK4 {f : List AV → M PyData} {a b c d : AV} : callKM 4 [3, 2, 1, 0] 4 f (.ok [a, b, c, d]) = f [d, c, b, a] := by rfl
theorem sh_lotS : Sh (.str "lot") 1000 0 := ⟨by decide +kernel, by rw [wid]; omega, by rw [PyData.depth]; omega⟩
theorem sh_chainS : Sh (.str "chain") 1000 0 := ⟨by decide +kernel, by rw [wid]; omega, by rw [PyData.depth]; omega⟩
theorem sh_paper (hn : n ≤ 6) (hi : i < n) : Sh (paperD n a b i (chainL n (fun i j => a i j || b i j) late n [[i]])) 3000 2 := by
  cases q : chainL n (fun i j => a i j || b i j) late n [[i]] with
  | none => exact sh_mono (sh_tup 2 (Nat.le_refl _) (sh_cons (sh_mono sh_lotS (Nat.le_refl _) (Nat.zero_le 1)) (sh_cons (sh_row (by omega)) (sh_nil (w := 0) (k := 0))))) (by omega) (Nat.le_refl 2)
  | some r =>
    obtain ⟨w, e⟩ := chainL_some (lev_it 0) q
    have len : r.length ≤ n := nodup_le w.nd (w.lt hi)
    exact sh_mono (sh_tup 2 (Nat.le_refl _) (sh_cons (sh_mono sh_chainS (Nat.le_refl _) (Nat.zero_le 1)) (sh_cons (sh_mono (sh_lst 20 (by rw [List.length_map]; omega) (sh_map fun z hz => sh_nat (by have := w.lt hi z hz; omega))) (by omega) (by omega)) (sh_nil (w := 0) (k := 0))))) (by omega) (Nat.le_refl 2)
theorem chain_isB {o : Option (List Nat)} : qIsNot (o.elim .none lstN) .none = .ok (.bool o.isSome) := by
  cases o with
  | none => rfl
  | some r => rfl
theorem chain_some (ha : Eqv n a) (hi : i < n) (hl : late < n) : (chainL n (fun i j => a i j || b i j) late n [[i]]).isSome = eith n a b i late := by
  cases q : chainL n (fun i j => a i j || b i j) late n [[i]] with
  | none => rw [none_eith ha hi hl q]; rfl
  | some r => rw [some_eith ha hi q]; rfl
theorem v_paper2 (hi : i < n) {o : Option (List Nat)} {g : PyData → M (LB Unit (LB Unit PyData))} : M.bind (mIf (M.bind (qIsNot (o.elim .none lstN) .none) tru) (.ok (.tuple [.str "chain", o.elim .none lstN])) ((aCons (.ok (.str "lot")) (aCons (pIdx (rel n (eith n a b)) (dI i)) (.ok []))).bind mkTup)) g = g (paperD n a b i o) := by
  cases o with
  | none => simp only [Option.elim_none, notNN, m_ok, g_tru, g_mIfF, v_ix hi, g_aCons, g_mkTup2]; rfl
  | some r => simp only [Option.elim_some, notNL, m_ok, g_tru, g_mIfT]; rfl
def allM : Nat → List (List Nat)
  | 0 => []
  | 1 => [[0]]
  | k + 2 => (allM (k + 1)).flatMap fun r => (List.range (r.foldl max 0 + 2)).map fun m => r ++ [m]
theorem fmax : ∀ (r : List Nat) (s : Nat), s ≤ r.foldl max s ∧ ∀ x ∈ r, x ≤ r.foldl max s
  | [], s => ⟨Nat.le_refl _, (fun _ h => nomatch h)⟩
  | y :: r, s => by
    obtain ⟨h1, h2⟩ := fmax r (max s y)
    rw [List.foldl_cons]
    refine ⟨by omega, fun x hx => ?_⟩
    rcases List.mem_cons.mp hx with hx | hx
    · rw [hx]; omega
    · exact h2 x hx
abbrev mkOf (r : List Nat) : Nat → Nat → Bool := eqOf fun i => r.getD i 0
theorem allM_len : ∀ {k : Nat} {r : List Nat}, r ∈ allM (k + 1) → r.length = k + 1
  | 0, r, h => by rw [List.mem_singleton.mp h]; rfl
  | k + 1, r, h => by
    rw [allM] at h
    obtain ⟨q, hq, h⟩ := List.mem_flatMap.mp h
    obtain ⟨m, _, rfl⟩ := List.mem_map.mp h
    rw [List.length_append, allM_len hq]; rfl
theorem getD_app {r : List Nat} {m i k : Nat} (h : r.length = k) : (r ++ [m]).getD i 0 = if i < k then r.getD i 0 else if i = k then m else 0 := by
  subst h
  split
  · rename_i h
    rw [List.getD_eq_getElem?_getD, List.getD_eq_getElem?_getD, List.getElem?_append_left h]
  · rename_i h
    split
    · rename_i h; subst h; simp
    · rw [List.getD_eq_getElem?_getD, List.getElem?_eq_none (by simp; omega)]; rfl
theorem getD_in {r : List Nat} {i : Nat} (h : i < r.length) : r.getD i 0 ∈ r := by
  rw [List.getD_eq_getElem?_getD, List.getElem?_eq_getElem h]
  exact List.getElem_mem h
theorem allM_full : ∀ {k : Nat} {e : Nat → Nat → Bool}, Eqv (k + 1) e → ∃ r ∈ allM (k + 1), ∀ i, i < k + 1 → ∀ j, j < k + 1 → e i j = mkOf r i j
  | 0, e, h => ⟨[0], List.mem_singleton.mpr rfl, fun i hi j hj => by
    have hi : i = 0 := by omega
    have hj : j = 0 := by omega
    subst hi; subst hj
    rw [h.refl 0 (by omega)]; rfl⟩
  | k + 1, e, h => by
    obtain ⟨r, hr, p⟩ := allM_full (k := k) (e := e) ⟨fun i hi => h.refl i (by omega), fun i hi j hj => h.symm i (by omega) j (by omega), fun i hi j hj l hl => h.trans i (by omega) j (by omega) l (by omega)⟩
    have len := allM_len hr
    have key : ∃ m, m < r.foldl max 0 + 2 ∧ ∀ i, i < k + 1 → e i (k + 1) = decide (m = r.getD i 0) := by
      by_cases c : ∃ j, j < k + 1 ∧ e j (k + 1) = true
      · obtain ⟨j, hj, q⟩ := c
        refine ⟨r.getD j 0, ?_, fun i hi => ?_⟩
        · have := (fmax r 0).2 _ (getD_in (i := j) (by omega))
          omega
        · have e1 := p i hi j hj
          show e i (k + 1) = mkOf r i j
          rw [← e1]
          exact beq_of ⟨fun w => h.trans i (by omega) (k + 1) (by omega) j (by omega) w (h.symm j (by omega) (k + 1) (by omega) q), fun w => h.trans i (by omega) j (by omega) (k + 1) (by omega) w q⟩
      · refine ⟨r.foldl max 0 + 1, by omega, fun i hi => ?_⟩
        have := (fmax r 0).2 _ (getD_in (i := i) (by omega))
        rw [decide_eq_false (by omega)]
        cases w : e i (k + 1) with
        | false => rfl
        | true => exact absurd ⟨i, hi, w⟩ c
    obtain ⟨m, hm, q⟩ := key
    refine ⟨r ++ [m], ?_, fun i hi j hj => ?_⟩
    · rw [allM]
      exact List.mem_flatMap.mpr ⟨r, hr, List.mem_map.mpr ⟨m, List.mem_range.mpr hm, rfl⟩⟩
    · show e i j = decide ((r ++ [m]).getD j 0 = (r ++ [m]).getD i 0)
      rw [getD_app len, getD_app len]
      by_cases hi2 : i < k + 1 <;> by_cases hj2 : j < k + 1
      · rw [if_pos hi2, if_pos hj2]
        exact p i hi2 j hj2
      · have e1 : j = k + 1 := by omega
        subst e1
        rw [if_pos hi2, if_neg hj2, if_pos rfl]
        exact q i hi2
      · have e1 : i = k + 1 := by omega
        subst e1
        rw [if_neg hi2, if_pos hj2, if_pos rfl]
        rw [show decide (r.getD j 0 = m) = decide (m = r.getD j 0) from decide_eq_decide.mpr eq_comm, ← q j hj2]
        exact beq_of ⟨h.symm _ (by omega) _ (by omega), h.symm _ (by omega) _ (by omega)⟩
      · have e1 : i = k + 1 := by omega
        have e2 : j = k + 1 := by omega
        subst e2; subst e1
        rw [if_neg hi2, if_pos rfl, h.refl _ (by omega)]
        exact (decide_eq_true rfl).symm
theorem idx_mark {r : List Nat} {i : Nat} (h : i < r.length) : pIdx (lstN r) (dI i) = .ok (dI (r.getD i 0)) := by
  have e : atI (r.map dI) (i : Int) = some (dI (r.getD i 0)) := by
    rw [atI_nat (r.map dI) (i := i) (by rw [List.length_map]; exact h), List.getElem_map, List.getD_eq_getElem?_getD, List.getElem?_eq_getElem h]
    rfl
  show (match atI (r.map dI) (i : Int) with | some d => M.ok d | none => M.err) = _
  rw [e]
theorem pIn_rels {L : List (List Nat)} : pIn (rel n e) (.list (L.map fun r => rel n (mkOf r))) = .ok (.bool (L.any fun r => rEq n (mkOf r) e)) := by
  have pl : ∀ {e : Nat → Nat → Bool}, (rel n e).plain = true := fun {e} => plainAll_map _ _ fun i _ => plainAll_map dI _ fun _ _ => rfl
  show (if _ then M.ok (PyData.bool _) else M.err) = _
  rw [if_pos]
  · congr 2
    rw [List.any_map]
    congr 1
    funext r
    exact rel_eqv
  · rw [Bool.and_eq_true, Bool.and_eq_true]
    exact ⟨⟨pl, plainAll_map _ _ fun r _ => pl⟩, decide_eq_true (Nat.le_trans rel_depth (by omega))⟩
theorem lt5 {m : Nat} : pLt (dI m) (.int 5) = .ok (.bool (decide (m < 5))) := ltN (k := 5)
theorem eqT0 {a : List Nat} : pEq (.tuple (a.map dI)) (.tuple []) = .ok (.bool (decide (a = []))) := v_eqT (b := [])
theorem eqL1 {l : List Nat} {f : Nat → List Nat} : pEq (.list (l.map fun i => tupN (f i))) (.list []) = .ok (.bool (decide (l = []))) := by
  have h := eq_tups (l.map f)
  rw [List.map_map] at h
  rw [show (l.map fun i => tupN (f i)) = l.map (tupN ∘ f) from rfl, h]
  congr 2
  exact decide_eq_decide.mpr List.map_eq_nil_iff
theorem eqL1' {l : List Nat} : pEq (.list (l.map fun i => .tuple [dI i])) (.list []) = .ok (.bool (decide (l = []))) := eqL1 (f := fun i => [i])
theorem row_nil {p : Nat → Bool} : decide (row n p = []) = (List.range n).all fun i => !p i := beq_of (by
  rw [decide_eq_true_eq, List.all_eq_true]
  constructor
  · intro h i hi
    cases hp : p i with
    | false => rfl
    | true =>
      have : i ∈ row n p := row_in.mpr ⟨List.mem_range.mp hi, hp⟩
      rw [h] at this
      cases this
  · exact fun h => row_none fun i hi => by simpa using h i (List.mem_range.mpr hi))
theorem some_row : decide (row n (fun i => decide (row n (r i) = [])) = []) = someB n r := row_nil
theorem col_row : decide (row n (fun i => decide (row n (fun j => r j i) = [])) = []) = someB n (fun i j => r j i) := row_nil
theorem kN1 : (("some" : Str) == ("self" : Str)) = false := by rfl
theorem kN2 : (("some" : Str) == ("noself" : Str)) = false := by rfl
theorem kN3 : (("each" : Str) == ("self" : Str)) = false := by rfl
theorem kN4 : (("each" : Str) == ("noself" : Str)) = false := by rfl
theorem kN5 : (("each" : Str) == ("some" : Str)) = false := by rfl
theorem kO1 : (("one" : Str) == ("self" : Str)) = false := by rfl
theorem kO2 : (("one" : Str) == ("noself" : Str)) = false := by rfl
theorem kO3 : (("one" : Str) == ("some" : Str)) = false := by rfl
theorem kO4 : (("one" : Str) == ("each" : Str)) = false := by rfl
theorem kO5 : (("one" : Str) == ("on" : Str)) = false := by rfl
theorem kO6 : (("one" : Str) == ("back" : Str)) = false := by rfl
theorem kO7 : (("one" : Str) == ("noback" : Str)) = false := by rfl
theorem kO8 : (("one" : Str) == ("single" : Str)) = false := by rfl
theorem kS1 : (("single" : Str) == ("self" : Str)) = false := by rfl
theorem kS2 : (("single" : Str) == ("noself" : Str)) = false := by rfl
theorem kS3 : (("single" : Str) == ("some" : Str)) = false := by rfl
theorem kS4 : (("single" : Str) == ("each" : Str)) = false := by rfl
theorem kS5 : (("single" : Str) == ("on" : Str)) = false := by rfl
theorem kS6 : (("single" : Str) == ("back" : Str)) = false := by rfl
theorem kS7 : (("single" : Str) == ("noback" : Str)) = false := by rfl
theorem kS8 : (("single" : Str) == ("one" : Str)) = false := by rfl
theorem gt1 {m : Nat} : pGt (dI m) (.int 1) = .ok (.bool (decide (1 < m))) := by
  rw [g_gtI]
  congr 2
  exact decide_eq_decide.mpr (by omega)
theorem slice1 {l : List Nat} : pSlice (.tuple (l.map dI)) none (some 1) = .ok (.tuple ((l.take 1).map dI)) := by
  rw [pSlice, cutD, List.map_take, List.length_map]
  cases l with
  | nil => rfl
  | cons a t => simp [HT.sIx]
theorem slice2 {l : List Nat} : pSlice (.tuple (l.map dI)) none (some 2) = .ok (.tuple ((l.take 2).map dI)) := by
  rw [pSlice, cutD, List.map_take, List.length_map]
  match l with
  | [] => rfl
  | [a] => rfl
  | a :: b :: t => simp [HT.sIx]
theorem addT1 {i : Nat} {b : List Nat} (h : b.length ≤ 1000) : pAdd (.tuple [dI i]) (.tuple (b.map dI)) = .ok (tupN (i :: b)) := v_addT (a := [i]) (b := b) (by simp; omega)
theorem addT2 {i : Nat} {b : List Nat} (h : b.length ≤ 1000) : pAdd (.tuple (b.map dI)) (.tuple [dI i]) = .ok (tupN (b ++ [i])) := v_addT (a := b) (b := [i]) (by simp; omega)
theorem fmap_tup (g : Nat → List (List Nat)) (l : List Nat) : l.flatMap (fun a => (g a).map tupN) = (l.flatMap g).map tupN := flat_maps g tupN l
theorem fl_len {g : Nat → List (List Nat)} (hg : ∀ i, (g i).length ≤ 1) : ∀ l : List Nat, (l.flatMap g).length ≤ l.length
  | [] => by simp
  | a :: l => by
    rw [List.flatMap_cons, List.length_append, List.length_cons]
    have := hg a
    have := fl_len hg l
    omega
theorem if_len {c : Prop} [Decidable c] {x : List Nat} : (if c then [x] else ([] : List (List Nat))).length ≤ 1 := by split <;> simp
theorem if_nil {g : Nat → List Nat} {u : Nat → Nat → Bool} : ((List.range n).flatMap fun i => if 1 < (row n (u i)).length then [g i] else []) = [] ↔ oneB n u = true := by
  unfold oneB
  rw [List.flatMap_eq_nil_iff, List.all_eq_true]
  refine forall_congr' fun i => forall_congr' fun _ => ?_
  rw [decide_eq_true_eq]
  split
  · simp; omega
  · simp; omega
theorem comp4 {f : PyData → M PyData} {a b c d : Str} {w x y z : Bool} (h1 : f (.str a) = .ok (.bool w)) (h2 : f (.str b) = .ok (.bool x)) (h3 : f (.str c) = .ok (.bool y)) (h4 : f (.str d) = .ok (.bool z)) : comp1 (.ok [.str a, .str b, .str c, .str d]) (fun _ => .ok true) f = .ok (.list [.bool w, .bool x, .bool y, .bool z]) := by
  unfold comp1
  simp only [m_ok, compL, if_true, h1, h2, h3, h4]
  exact g_mkLst4
theorem tup4 {a b c d : PyData} : mkTup [a, b, c, d] = .ok (.tuple [a, b, c, d]) := by
  unfold mkTup
  rw [if_pos (by rw [big_size]; simp)]
theorem all4 {w x y z : Bool} : bAll [.list [.bool w, .bool x, .bool y, .bool z]] = .ok (.bool (w && (x && (y && z)))) := by
  cases w <;> cases x <;> cases y <;> cases z <;> rfl
theorem bindX_inl {α β : Type} {a : α} {k : α → M (β ⊕ Exn)} : bindX (.ok (.inl a)) k = k a := by rfl
theorem bindX_inr {α β : Type} {z : Exn} {k : α → M (β ⊕ Exn)} : bindX (.ok (.inr z)) k = .ok (.inr z) := by rfl
theorem tryM_inl {S ρ : Type} {C : Str} {s : S} {mh : M S} {ks : S → M (ρ ⊕ Exn)} : tryM C (.ok (.inl s)) mh ks = ks s := by rfl
theorem tryM_inr {S ρ : Type} {C : Str} {mh : M S} {ks : S → M (ρ ⊕ Exn)} : tryM C (.ok (.inr (.own C))) mh ks = mh.bind ks := by
  unfold tryM
  rw [m_ok]
  dsimp only
  unfold czOne
  dsimp only
  rw [if_pos rfl]
theorem len_lit1 {α : Type} {a : α} : (([a] : List α).length = 1) = True := by simp
theorem map_eq_rel (hf : Mp n f) : (rel n fun i j => decide (row n (mapR f i) = row n (mapR f j))) = rel n (eqOf f) := rel_ext fun i hi j hj => by
  rw [map_rows hf hi hj]
  exact decide_eq_decide.mpr eq_comm
theorem v_rule_map (hn : n ≤ 1000) (hf : Mp n f) : m_by_rule [.d (dI n), .c 6 (lam2 fun one_1 late_2 => bin pEq (pIdx (rel n (mapR f)) one_1) (pIdx (rel n (mapR f)) late_2))] = .ok (rel n (eqOf f)) := by
  rw [v_by_rule hn _ (fun i j => decide (row n (mapR f i) = row n (mapR f j))) fun i j hi hj => by
    show bin pEq (pIdx (rel n (mapR f)) (dI i)) (pIdx (rel n (mapR f)) (dI j)) = _
    simp (maxSteps := 2000000) (disch := first | assumption | omega | exact List.mem_range.mp (by assumption) | exact (row_in.mp (by assumption)).1 | (rw [List.length_range]; omega) | exact Nat.le_trans row_len (by omega)) only [m_ok, g_vD, g_vNil, g_vCons, g_call1, g_call2, g_call3, g_call4, g_callK2, g_callK1, g_aNil, g_aCons, g_bin, g_tru, g_mNot, g_bNot, g_itemsL, g_itemsT, x_items, g_mkTup0, g_mkTup1, g_mkTup2, g_mkLst0, g_mkLst1, g_mkLst2, g_mkLst3, g_bTuple, g_bTupleT, x_bTuple, g_bListT, g_bListL, x_bList, v_len, g_lenT, g_lenL, List.length_range, v_rng1, v_bRg1, x_comp1, x_comp2, x_cxT, x_cx, v_bAll, v_bAny, fold_row, fold_rel, x_zipRR, v_ix, v_inRow, v_inRowL, v_notRow, v_notRowL, v_pIdx, v_pIdxL, g_eqNN, g_neNN, g_eqBB, g_neBB, v_eqT, v_neT, v_eqL, v_neL, v_relEqD, v_relNeD, g_mOrF, g_mOrT, g_mAndT, g_mAndF, g_bAndT, g_bAndF, g_bOrT, g_bOrF, g_mOr, g_mAnd, g_bAnd, g_bOr, Bool.not_true, Bool.not_false, Bool.false_eq_true, if_false, if_true, g_onL, g_mIfT, g_mIfF, g_isT, g_mkTup3, g_mul4, g_mkLst4, g_mkLst5, g_un2, g_isNotB, Bool.or_false, Bool.false_or, Bool.or_true, Bool.true_or, Bool.and_true, Bool.true_and, Bool.and_false, Bool.false_and], map_eq_rel hf]
theorem itemsM (hf : Mp n f) : items (rel n (mapR f)) = .ok ((List.range n).map fun i => .tuple [dI (f i)]) := by
  rw [← tup_map hf]; rfl
theorem bSetM (hn : n ≤ 60) (hf : Mp n f) : bSetX (.list ((List.range n).map fun i => dI (f i))) = .ok (.list ((row n (img n f)).map dI)) := by
  have h := v_bSetL (n := n) (l := (List.range n).map f) (fun i hi => by
    obtain ⟨j, hj, e⟩ := List.mem_map.mp hi
    rw [← e]
    exact hf j (List.mem_range.mp hj)) (by rw [List.length_map, List.length_range]; omega)
  rw [List.map_map] at h
  rw [show (fun i => dI (f i)) = dI ∘ f from rfl, h]
  congr 3
  refine row_ext fun i _ => beq_of ?_
  rw [decide_eq_true_eq, img_iff, List.mem_map]
  simp only [List.mem_range]
theorem ledM (hn : n ≤ 60) (hf : Mp n f) : (M.bind (M.bind (aCons (M.bind (comp1 (M.bind (.ok (rel n (mapR f))) items) (fun row_1 => (.ok true)) (fun row_1 => (bin pIdx (.ok row_1) (.ok (.int 0))))) bSetX) aNil) bTuple) fun d => .ok d) = .ok (.tuple ((row n (img n f)).map dI)) := by
  rw [m_ok, itemsM hf, v_comp' (fun i => dI (f i)) (by rw [List.length_range]; omega) fun i _ => by rw [g_bin]; exact idxT0, m_ok, bSetM hn hf]
  rfl
abbrev noMap : PyData := .list [.str "no map", .bool true]
theorem eqNo : pEq noMap noMap = .ok (.bool true) := by rfl
theorem eqTold {t : List Nat} : pEq (.list [rel n r, .tuple (t.map dI)]) noMap = .ok (.bool false) := by
  unfold pEq
  rw [if_pos]
  · rfl
  · rw [Bool.and_eq_true, Bool.and_eq_true]
    refine ⟨⟨?_, rfl⟩, decide_eq_true ?_⟩
    · show PyData.plainAll [rel n r, .tuple (t.map dI)] = true
      have a := (Bool.and_eq_true_iff.mp (Bool.and_eq_true_iff.mp (rel_okEq (n := n) (r := r) (s := r))).1).1
      have b := (Bool.and_eq_true_iff.mp (Bool.and_eq_true_iff.mp (row_ok (a := t) (b := t))).1).1
      simp only [PyData.plainAll, a, b, Bool.and_self]
    · exact Nat.le_trans (Nat.min_le_right _ _) (by decide)
theorem eqSelf {t : List Nat} : pEq (.list [rel n r, .tuple (t.map dI)]) (.list [rel n r, .tuple (t.map dI)]) = .ok (.bool true) := by
  refine v_eqSame ?_ ?_
  · have b : noB (.tuple (t.map dI)) = true := by rw [noB]; exact noBAll_map dI t fun _ _ => by rw [noB]
    simp only [noB, noBAll, rel_noB, Bool.and_true, Bool.true_and] at b ⊢
    exact b
  · rw [PyData.depth, PyData.depthAll, PyData.depthAll, PyData.depthAll, PyData.depth]
    have a := rel_depth (n := n) (r := r)
    have b := depthAll_map dI 0 t fun _ _ => by rw [PyData.depth]; omega
    omega
theorem mul_empty (h1 : 1 ≤ n) (hn : n ≤ 6) : pMul (.tuple [.tuple []]) (dI n) = .ok (rel n fun _ _ => false) := by
  rw [pMul, if_pos ⟨by simp, by omega, by omega, by simp⟩]
  congr 1
  unfold rel
  congr 1
  rw [show ((n : Int)).toNat = n from Int.toNat_natCast n]
  clear h1 hn
  have e : (PyData.tuple ((row n fun _ : Nat => false).map dI)) = .tuple [] := by rw [row_none fun _ _ => rfl]; rfl
  rw [List.map_congr_left (g := fun _ => PyData.tuple []) fun i _ => e, List.map_const', List.length_range]
  clear e
  generalize n = m
  induction m with
  | zero => rfl
  | succ m ih => rw [List.replicate_succ, List.replicate_succ, List.flatten_cons, ih]; rfl
/-! ### classes as sets of rows -/
abbrev intL (l : List Nat) : List Int := l.map fun i : Nat => (i : Int)
theorem tupI_N (l : List Nat) : tupI (intL l) = .tuple (l.map dI) := by rw [dI_map]
theorem tupsOf_map {α : Type} (F : α → List Int) : ∀ l : List α, tupsOf (l.map fun a => tupI (F a)) = some (l.map F)
  | [] => rfl
  | a :: l => by
    rw [List.map_cons, tupsOf, intsOf_mapI]
    dsimp only
    rw [tupsOf_map F l]
    rfl
theorem bSetX_tups {α : Type} (F : α → List Int) {l : List α} (h0 : l ≠ []) (hl : l.length < 64) : bSetX (.tuple (l.map fun a => tupI (F a))) = .ok (.list ((ssetL (l.map F)).map tupI)) := by
  have e1 : bSet (.tuple (l.map fun a => tupI (F a))) = .err := by
    cases l with
    | nil => exact absurd rfl h0
    | cons a t => rfl
  rw [bSetX, e1]
  dsimp only
  rw [bSetT, tupsOf_map]
  dsimp only
  rw [if_pos (by rw [List.length_map]; exact hl)]
theorem rel_tups : rel n r = .tuple ((List.range n).map fun i => tupI (intL (row n (r i)))) := by
  unfold rel
  congr 1
  exact List.map_congr_left fun i _ => (tupI_N _).symm
theorem bSet_rel (h1 : 1 ≤ n) (hn : n ≤ 6) : bSetX (rel n r) = .ok (.list ((ssetL ((List.range n).map fun i => intL (row n (r i)))).map tupI)) := by
  rw [rel_tups, bSetX_tups (fun i => intL (row n (r i))) (by simp; omega) (by simp; omega)]
theorem intL_inj {a b : List Nat} (h : intL a = intL b) : a = b := by
  induction a generalizing b with
  | nil => cases b with
    | nil => rfl
    | cons y b => cases h
  | cons x a ih => cases b with
    | nil => cases h
    | cons y b =>
      have h2 := List.cons.inj h
      rw [Int.ofNat.inj h2.1, ih h2.2]
theorem class_count (hf : Mp n f) : (ssetL ((List.range n).map fun i => intL (row n (eqOf f i)))).length = (row n (img n f)).length := by
  rw [← List.length_map (f := fun j => intL (row n fun k => decide (f k = j))) (as := row n (img n f))]
  refine mem_len ssetL_nodup ?_ fun z => ?_
  · refine List.pairwise_map.mpr (List.Pairwise.imp_of_mem (fun {a b} ha hb ne e => ne ?_) row_nd)
    have e2 := intL_inj e
    obtain ⟨i, hi, ei⟩ := img_iff.mp (row_in.mp ha).2
    have : i ∈ row n fun k => decide (f k = a) := row_in.mpr ⟨hi, decide_eq_true ei⟩
    rw [e2] at this
    exact ei.symm.trans (of_decide_eq_true (row_in.mp this).2)
  · rw [ssetL_mem, List.mem_map, List.mem_map]
    constructor
    · rintro ⟨i, hi, e⟩
      exact ⟨f i, row_in.mpr ⟨hf i (List.mem_range.mp hi), img_iff.mpr ⟨i, List.mem_range.mp hi, rfl⟩⟩, e⟩
    · rintro ⟨j, hj, e⟩
      obtain ⟨i, hi, ei⟩ := img_iff.mp (row_in.mp hj).2
      exact ⟨i, List.mem_range.mpr hi, by rw [← e, ← ei]⟩
theorem rgT (hn : n ≤ 1000) : bRgT (dI n) = .ok (.tuple ((row n fun _ => true).map dI)) := by
  have e : row n (fun _ => true) = List.range n := List.filter_eq_self.mpr fun _ _ => rfl
  rw [e]
  show (if 0 ≤ (n : Int) ∧ (n : Int) ≤ 16777216 then M.ok (PyData.tuple (rangeD 0 n)) else M.err) = _
  rw [if_pos ⟨by omega, by omega⟩, rangeD0]
theorem led_all (hf : Mp n f) : (row n fun j => (row n fun _ => true).any fun i => mapR f i j) = row n (img n f) := by
  have e : row n (fun _ => true) = List.range n := List.filter_eq_self.mpr fun _ _ => rfl
  rw [e]
  rfl
/-! ### squares -/
theorem whileS_succ {S : Type} {k : Nat} {s : S} {c : S → M Bool} {f : S → M S} : whileS (k + 1) s c f = (c s).bind fun b => if b = true then (f s).bind fun s' => whileS k s' c f else .ok s := by rfl
/-! ### chosen ones -/
theorem chosen_rel (h : Eqv n e) : PyData.tuple ((List.range n).map fun i => .tuple (((row n (e i)).take 1).map dI)) = rel n (mapR (lst n e)) := by
  rw [← tup_map (lst_map h)]
  congr 1
  refine List.map_congr_left fun i hi => ?_
  obtain ⟨t, ht⟩ := lst_head h (List.mem_range.mp hi)
  rw [ht]
  rfl
theorem eqOf_lst (h : Eqv n e) : rel n (eqOf (lst n e)) = rel n e := rel_ext fun i hi j hj => lst_eq h hi hj
theorem lst_twice (h : Eqv n e) : rel n (rThen n (mapR (lst n e)) (mapR (lst n e))) = rel n (mapR (lst n e)) := by
  rw [map_then (lst_map h)]
  exact rel_ext fun i hi j hj => by
    show decide (lst n e (lst n e i) = j) = _
    rw [lst_lst h hi]
/-! ### the law's classes: rows as they come -/
def dedL (F : Nat → List Nat) (l : List Nat) : List (List Nat) := l.foldl (fun acc a => if F a ∈ acc then acc else acc ++ [F a]) []
theorem dedL_snoc {F : Nat → List Nat} {l : List Nat} {a : Nat} : dedL F (l ++ [a]) = if F a ∈ dedL F l then dedL F l else dedL F l ++ [F a] := by
  unfold dedL
  rw [List.foldl_append]
  rfl
theorem dedL_len {F : Nat → List Nat} (l : List Nat) : (dedL F l).length ≤ l.length := by
  have aux : ∀ (l : List Nat) (acc : List (List Nat)), (l.foldl (fun acc a => if F a ∈ acc then acc else acc ++ [F a]) acc).length ≤ acc.length + l.length := fun l => by
    induction l with
    | nil => intro acc; simp
    | cons a l ih =>
      intro acc
      rw [List.foldl_cons, List.length_cons]
      by_cases h : F a ∈ acc
      · rw [if_pos h]
        have := ih acc
        omega
      · rw [if_neg h]
        have := ih (acc ++ [F a])
        rw [List.length_append, List.length_singleton] at this
        omega
  have := aux l []
  rw [List.length_nil, Nat.zero_add] at this
  exact this
theorem any_tups (a : List Nat) : ∀ P : List (List Nat), ((P.map tupN).any fun y => PyData.eqv y (tupN a)) = decide (a ∈ P)
  | [] => rfl
  | b :: P => by
    rw [List.map_cons, List.any_cons, any_tups a P]
    have e : PyData.eqv (tupN b) (tupN a) = decide (b = a) := by
      show PyData.eqvAll (b.map dI) (a.map dI) = _
      exact eqvAll_dI b a
    rw [e]
    refine beq_of ?_
    rw [Bool.or_eq_true, decide_eq_true_eq, decide_eq_true_eq, decide_eq_true_eq, List.mem_cons]
    exact or_congr_left eq_comm
theorem notIn_tups {a : List Nat} {P : List (List Nat)} : pNotIn (tupN a) (.list (P.map tupN)) = .ok (.bool (!decide (a ∈ P))) := by
  rw [pNotIn, if_pos, any_tups]
  rw [Bool.and_eq_true, Bool.and_eq_true]
  refine ⟨⟨plainAll_map dI a fun _ _ => rfl, plain_tups P⟩, decide_eq_true ?_⟩
  rw [PyData.depth]
  have := depthAll_map dI 0 a fun _ _ => by rw [PyData.depth]; omega
  omega
theorem lst_le (h : Eqv n e) {i : Nat} (hi : i < n) : lst n e i ≤ i := by
  obtain ⟨t, ht⟩ := lst_head h hi
  have m : i ∈ row n (e i) := row_in.mpr ⟨hi, h.refl i hi⟩
  have p := row_rise (n := n) (p := e i)
  rw [ht] at m p
  rcases List.mem_cons.mp m with q | q
  · omega
  · have := (List.pairwise_cons.mp p).1 i q
    omega
/-- the classes as they come: the rows of the least ones -/
theorem ded_reps (h : Eqv n e) : ∀ k, k ≤ n → dedL (fun i => row n (e i)) (List.range k) = (row k fun i => decide (lst n e i = i)).map fun i => row n (e i)
  | 0, _ => rfl
  | k + 1, hk => by
    rw [List.range_succ, dedL_snoc, ded_reps h k (by omega), row_succ, List.map_append]
    have le := lst_le h (show k < n by omega)
    by_cases q : lst n e k = k
    · rw [decide_eq_true q, if_pos rfl, if_neg]
      · rfl
      · intro m
        obtain ⟨j, hj, ej⟩ := List.mem_map.mp m
        have hj := row_in.mp hj
        have := (h.row (show j < n by omega) (show k < n by omega)).mp ej
        have := lst_same h (show j < n by omega) (show k < n by omega) this
        have := of_decide_eq_true hj.2
        omega
    · rw [decide_eq_false q, if_neg Bool.false_ne_true, List.map_nil, List.append_nil, if_pos]
      have a := lst_in h (show k < n by omega)
      refine List.mem_map.mpr ⟨lst n e k, row_in.mpr ⟨by omega, decide_eq_true (lst_lst h (by omega))⟩, ?_⟩
      exact ((h.row (show k < n by omega) a.1).mpr a.2).symm
theorem img_lst (h : Eqv n e) : row n (img n (lst n e)) = row n fun i => decide (lst n e i = i) := row_ext fun j hj => beq_of (by
  rw [img_iff, decide_eq_true_eq]
  constructor
  · rintro ⟨i, hi, q⟩
    rw [← q, lst_lst h hi]
  · exact fun q => ⟨j, hj, q⟩)
theorem heads_eq (h : Eqv n e) (hn : n ≤ 1000) : comp1 (.ok ((dedL (fun i => row n (e i)) (List.range n)).map tupN)) (fun _ => .ok true) (fun lot_3 => pIdx lot_3 (.int 0)) = .ok (.list ((row n (img n (lst n e))).map dI)) := by
  rw [ded_reps h n (Nat.le_refl _), img_lst h, List.map_map]
  refine v_comp' (e := tupN ∘ fun i => row n (e i)) dI (Nat.le_trans row_len (by omega)) fun i hi => ?_
  have hi2 := row_in.mp hi
  obtain ⟨t, ht⟩ := lst_head h hi2.1
  show pIdx (.tuple ((row n (e i)).map dI)) (.int 0) = _
  rw [ht, List.map_cons, idxT0, of_decide_eq_true hi2.2]
theorem map_erase' {α β : Type} (f : α → β) : ∀ (L : List α) (k : Nat), (L.map f).eraseIdx k = (L.eraseIdx k).map f
  | [], _ => by simp
  | x :: L, 0 => rfl
  | x :: L, k + 1 => by
    show f x :: (L.map f).eraseIdx k = f x :: (L.eraseIdx k).map f
    rw [map_erase' f L k]
theorem popAtN (L : List Nat) {k : Nat} (hk : k < L.length) (hl : L.length ≤ 1000) : pPopAt (L.map dI) (dI k) = some (dI L[k], (L.eraseIdx k).map dI) := by
  have e1 : ixN (L.map dI).length (k : Int) = some k := by
    unfold ixN
    rw [List.length_map]
    rw [if_pos (by omega), if_pos (by omega)]
    rfl
  unfold pPopAt
  dsimp only
  rw [if_pos (by rw [big_size, List.length_map]; omega), e1]
  dsimp only
  rw [List.getElem?_map, List.getElem?_eq_getElem hk]
  dsimp only [Option.map]
  rw [map_erase']
theorem perm_erase : ∀ (L : List Nat) {k : Nat} (hk : k < L.length), (L[k] :: L.eraseIdx k).Perm L
  | x :: L, 0, _ => .refl _
  | x :: L, k + 1, hk => by
    have hk' : k < L.length := Nat.lt_of_succ_lt_succ hk
    have ih := perm_erase L hk'
    show (L[k] :: x :: L.eraseIdx k).Perm (x :: L)
    exact (List.Perm.swap _ _ _).trans (.cons _ ih)
theorem nodup_inj {L : List Nat} (nd : L.Nodup) {i j : Nat} (hi : i < L.length) (hj : j < L.length) (e : L[i] = L[j]) : i = j := by
  rcases Nat.lt_trichotomy i j with h | h | h
  · exact absurd e (List.pairwise_iff_getElem.mp nd i j hi hj h)
  · exact h
  · exact absurd e.symm (List.pairwise_iff_getElem.mp nd j i hj hi h)
theorem ne_L {L : List Nat} : pNe (.list (L.map dI)) (.list []) = .ok (.bool (!decide (L = []))) := v_neL (b := [])
theorem s_comp2 {f : PyData → M PyData} {β : Type} [Inhabited β] {g : β → PyData} (hf : ∀ a, a < 2 → (f (dI a)).Sat fun d => ∃ x : β, d = g x) : (comp1 (rng1 [.int 2]) (fun _ => .ok true) f).Sat fun d => ∃ p : β × β, d = .list [g p.1, g p.2] := by
  have e : rng1 [.int 2] = .ok ((List.range 2).map dI) := v_rng1 (n := 2) (by omega)
  rw [e]
  exact (s_comp1 (g := fun _ x => g x) (by omega) hf).mono fun d ⟨h, e⟩ => ⟨(h 0, h 1), e⟩
/-- a drawn map -/
theorem s_map (h1 : 1 ≤ n) (hn : n ≤ 6) : (M.bind (aCons (comp1 (.ok ((List.range n).map dI)) (fun thing_4 => (.ok true)) (fun thing_4 => (M.bind (aCons (bDraw [.p, .d (dI n)]) (.ok [])) mkTup))) (.ok [])) bTuple).Sat fun d => ∃ f : { f // Mp n f }, d = rel n (mapR f.1) := by
  unfold aCons
  rw [M.sat_bind, M.sat_bind]
  refine (s_comp1 (g := fun _ (x : Nat) => .tuple [dI (x % n)]) (by omega) fun a ha => ?_).mono fun d ⟨h, e⟩ => ?_
  · rw [M.sat_bind, M.sat_bind]
    refine s_draw (by omega) (by omega) fun d hd => ?_
    refine s_ok (a := [dI d]) rfl ?_
    rw [g_mkTup1]
    exact ⟨d, by rw [Nat.mod_eq_of_lt hd]⟩
  · subst e
    exact ⟨⟨fun i => h i % n, fun i hi => Nat.mod_lt _ (by omega)⟩, by rw [← tup_map (fun i hi => Nat.mod_lt _ (by omega))]⟩
theorem naming_rel (hf : Mp n f) (hn : n ≤ 1000) : M.bind (aCons (comp1 (.ok ((List.range n).map fun i => dI (f i))) (fun late_7 => (.ok true)) (fun late_7 => (M.bind (aCons (.ok late_7) (.ok [])) mkTup))) (.ok [])) bTuple = .ok (rel n (mapR f)) := by
  rw [v_comp' (fun i => .tuple [dI (f i)]) (by rw [List.length_range]; omega) fun i _ => by rw [g_aCons, m_ok, g_mkTup1], g_aCons, m_ok, g_bTuple, tup_map hf]
theorem neNN' {a : Nat} : pNe (dI a) (dI a) = .ok (.bool false) := by
  rw [g_neNN, decide_eq_true rfl]
  rfl
theorem lotM (hf : Mp n f) : (row n fun late => (List.range n).any fun i => mapR f i late) = row n (img n f) := rfl
theorem stillM (hn : n ≤ 1000) : M.bind (aCons (comp1 (.ok ((List.range n).map dI)) (fun one_9 => (.ok true)) (fun one_9 => (M.bind (aCons (.ok one_9) (.ok [])) mkTup))) (.ok [])) bTuple = .ok (rel n fun i j => decide (i = j)) := naming_rel (f := fun i => i) (fun i hi => hi) hn
theorem sh_four {t : List Nat} (hn : n ≤ 20) {p : Nat → Bool} : Sh (.list [rel n r, rel n r, .tuple ((row n p).map dI), .tuple ((row n p).map dI)]) (3 + 4 * 10002) 3 :=
  sh_lst 4 (Nat.le_refl _) (sh_cons (sh_rel hn) (sh_cons (sh_rel hn) (sh_cons (sh_mono (sh_row hn) (by omega) (by omega)) (sh_cons (sh_mono (sh_row hn) (by omega) (by omega)) (sh_nil (w := 0) (k := 0))))))
theorem rgM (hn : n ≤ 1000) : M.bind (.ok (dI n)) bRgT = .ok (.tuple ((row n fun _ => true).map dI)) := rgT hn
theorem sh_two : ∀ {a b : Nat → Nat → Bool}, n ≤ 20 → Sh (.list [rel n a, rel n b]) (3 + 2 * 10002) 3 := fun {a b} h => sh_rels2 h
theorem g_un2L {α : Type} {a b : PyData} {f : PyData → PyData → M α} : un2L (.list [a, b]) f = f a b := by rfl
theorem is_one_eq : ((List.range n).all fun i => decide ((row n (r i)).length = 1)) = (someB n r && oneB n r) := beq_of (by
  unfold someB oneB
  rw [Bool.and_eq_true, List.all_eq_true, List.all_eq_true, List.all_eq_true]
  constructor
  · intro h
    refine ⟨fun i hi => ?_, fun i hi => ?_⟩
    · have := of_decide_eq_true (h i hi)
      cases q : row n (r i) with
      | nil => rw [q] at this; cases this
      | cons a t => rfl
    · have := of_decide_eq_true (h i hi)
      exact decide_eq_true (by omega)
  · rintro ⟨h1, h2⟩ i hi
    have a := h1 i hi
    have b := of_decide_eq_true (h2 i hi)
    cases q : row n (r i) with
    | nil => rw [q] at a; cases a
    | cons x t =>
      rw [q] at b
      exact decide_eq_true (by rw [List.length_cons] at b ⊢; omega))
theorem map_of (h : (someB n r && oneB n r) = true) : ∃ f, Mp n f ∧ rel n r = rel n (mapR f) := by
  rw [← is_one_eq, List.all_eq_true] at h
  have k : ∀ i, i < n → ∃ j, row n (r i) = [j] := fun i hi => by
    have := of_decide_eq_true (h i (List.mem_range.mpr hi))
    match q : row n (r i), this with
    | [j], _ => exact ⟨j, rfl⟩
  have hf : Mp n fun i => (row n (r i)).headD 0 := fun i hi => by
    obtain ⟨j, e⟩ := k i hi
    show (row n (r i)).headD 0 < n
    have : j ∈ row n (r i) := by rw [e]; exact List.mem_cons_self
    rw [e]
    exact (row_in.mp this).1
  refine ⟨_, hf, ?_⟩
  rw [← tup_map hf]
  unfold rel
  congr 1
  refine List.map_congr_left fun i hi => ?_
  obtain ⟨j, e⟩ := k i (List.mem_range.mp hi)
  rw [e]
  rfl
theorem namingC (hn : n ≤ 1000) : comp1 (items (.list ((List.range n).map fun i => dI (f i)))) (fun _ => .ok true) (fun late_7 => mkTup [late_7]) = .ok (.list ((List.range n).map fun i => .tuple [dI (f i)])) := by
  rw [g_itemsL, v_comp' (e := fun i => dI (f i)) (fun i => .tuple [dI (f i)]) (by rw [List.length_range]; omega) fun i _ => g_mkTup1]
theorem eq1 {m : Nat} : pEq (dI m) (.int 1) = .ok (.bool (decide (m = 1))) := g_eqNN (b := 1)
theorem empty_no (h1 : 1 ≤ n) : (someB n (fun _ _ => false) && oneB n fun _ _ => false) = false := by
  have : someB n (fun _ _ => false) = false := by
    unfold someB
    refine Bool.eq_false_iff.mpr fun h => ?_
    have := List.all_eq_true.mp h 0 (List.mem_range.mpr (by omega))
    rw [row_none fun _ _ => rfl] at this
    cases this
  rw [this]; rfl
/-! ### lists of pairs -/
theorem any_pairs (i j : Nat) : ∀ P : List (Nat × Nat), ((P.map pT).any fun y => PyData.eqv y (.tuple [dI i, dI j])) = decide ((i, j) ∈ P)
  | [] => rfl
  | x :: P => by
    rw [List.map_cons, List.any_cons, any_pairs i j P]
    have e : PyData.eqv (pT x) (.tuple [dI i, dI j]) = decide ([x.1, x.2] = [i, j]) := eqvAll_dI [x.1, x.2] [i, j]
    rw [e]
    refine beq_of ?_
    rw [Bool.or_eq_true, decide_eq_true_eq, decide_eq_true_eq, decide_eq_true_eq, List.mem_cons]
    refine or_congr_left ⟨fun h => ?_, fun h => ?_⟩
    · simp only [List.cons.injEq, and_true] at h
      exact Prod.ext h.1.symm h.2.symm
    · rw [← h]
theorem plain_pairs (P : List (Nat × Nat)) : PyData.plainAll (P.map pT) = true := plainAll_map pT P fun p _ => plainAll_map dI [p.1, p.2] fun _ _ => rfl
theorem pr_ok : ((PyData.tuple [dI i, dI j]).plain && PyData.plainAll (P.map pT) && decide ((PyData.tuple [dI i, dI j]).depth ≤ 60)) = true := by
  rw [plain_pairs, Bool.and_true]
  rfl
theorem in_pairs : pIn (.tuple [dI i, dI j]) (.list (P.map pT)) = .ok (.bool (decide ((i, j) ∈ P))) := by
  rw [pIn, if_pos pr_ok, any_pairs]
theorem in_pairsT : pIn (.tuple [dI i, dI j]) (.tuple (P.map pT)) = .ok (.bool (decide ((i, j) ∈ P))) := by
  rw [pIn, if_pos pr_ok, any_pairs]
theorem notIn_pairs : pNotIn (.tuple [dI i, dI j]) (.list (P.map pT)) = .ok (.bool (!decide ((i, j) ∈ P))) := by
  rw [pNotIn, if_pos pr_ok, any_pairs]
theorem prs_flat : (List.range n).flatMap (fun i => (row n (r i)).map fun j => .tuple [dI i, dI j]) = (prs n r).map pT := by
  unfold prs
  rw [List.map_flatMap]
  congr 1
  funext i
  rw [List.map_map]
  rfl
theorem by_prs : (rel n fun i j => decide ((i, j) ∈ prs n r)) = rel n r := rel_ext fun i hi j hj => beq_of (by
  rw [decide_eq_true_eq, mem_prs]
  exact ⟨fun h => h.2.2, fun h => ⟨hi, hj, h⟩⟩)
theorem un2_T {α : Type} {x : Nat × Nat} {f : PyData → PyData → M α} : un2 (pT x) f = f (dI x.1) (dI x.2) := by rfl
def thenP (n : Nat) (r s : Nat → Nat → Bool) : List (Nat × Nat) := (prs n r).flatMap fun x => ((prs n s).filter fun y => decide (y.1 = x.2)).map fun y => (x.1, y.2)
theorem thenP_rel : (rel n fun i j => decide ((i, j) ∈ thenP n r s)) = rel n (rThen n r s) := rel_ext fun i hi j hj => beq_of (by
  rw [decide_eq_true_eq, rThen_iff]
  unfold thenP
  rw [List.mem_flatMap]
  constructor
  · rintro ⟨x, hx, h⟩
    obtain ⟨y, hy, e⟩ := List.mem_map.mp h
    have hx := mem_prs.mp hx
    have hy2 := List.mem_filter.mp hy
    have hy1 := mem_prs.mp hy2.1
    have e3 := of_decide_eq_true hy2.2
    have e1 := congrArg Prod.fst e
    have e2 := congrArg Prod.snd e
    dsimp only at e1 e2
    refine ⟨x.2, hx.2.1, by rw [← e1]; exact hx.2.2, by rw [← e3, ← e2]; exact hy1.2.2⟩
  · rintro ⟨k, hk, h1, h2⟩
    exact ⟨(i, k), mem_prs.mpr ⟨hi, hk, h1⟩, List.mem_map.mpr ⟨(k, j), List.mem_filter.mpr ⟨mem_prs.mpr ⟨hk, hj, h2⟩, decide_eq_true rfl⟩, rfl⟩⟩)
theorem s_rowT (hn : n ≤ 1000000) {c : PyData → M Bool} {ρ : Type} {kk : List PyData → M ρ} {Q : ρ → Prop} (hc : ∀ a, a < n → (c (dI a)).Sat fun _ => True) (h : ∀ p : Nat → Bool, (kk ((row n p).map dI)).Sat Q) : (M.bind (comp1 (.ok ((List.range n).map dI)) c fun x => .ok x) fun d => onL d kk).Sat Q := by
  refine s_step (s_row hn hc) fun d ⟨p, e⟩ => ?_
  subst e
  exact h p
theorem drawB {x : PyData} : callM 2 m__law_draw (vCons (.ok .p) (vCons (vD (.ok x)) vNil)) = bDraw [.p, .d x] := by rfl
theorem s_zero {m : Nat} (h0 : 0 < m) (h1 : m < 1000000) : (M.bind (bin pEq (bDraw [.p, .d (dI m)]) (.ok (.int 0))) tru).Sat fun _ => True := by
  rw [show bin pEq (bDraw [.p, .d (dI m)]) (.ok (.int 0)) = (bDraw [.p, .d (dI m)]).bind fun x => pEq x (.int 0) from rfl, M.bind_assoc]
  refine s_drawK h0 h1 fun k hk => ?_
  rw [show pEq (dI k) (.int 0) = .ok (.bool (decide (k = 0))) from g_eqNN (b := 0)]
  exact trivial
theorem s_more {m : Nat} (h0 : 0 < m) (h1 : m < 1000000) : (M.bind (bin pGt (bDraw [.p, .d (dI m)]) (.ok (.int 0))) tru).Sat fun _ => True := by
  rw [show bin pGt (bDraw [.p, .d (dI m)]) (.ok (.int 0)) = (bDraw [.p, .d (dI m)]).bind fun x => pGt x (.int 0) from rfl, M.bind_assoc]
  refine s_drawK h0 h1 fun k hk => ?_
  rw [g_gtI]
  exact trivial
theorem s_or {m1 m2 : M Bool} {b : Bool} (h1 : m1 = .ok b) (h2 : m2.Sat fun _ => True) : (mOr m1 m2).Sat fun _ => True := by
  rw [h1]
  cases b with
  | true => exact trivial
  | false => exact h2
theorem s_and {m1 m2 : M Bool} {b : Bool} (h1 : m1 = .ok b) (h2 : m2.Sat fun _ => True) : (mAnd m1 m2).Sat fun _ => True := by
  rw [h1]
  cases b with
  | true => exact h2
  | false => exact trivial
theorem eqK2 {k : Nat} : pEq (dI k) (.int 2) = .ok (.bool (decide (k = 2))) := g_eqNN (b := 2)
theorem eqK3 {k : Nat} : pEq (dI k) (.int 3) = .ok (.bool (decide (k = 3))) := g_eqNN (b := 3)
theorem eqK4 {k : Nat} : pEq (dI k) (.int 4) = .ok (.bool (decide (k = 4))) := g_eqNN (b := 4)
theorem sum_len : ∀ l : List Nat, (l.map fun i => ((row n (r i)).length : Int)).sum = ((l.flatMap fun i => (row n (r i)).map fun j => (i, j)).length : Int)
  | [] => rfl
  | a :: l => by
    rw [List.map_cons, List.sum_cons, sum_len l, List.flatMap_cons, List.length_append, List.length_map]
    omega
theorem sumD : bSum [.list ((List.range n).map fun i => dI (row n (r i)).length)] = .ok (dI (prs n r).length) := by
  have h := g_bSum (l := (List.range n).map fun i => ((row n (r i)).length : Int))
  rw [List.map_map, sum_len] at h
  exact h
theorem len2 {a b : PyData} : bLen [.tuple [a, b]] = .ok (.int 2) := by rfl
theorem g_eq22 : pEq (.int 2) (.int 2) = .ok (.bool true) := by rfl
theorem v_is_pair {x : Nat × Nat} : m_is_tuple [.d (pT x), .d (.int 2)] = .ok (.bool true) := by
  simp only [m_is_tuple, g_isiTT, len2, g_eq22, m_ok, g_vD, g_vNil, g_vCons, g_call1, g_call2, g_call3, g_call4, g_callK2, g_callK1, g_aNil, g_aCons, g_bin, g_tru, g_mNot, g_bNot, g_itemsL, g_itemsT, x_items, g_mkTup0, g_mkTup1, g_mkTup2, g_mkLst0, g_mkLst1, g_mkLst2, g_mkLst3, g_bTuple, g_bTupleT, x_bTuple, g_bListT, g_bListL, x_bList, v_len, g_lenT, g_lenL, List.length_range, v_rng1, v_bRg1, x_comp1, x_comp2, x_cxT, x_cx, v_bAll, v_bAny, fold_row, fold_rel, x_zipRR, v_ix, v_inRow, v_inRowL, v_notRow, v_notRowL, v_pIdx, v_pIdxL, g_eqNN, g_neNN, g_eqBB, g_neBB, v_eqT, v_neT, v_eqL, v_neL, v_relEqD, v_relNeD, g_mOrF, g_mOrT, g_mAndT, g_mAndF, g_bAndT, g_bAndF, g_bOrT, g_bOrF, g_mOr, g_mAnd, g_bAnd, g_bOr, Bool.not_true, Bool.not_false, Bool.false_eq_true, if_false, if_true, g_onL, g_mIfT, g_mIfF, g_isT, g_mkTup3, g_mul4, g_mkLst4, g_mkLst5, g_un2, g_isNotB, Bool.or_false, Bool.false_or, Bool.or_true, Bool.true_or, Bool.and_true, Bool.true_and, Bool.and_false, Bool.false_and]
theorem v_thing' (h : i < n) : m_is_within [.d (dI i), .d (.int 0), .d (.int ((n : Int) - 1))] = .ok (.bool true) := by
  rw [v_is_within]
  congr 2
  rw [Bool.and_eq_true, decide_eq_true_eq, decide_eq_true_eq]
  omega
theorem sub1I : pSub (dI n) (.int 1) = .ok (.int ((n : Int) - 1)) := by rfl
theorem v_want_thing (h1 : 1 ≤ n) (hn : n ≤ 6) (hi : i < n) : m_want_thing [.d (rel n r), .d (dI i)] = .ok .none := by
  simp (maxSteps := 2000000) (disch := first | assumption | omega | exact List.mem_range.mp (by assumption) | exact (row_in.mp (by assumption)).1 | (rw [List.length_range]; omega) | exact Nat.le_trans row_len (by omega)) only [m_want_thing, sub1I, v_thing' hi, m_ok, g_vD, g_vNil, g_vCons, g_call1, g_call2, g_call3, g_call4, g_callK2, g_callK1, g_aNil, g_aCons, g_bin, g_tru, g_mNot, g_bNot, g_itemsL, g_itemsT, x_items, g_mkTup0, g_mkTup1, g_mkTup2, g_mkLst0, g_mkLst1, g_mkLst2, g_mkLst3, g_bTuple, g_bTupleT, x_bTuple, g_bListT, g_bListL, x_bList, v_len, g_lenT, g_lenL, List.length_range, v_rng1, v_bRg1, x_comp1, x_comp2, x_cxT, x_cx, v_bAll, v_bAny, fold_row, fold_rel, x_zipRR, v_ix, v_inRow, v_inRowL, v_notRow, v_notRowL, v_pIdx, v_pIdxL, g_eqNN, g_neNN, g_eqBB, g_neBB, v_eqT, v_neT, v_eqL, v_neL, v_relEqD, v_relNeD, g_mOrF, g_mOrT, g_mAndT, g_mAndF, g_bAndT, g_bAndF, g_bOrT, g_bOrF, g_mOr, g_mAnd, g_bAnd, g_bOr, Bool.not_true, Bool.not_false, Bool.false_eq_true, if_false, if_true, g_onL, g_mIfT, g_mIfF, g_isT, g_mkTup3, g_mul4, g_mkLst4, g_mkLst5, g_un2, g_isNotB, Bool.or_false, Bool.false_or, Bool.or_true, Bool.true_or, Bool.and_true, Bool.true_and, Bool.and_false, Bool.false_and]
theorem bothB {x y : M PyData} (h1 : x = .ok (.bool true)) (h2 : y = .ok (.bool true)) : bAnd x y = .ok (.bool true) := by rw [h1, h2]; rfl
theorem all_map {α : Type} {e : α → PyData} {f : PyData → M PyData} (l : List α) (hl : l.length ≤ 16777216) (hf : ∀ a ∈ l, f (e a) = .ok (.bool true)) : comp1 (.ok (l.map e)) (fun _ => .ok true) f = .ok (.list (l.map fun _ => .bool true)) := v_comp' (fun _ => .bool true) hl hf
theorem all_true {α : Type} (l : List α) : bAll [.list (l.map fun _ => .bool true)] = .ok (.bool true) := by
  rw [v_bAll l fun _ => true]
  congr 2
  exact List.all_eq_true.mpr fun _ _ => rfl
theorem mul_same (h1 : 1 ≤ n) (hn : n ≤ 6) : pMul (.tuple [.tuple ((row n p).map dI)]) (dI n) = .ok (rel n fun _ j => p j) := by
  rw [pMul, if_pos ⟨by simp, by omega, by omega, by simp⟩]
  congr 1
  unfold rel
  congr 1
  rw [show ((n : Int)).toNat = n from Int.toNat_natCast n]
  show (List.replicate n [PyData.tuple ((row n p).map dI)]).flatten = (List.range n).map fun _ => PyData.tuple ((row n p).map dI)
  rw [List.map_const', List.length_range]
  generalize PyData.tuple ((row n p).map dI) = t
  clear h1 hn
  generalize n = m
  induction m with
  | zero => rfl
  | succ m ih => rw [List.replicate_succ, List.replicate_succ, List.flatten_cons, ih]; rfl
theorem pw_sum {a b : Nat} : (rel n (rThen n (pw n r a) (pw n r b))) = rel n (pw n r (a + b)) := rel_ext fun i _ j hj => pw_add b j hj
theorem eq_prs : pEq (.list (P.map pT)) (.list []) = .ok (.bool (decide (P = []))) := by
  unfold pEq
  rw [if_pos]
  · cases P <;> rfl
  · rw [Bool.and_eq_true, Bool.and_eq_true]
    exact ⟨⟨plain_pairs P, rfl⟩, decide_eq_true (Nat.le_trans (Nat.min_le_right _ _) (by rw [PyData.depth, PyData.depthAll]; omega))⟩
theorem ne_prs : pNe (.list (P.map pT)) (.list []) = .ok (.bool (!decide (P = []))) := by
  unfold pNe
  rw [if_pos]
  · cases P <;> rfl
  · rw [Bool.and_eq_true, Bool.and_eq_true]
    exact ⟨⟨plain_pairs P, rfl⟩, decide_eq_true (Nat.le_trans (Nat.min_le_right _ _) (by rw [PyData.depth, PyData.depthAll]; omega))⟩
def toldP : List (Nat × Nat) → PyData
  | [] => .none
  | x :: _ => pT x
theorem told_prs : mIf (.ok (!decide (P = []))) (pIdx (.list (P.map pT)) (.int 0)) (.ok .none) = .ok (toldP P) := by
  cases P with
  | nil => rfl
  | cons x P =>
    show mIf (.ok true) (pIdx (.list (pT x :: P.map pT)) (.int 0)) (.ok .none) = _
    rw [g_mIfT, idx0]
    rfl
theorem rest_len (hn : n ≤ 6) {q : Nat × Nat → Bool} : ((prs n r).filter q).length ≤ 36 := Nat.le_trans (List.length_filter_le _ _) (prs_len hn)
theorem add_prs (h : P.length + Q.length ≤ 1000) : pAdd (.list (P.map pT)) (.list (Q.map pT)) = .ok (.list ((P ++ Q).map pT)) := by
  rw [pAdd, if_pos (by rw [big_size, List.length_map, List.length_map]; omega), List.map_append]
theorem by_join : (rel n fun i j => decide ((i, j) ∈ prs n r ++ prs n s)) = rel n fun i j => r i j || s i j := rel_ext fun i hi j hj => beq_of (by
  rw [decide_eq_true_eq, List.mem_append, mem_prs, mem_prs, Bool.or_eq_true]
  exact ⟨fun h => h.imp (fun h => h.2.2) (fun h => h.2.2), fun h => h.imp (fun h => ⟨hi, hj, h⟩) fun h => ⟨hi, hj, h⟩⟩)
theorem by_meet : (rel n fun i j => decide ((i, j) ∈ (prs n r).filter fun x => decide ((x.1, x.2) ∈ prs n s))) = rel n fun i j => r i j && s i j := rel_ext fun i hi j hj => beq_of (by
  rw [decide_eq_true_eq, List.mem_filter, mem_prs, decide_eq_true_eq, mem_prs, Bool.and_eq_true]
  exact ⟨fun h => ⟨h.1.2.2, h.2.2.2⟩, fun h => ⟨⟨hi, hj, h.1⟩, hi, hj, h.2⟩⟩)
theorem rest_eq : (prs n r).filter (fun x => !decide ((x.1, x.2) ∈ prs n s)) = (prs n r).filter fun x => !s x.1 x.2 := List.filter_congr fun x hx => by
  have h := mem_prs.mp hx
  congr 1
  refine beq_of ?_
  rw [decide_eq_true_eq, mem_prs]
  exact ⟨fun h => h.2.2, fun q => ⟨h.1, h.2.1, q⟩⟩
theorem rest_in : decide ((prs n r).filter (fun x => !s x.1 x.2) = []) = rIn n r s := beq_of (by
  rw [decide_eq_true_eq, List.filter_eq_nil_iff, rIn_iff]
  constructor
  · intro h i hi j hj a
    have := h (i, j) (mem_prs.mpr ⟨hi, hj, a⟩)
    simpa using this
  · intro h x hx
    have hx := mem_prs.mp hx
    have := h x.1 hx.1 x.2 hx.2.1 hx.2.2
    simp [this])
theorem told_in : mIf (.ok (!rIn n r s)) (pIdx (.list (((prs n r).filter fun x => !s x.1 x.2).map pT)) (.int 0)) (.ok .none) = .ok (toldP ((prs n r).filter fun x => !s x.1 x.2)) := by
  rw [← rest_in]
  exact told_prs
theorem then_turn : rEq n (fun i j => rThen n r s j i) (rThen n (fun i j => s j i) fun i j => r j i) = true := rEq_iff.mpr fun i hi j hj => beq_of (by
  rw [rThen_iff, rThen_iff]
  exact exists_congr fun k => and_congr_right fun _ => and_comm)
theorem others_join : rEq n (fun i j => !(r i j || s i j)) (fun i j => !r i j && !s i j) = true := rEq_iff.mpr fun i hi j hj => Bool.not_or _ _
theorem idxL2 {a b c : PyData} : pIdx (.list [a, b, c]) (.int 2) = .ok c := by rfl
theorem sh_rels3 {a b c : Nat → Nat → Bool} (hn : n ≤ 20) : Sh (.list [rel n a, rel n b, rel n c]) (3 + 3 * 10002) 3 := sh_lst 3 (Nat.le_refl _) (sh_cons (sh_rel hn) (sh_cons (sh_rel hn) (sh_cons (sh_rel hn) (sh_nil (w := 0) (k := 0)))))
theorem sh_pair {x : Nat × Nat} (h1 : x.1 < 1000) (h2 : x.2 < 1000) : Sh (pT x) 1000 1 := sh_mono (sh_tup 2 (by simp) (sh_cons (sh_nat (by omega)) (sh_cons (sh_nat (by omega)) (sh_nil (w := 0) (k := 0))))) (by omega) (by omega)
theorem sh_told (hP : ∀ x ∈ P, x.1 < 1000 ∧ x.2 < 1000) {b : Bool} : Sh (.list [.bool b, toldP P]) (3 + 2 * 1002) 2 := sh_lst 2 (Nat.le_refl _) (sh_cons (sh_mono sh_bool (by omega) (by omega)) (sh_cons (by
  cases P with
  | nil => exact sh_mono sh_none (by omega) (by omega)
  | cons x P => exact sh_pair (hP x List.mem_cons_self).1 (hP x List.mem_cons_self).2) (sh_nil (w := 0) (k := 0))))
/-! ### lists of relations -/
theorem canLay_all {α : Type} (F : α → PyData) : ∀ l : List α, (∀ a ∈ l, (F a).canLay0 = true) → PyData.canLayAll0 (l.map F) = true
  | [], _ => by rw [List.map_nil, PyData.canLayAll0]
  | a :: l, h => by
    rw [List.map_cons, PyData.canLayAll0, h a List.mem_cons_self, canLay_all F l fun b hb => h b (List.mem_cons_of_mem _ hb)]
    rfl
theorem rel_lay : (rel n r).canLay0 = true := by
  unfold rel
  rw [PyData.canLay0]
  refine canLay_all _ _ fun i _ => ?_
  rw [PyData.canLay0]
  exact canLay_all dI _ fun _ _ => by rw [PyData.canLay0]
theorem rel_shaped : SeqAt.shaped (rel n r) = true := by
  unfold SeqAt.shaped
  rw [rel_lay, Bool.true_and]
  exact decide_eq_true (Nat.le_trans rel_depth (by omega))
abbrev relsL (F : Nat → Nat → Nat → Bool) (n k : Nat) : List PyData := (List.range k).map fun t => rel n (F t)
theorem rels_plain (F : Nat → Nat → Nat → Bool) (l : List Nat) : PyData.plainAll (l.map fun t => rel n (F t)) = true := plainAll_map _ _ fun t _ => (Bool.and_eq_true_iff.mp (Bool.and_eq_true_iff.mp (rel_okEq (n := n) (r := F t) (s := F t))).1).1
theorem rels_shaped (F : Nat → Nat → Nat → Bool) (l : List Nat) : SeqAt.shaped (.list (l.map fun t => rel n (F t))) = true := by
  unfold SeqAt.shaped
  rw [PyData.canLay0, canLay_all _ _ fun t _ => rel_lay, Bool.true_and]
  refine decide_eq_true ?_
  rw [PyData.depth]
  have := depthAll_map (fun t => rel n (F t)) 2 l fun t _ => rel_depth
  omega
theorem rel_plain : (rel n r).plain = true := (Bool.and_eq_true_iff.mp (Bool.and_eq_true_iff.mp (rel_okEq (n := n) (r := r) (s := r))).1).1
theorem any_rels (F : Nat → Nat → Nat → Bool) : ∀ l : List Nat, ((l.map fun t => rel n (F t)).any fun y => PyData.eqv y (rel n r)) = l.any fun t => rEq n (F t) r
  | [] => rfl
  | a :: l => by rw [List.map_cons, List.any_cons, List.any_cons, any_rels F l, rel_eqv]
theorem notIn_rels (F : Nat → Nat → Nat → Bool) (l : List Nat) : pNotIn (rel n r) (.list (l.map fun t => rel n (F t))) = .ok (.bool (!l.any fun t => rEq n (F t) r)) := by
  rw [pNotIn, if_pos, any_rels]
  rw [rel_plain, rels_plain, Bool.true_and, Bool.true_and]
  exact decide_eq_true (Nat.le_trans rel_depth (by omega))
theorem index_rels (F : Nat → Nat → Nat → Bool) {k a : Nat} (ha : a < k) (h1 : rEq n (F a) r = true) (h2 : ∀ b, b < a → rEq n (F b) r = false) : pIndex (.list ((List.range k).map fun t => rel n (F t))) (rel n r) = .ok (dI a) := by
  rw [pIndex, if_pos (by rw [rels_plain, rel_plain, rels_shaped, rel_shaped]; rfl)]
  have e : ((List.range k).map fun t => rel n (F t)).findIdx? (fun z => PyData.eqv z (rel n r)) = some a := by
    rw [List.findIdx?_eq_some_iff_getElem]
    refine ⟨by simpa using ha, by rw [List.getElem_map, List.getElem_range, rel_eqv]; exact h1, fun b hb => ?_⟩
    rw [List.getElem_map, List.getElem_range, rel_eqv, h2 b hb]
    simp
  rw [e]
theorem idx_rels (F : Nat → Nat → Nat → Bool) {k a : Nat} (ha : a < k) : pIdx (.list ((List.range k).map fun t => rel n (F t))) (dI a) = .ok (rel n (F a)) := v_pIdxL _ ha
theorem idx_lastR (F : Nat → Nat → Nat → Bool) {k : Nat} : pIdx (.list ((List.range (k + 1)).map fun t => rel n (F t))) (.int (-1)) = .ok (rel n (F k)) := by
  have e : atI ((List.range (k + 1)).map fun t => rel n (F t)) (-1) = some (rel n (F k)) := by
    have e1 : ixN ((List.range (k + 1)).map fun t => rel n (F t)).length (-1) = some k := by
      rw [List.length_map, List.length_range, ixN, if_neg (by omega), if_pos (by omega)]
      congr 1
      omega
    have e2 : (List.range (k + 1))[k]? = some k := List.getElem?_range (Nat.lt_succ_self k)
    rw [atI, e1, Option.bind_some, List.getElem?_map, e2]
    rfl
  show (match atI ((List.range (k + 1)).map fun t => rel n (F t)) (-1) with | some d => M.ok d | none => M.err) = _
  rw [e]
theorem slice_lastR (F : Nat → Nat → Nat → Bool) {k : Nat} : pSlice (.list ((List.range (k + 1)).map fun t => rel n (F t))) none (some (-1)) = .ok (.list ((List.range k).map fun t => rel n (F t))) := by
  rw [pSlice, cutD, List.length_map, List.length_range]
  have e1 : HT.sIx (k + 1) (k + 1) (some (-1)) = k := by
    have z : ((-1 : Int) + ((k + 1 : Nat) : Int)).toNat = k := by omega
    exact z
  rw [e1]
  show M.ok (PyData.list ((((List.range (k + 1)).map fun t => rel n (F t)).drop 0).take (k - 0))) = _
  rw [List.drop_zero, Nat.sub_zero, ← List.map_take, List.take_range, Nat.min_eq_left (by omega)]
/-- the law's row of powers -/
def endW (n : Nat) (r : Nat → Nat → Bool) (s : List PyData) : Prop := ∃ k a, k ≤ 2300 ∧ a < k ∧ s = (List.range (k + 1)).map (fun t => rel n (pw n r t)) ∧ rEq n (pw n r a) (pw n r k) = true ∧ ∀ b, b < a → rEq n (pw n r b) (pw n r k) = false
theorem first_at {q : Nat → Bool} {k : Nat} (h : (List.range k).any q = true) : ∃ a, a < k ∧ q a = true ∧ ∀ b, b < a → q b = false := by
  induction k with
  | zero => cases h
  | succ k ih =>
    by_cases e : (List.range k).any q = true
    · obtain ⟨a, h1, h2, h3⟩ := ih e
      exact ⟨a, by omega, h2, h3⟩
    · rw [List.range_succ, List.any_append, Bool.eq_false_iff.mpr e, Bool.false_or] at h
      refine ⟨k, Nat.lt_succ_self k, by simpa using h, fun b hb => ?_⟩
      refine Bool.eq_false_iff.mpr fun hq => e (List.any_eq_true.mpr ⟨b, List.mem_range.mpr hb, hq⟩)
theorem neg1' : pNeg (.int 1) = .ok (.int (-1)) := rfl
theorem s_drawBig {n : Nat} {Q : PyData → Prop} (h0 : 0 < n) (h1 : n < 1073741824) (h : ∀ d, d < n → Q (dI d)) : (bDraw [.p, .d (dI n)]).Sat Q := by
  unfold bDraw
  show (if (n : Int) < drawTop then M.draw (n : Int) fun d => M.ok (PyData.int d) else M.err).Sat Q
  rw [if_pos (by rw [drawTop_eq]; omega)]
  refine ⟨by omega, fun d d0 d1 => ?_⟩
  obtain ⟨k, rfl⟩ := Int.eq_ofNat_of_zero_le d0
  exact h k (by omega)
/-- the law's numbers of times -/
theorem s_times : (aCons (bDraw [AV.p, AV.d (PyData.int 12)]) (aCons (bin pAdd (bin pMul (callM 2 m__law_draw (vCons (M.ok AV.p) (vCons (vD (pPow (PyData.int 10) (PyData.int 9))) (M.ok [])))) (pPow (PyData.int 10) (PyData.int 15))) (callM 2 m__law_draw (vCons (M.ok AV.p) (vCons (vD (pPow (PyData.int 10) (PyData.int 6))) (M.ok []))))) (M.ok []))).Sat fun ds => ∃ a b : Nat, a < 2 ^ 100 ∧ b < 2 ^ 100 ∧ ds = [dI a, dI b] := by
  have p9 : pPow (.int 10) (.int 9) = .ok (.int 1000000000) := by rfl
  have p15 : pPow (.int 10) (.int 15) = .ok (.int 1000000000000000) := by rfl
  have p6 : pPow (.int 10) (.int 6) = .ok (.int 1000000) := by rfl
  rw [p9, p15, p6]
  simp only [g_vD, g_vCons, g_call2]
  unfold aCons
  rw [M.sat_bind]
  refine s_draw (n := 12) (by omega) (by omega) fun a ha => ?_
  rw [M.sat_bind]
  unfold bin
  refine s_bind (s_bind (s_bind ?_))
  refine s_drawBig (n := 1000000000) (by omega) (by omega) fun b hb => ?_
  rw [m_ok]
  have em : pMul (dI b) (.int 1000000000000000) = .ok (dI (b * 1000000000000000)) := g_mulI (b := 1000000000000000) (.inr ⟨by omega, by omega⟩)
  rw [em]
  show M.Sat (M.bind (bDraw [.p, .d (dI 1000000)]) _) _
  refine s_bind (s_drawBig (n := 1000000) (by omega) (by omega) fun c hc => ?_)
  rw [g_addNN]
  exact ⟨a, b * 1000000000000000 + c, by omega, by omega, rfl⟩
/-- the power that is due -/
theorem due_pow {t k a : Nat} (ha : a < k) (h : rEq n (pw n r a) (pw n r k) = true) :
    mIf ((bin pLt (.ok (dI t)) (bLen [PyData.list ((List.range (k + 1)).map fun t => rel n (pw n r t))])).bind tru) (pIdx (.list ((List.range (k + 1)).map fun t => rel n (pw n r t))) (dI t))
      (bin pIdx (.ok (.list ((List.range (k + 1)).map fun t => rel n (pw n r t)))) (bin pAdd (.ok (dI a)) ((aCons (bin pMod (pSub (dI t) (dI a)) (bin pSub (bin pSub (bLen [PyData.list ((List.range (k + 1)).map fun t => rel n (pw n r t))]) (.ok (.int 1))) (.ok (dI a)))) (.ok [])).bind bInt))) = .ok (rel n (pw n r t)) := by
  rw [g_lenL, List.length_range, g_bin, g_ltI, m_ok, g_tru]
  by_cases c : (t : Int) < ((k + 1 : Nat) : Int)
  · rw [decide_eq_true c, g_mIfT, idx_rels (pw n r) (by omega)]
  · rw [decide_eq_false c, g_mIfF, g_subNN (show a ≤ t by omega), g_bin, g_sub1 (show 1 ≤ k + 1 by omega), g_bin, g_subNN (show a ≤ k + 1 - 1 by omega), g_bin]
    rw [show k + 1 - 1 - a = k - a by omega]
    rw [g_modI (show ((k - a : Nat) : Int) ≠ 0 by omega), g_aCons, m_ok, g_bIntI, Int.fmod_eq_emod_of_nonneg _ (by omega)]
    show bin pIdx _ (bin pAdd (.ok (dI a)) (.ok (dI ((t - a) % (k - a))))) = _
    have lt : (t - a) % (k - a) < k - a := Nat.mod_lt _ (by omega)
    rw [g_bin, g_addNN, g_bin, idx_rels (pw n r) (by omega)]
    rw [show k = a + (k - a) by omega] at h
    rw [pw_mod h (show a ≤ t by omega)]
theorem comp1_bind {m : M PyData} {k : PyData → M (List PyData)} {c : PyData → M Bool} {f : PyData → M PyData} : comp1 (M.bind m k) c f = M.bind m fun d => comp1 (k d) c f := by
  unfold comp1
  rw [M.bind_assoc]
theorem sliceL1 {α : Type} {e : α → PyData} {l : List α} : pSlice (.list (l.map e)) none (some 1) = .ok (.list ((l.take 1).map e)) := by
  rw [pSlice, cutD, List.map_take, List.length_map]
  cases l with
  | nil => rfl
  | cons a t => simp [HT.sIx]
theorem idx_prs {k : Nat} (h : k < P.length) : pIdx (.list (P.map pT)) (dI k) = .ok (pT (P.getD k (0, 0))) := by
  have e : atI (P.map pT) (k : Int) = some (pT P[k]) := by
    rw [atI_nat _ (by rw [List.length_map]; exact h), List.getElem_map]
  rw [List.getD_eq_getElem?_getD, List.getElem?_eq_getElem h]
  show (match atI (P.map pT) (k : Int) with | some d => M.ok d | none => M.err) = _
  rw [e]
  rfl
/-- pairs mixed -/
theorem mixed_comp (hP : P.length ≤ 36) (hg : Mp P.length g) : comp1 (.ok ((List.range P.length).map fun i => dI (g i))) (fun _ => .ok true) (fun at_4 => pIdx (.list (P.map pT)) at_4) = .ok (.list (((List.range P.length).map fun i => P.getD (g i) (0, 0)).map pT)) := by
  rw [v_comp' (e := fun i => dI (g i)) (fun i => pT (P.getD (g i) (0, 0))) (by rw [List.length_range]; omega) fun i hi => idx_prs (hg i (List.mem_range.mp hi)), List.map_map]
  rfl
theorem mixed_mem (hg : Mp P.length g) (hi : Inj P.length g) {x : Nat × Nat} : x ∈ ((List.range P.length).map fun i => P.getD (g i) (0, 0)) ↔ x ∈ P := by
  rw [List.mem_map]
  constructor
  · rintro ⟨i, h, e⟩
    have h2 := hg i (List.mem_range.mp h)
    rw [List.getD_eq_getElem?_getD, List.getElem?_eq_getElem h2] at e
    rw [← e]
    exact List.getElem_mem h2
  · intro h
    obtain ⟨k, hk, e⟩ := List.getElem_of_mem h
    obtain ⟨i, hi2, e2⟩ := inj_onto hg hi hk
    exact ⟨i, List.mem_range.mpr hi2, by rw [e2, List.getD_eq_getElem?_getD, List.getElem?_eq_getElem hk, ← e]; rfl⟩
theorem by_mem (h : ∀ x, x ∈ P ↔ x ∈ prs n r) : (rel n fun i j => decide ((i, j) ∈ P)) = rel n r := by
  rw [← by_prs (n := n) (r := r)]
  exact rel_ext fun i _ j _ => decide_eq_decide.mpr (h (i, j))
theorem mem_more {x : Nat × Nat} : x ∈ P ++ P.take 1 ↔ x ∈ P := by
  rw [List.mem_append]
  exact ⟨fun h => h.elim id List.mem_of_mem_take, .inl⟩
theorem by_back : (rel n fun i j => decide ((i, j) ∈ (prs n r).map fun x => (x.2, x.1))) = rel n fun i j => r j i := rel_ext fun i hi j hj => beq_of (by
  rw [decide_eq_true_eq, List.mem_map]
  constructor
  · rintro ⟨x, hx, e⟩
    have hx := mem_prs.mp hx
    have e1 := congrArg Prod.fst e
    have e2 := congrArg Prod.snd e
    dsimp only at e1 e2
    rw [← e1, ← e2]
    exact hx.2.2
  · exact fun h => ⟨(j, i), mem_prs.mpr ⟨hj, hi, h⟩, rfl⟩)
theorem sh_prs (hn : n ≤ 6) : Sh (.list ((prs n r).map pT)) (3 + 36 * 1002) 2 := sh_lst 36 (by rw [List.length_map]; exact prs_len hn) (sh_map fun x hx => sh_pair (by have := mem_prs.mp hx; omega) (by have := mem_prs.mp hx; omega))
theorem sh_four11 (hn : n ≤ 6) {a b : Nat → Nat → Bool} {k : Nat} (hk : k ≤ 1000) : Sh (.list [.list ((prs n r).map pT), dI k, rel n a, rel n b]) (3 + 4 * (36075 + 2)) 3 :=
  sh_lst 4 (Nat.le_refl _) (sh_cons (sh_mono (sh_prs hn) (by omega) (by omega)) (sh_cons (sh_mono (sh_nat (by omega)) (by omega) (by omega)) (sh_cons (sh_mono (sh_rel (by omega)) (by omega) (by omega)) (sh_cons (sh_mono (sh_rel (by omega)) (by omega) (by omega)) (sh_nil (w := 0) (k := 0))))))
theorem sh_fourB (hn : n ≤ 6) {a b : Nat → Nat → Bool} {k : Nat} (hk : k ≤ 1000) : Sh (.list [rel n a, rel n b, .list ((prs n r).map pT), dI k]) (3 + 4 * (36075 + 2)) 3 :=
  sh_lst 4 (Nat.le_refl _) (sh_cons (sh_mono (sh_rel (by omega)) (by omega) (by omega)) (sh_cons (sh_mono (sh_rel (by omega)) (by omega) (by omega)) (sh_cons (sh_mono (sh_prs hn) (by omega) (by omega)) (sh_cons (sh_mono (sh_nat (by omega)) (by omega) (by omega)) (sh_nil (w := 0) (k := 0))))))
theorem sh_due (hn : n ≤ 6) {b : Bool} {p q w : Nat → Bool} : Sh (.list [.bool b, .tuple ((row n p).map dI), .tuple ((row n q).map dI), .tuple ((row n w).map dI)]) (3 + 4 * 1002) 2 :=
  sh_lst 4 (Nat.le_refl _) (sh_cons (sh_mono sh_bool (by omega) (by omega)) (sh_cons (sh_row (by omega)) (sh_cons (sh_row (by omega)) (sh_cons (sh_row (by omega)) (sh_nil (w := 0) (k := 0))))))
theorem any_prs : (row n fun to => (row n p).any fun h => decide ((h, to) ∈ prs n r)) = row n fun to => (row n p).any fun h => r h to := row_ext fun j hj => beq_of (by
  rw [List.any_eq_true, List.any_eq_true]
  refine exists_congr fun i => and_congr_right fun hi => ?_
  rw [decide_eq_true_eq, mem_prs]
  exact ⟨fun h => h.2.2, fun h => ⟨(row_in.mp hi).1, hj, h⟩⟩)
theorem all_prs : (row n fun to => (row n p).all fun h => decide ((h, to) ∈ prs n r)) = row n fun to => (row n p).all fun h => r h to := row_ext fun j hj => beq_of (by
  rw [List.all_eq_true, List.all_eq_true]
  refine forall_congr' fun i => forall_congr' fun hi => ?_
  rw [decide_eq_true_eq, mem_prs]
  exact ⟨fun h => h.2.2, fun h => ⟨(row_in.mp hi).1, hj, h⟩⟩)
theorem those_prs (hi : i < n) : (row n fun h => decide ((h, i) ∈ prs n r)) = row n fun h => r h i := row_ext fun j hj => beq_of (by
  rw [decide_eq_true_eq, mem_prs]
  exact ⟨fun h => h.2.2, fun h => ⟨hj, hi, h⟩⟩)
theorem in_prs (hi : i < n) (hj : j < n) : decide ((i, j) ∈ prs n r) = r i j := beq_of (by
  rw [decide_eq_true_eq, mem_prs]
  exact ⟨fun h => h.2.2, fun h => ⟨hi, hj, h⟩⟩)
theorem backC (hn : n ≤ 6) : comp2' (.ok ((prs n r).map pT)) (fun _ _ => .ok true) (fun one_7 late_8 => mkTup [late_8, one_7]) = .ok (.list (((prs n r).map fun x => (x.2, x.1)).map pT)) := by
  have l1 : (prs n r).length ≤ 36 := prs_len hn
  rw [v_comp2' (e1 := fun x : Nat × Nat => dI x.1) (e2 := fun x => dI x.2) (fun x => .tuple [dI x.2, dI x.1]) (by omega) fun x _ => g_mkTup2, List.map_map]
  rfl
theorem sa_rowTup {ρ : Type} (hb : n < 1000000) {c : PyData → M Bool} {kk : PyData → M ρ} {Q : ρ → Prop} (hc : ∀ a, a < n → (c (dI a)).Sat fun _ => True) (h : ∀ p : Nat → Bool, Sa (kk (.tuple ((row n p).map dI))) Q) : Sa (M.bind (aCons (comp1 (rng1 [dI n]) c fun x => .ok x) (.ok [])) fun a => M.bind (bTuple a) kk) Q := by
  refine sa_step (P := fun ds => ∃ p : Nat → Bool, ds = [.list ((row n p).map dI)]) ?_ fun ds ⟨p, e⟩ => ?_
  · rw [sa_iff]
    unfold aCons
    rw [M.sat_bind, v_rng1 hb]
    refine (s_row (by omega) hc).mono fun d ⟨p, e⟩ => ?_
    subst e
    exact ⟨p, rfl⟩
  · subst e
    rw [g_bTuple, m_ok]
    exact h p
theorem g_callK3 {f : List AV → M PyData} {a b c : AV} : callKM 3 [2, 1, 0] 3 f (.ok [a, b, c]) = f [c, b, a] := by rfl
theorem lt_two {a b : PyData} : (([a, b] : List PyData).length < sizeLine) = True := eq_true (by rw [big_size]; simp)
theorem lt_three {a b c : PyData} : (([a, b, c] : List PyData).length < sizeLine) = True := eq_true (by rw [big_size]; simp)
theorem s_forL {ρ : Type} {f : PyData → Unit → M (LB Unit ρ)} : ∀ l : List Nat, (∀ k ∈ l, (f (dI k) ()).Sat fun lb => lb = .nx ()) → (forL (l.map dI) () f).Sat fun lb => lb = .nx ()
  | [], _ => rfl
  | a :: l, h => by
    rw [List.map_cons, forL]
    refine s_step (h a List.mem_cons_self) fun lb e => ?_
    subst e
    exact s_forL l fun k hk => h k (List.mem_cons_of_mem _ hk)
theorem sa_notOr {ρ : Type} {m : M PyData} {m2 : M Bool} {k : Bool → M ρ} {Q : ρ → Prop} (h : m.Sat fun d => d = .bool true) (h2 : Sa (M.bind m2 k) Q) : Sa (M.bind (mOr (mNot (M.bind m tru)) m2) k) Q := by
  rw [sa_iff] at h2 ⊢
  have e : (mOr (mNot (M.bind m tru)) m2).bind k = m.bind fun d => (M.bind (mOr (mNot (tru d)) m2) k) := by
    unfold mOr mNot
    simp only [M.bind_assoc]
  rw [e]
  refine s_step h fun d hd => ?_
  subst hd
  exact h2
theorem then_or : rEq n (rThen n (fun i j => r i j || s i j) t) (fun i j => rThen n r t i j || rThen n s t i j) = true := rEq_iff.mpr fun i hi j hj => beq_of (by
  rw [Bool.or_eq_true, rThen_iff, rThen_iff, rThen_iff]
  constructor
  · rintro ⟨k, hk, h1, h2⟩
    rcases (Bool.or_eq_true _ _).mp h1 with h | h
    · exact .inl ⟨k, hk, h, h2⟩
    · exact .inr ⟨k, hk, h, h2⟩
  · rintro (⟨k, hk, h1, h2⟩ | ⟨k, hk, h1, h2⟩)
    · exact ⟨k, hk, (Bool.or_eq_true _ _).mpr (.inl h1), h2⟩
    · exact ⟨k, hk, (Bool.or_eq_true _ _).mpr (.inr h1), h2⟩)
/-- things mixed: a permutation -/
theorem s__law_mixed (hn : n ≤ 1000) : (m__law_mixed [.p, .d (.list ((List.range n).map dI))]).Sat fun d => ∃ g : Nat → Nat, Mp n g ∧ Inj n g ∧ d = .list ((List.range n).map fun i => dI (g i)) := by
  simp only [m__law_mixed, g_aNil, g_aCons, m_ok, g_mkLst0, g_bListL, g_lsOf]
  refine s_step (s_while (fun m s => ∃ L F : List Nat, s = (L.map dI, F.map dI) ∧ (L ++ F).Nodup ∧ (∀ x ∈ L ++ F, x < n) ∧ L.length + F.length = n ∧ m = L.length) (fun s => ∃ F : List Nat, s.2 = F.map dI ∧ F.Nodup ∧ (∀ x ∈ F, x < n) ∧ F.length = n) (fun m s hs => ?_) fuel n _ (by show n < 100000; omega) ⟨List.range n, [], rfl, by rw [List.append_nil]; exact List.nodup_range, fun x hx => List.mem_range.mp (by rw [List.append_nil] at hx; exact hx), by simp, by simp⟩) fun s hs => ?_
  · obtain ⟨L, F, e, nd, lt, len, hm⟩ := hs
    subst e
    have hL : L.length ≤ 1000 := by omega
    cases L with
    | nil =>
      refine .inl ⟨?_, F, rfl, by simpa using nd, by simpa using lt, by simpa using len⟩
      show (M.bind (bin pNe (.ok (.list (([] : List Nat).map dI))) (.ok (.list []))) tru) = _
      rw [g_bin, ne_L]
      rfl
    | cons x L =>
      refine .inr ⟨?_, (x :: L).length - 1, by rw [hm]; simp, ?_⟩
      · show (M.bind (bin pNe (.ok (.list ((x :: L).map dI))) (.ok (.list []))) tru) = _
        rw [g_bin, ne_L]
        rfl
      dsimp only
      rw [g_lenL]
      simp only [g_vD, g_vNil, g_vCons, g_call2]
      rw [M.sat_bind, M.sat_bind]
      refine s_draw (by simp) (by omega) fun k hk => ?_
      rw [flat_nat]
      show M.Sat (popK (pPopAt ((x :: L).map dI) (dI k)) _) _
      rw [popAtN (x :: L) hk hL]
      show M.Sat (if _ then M.ok _ else M.err) _
      rw [if_pos (by rw [big_size, List.length_map]; omega)]
      have pm : ((x :: L).eraseIdx k ++ (F ++ [(x :: L)[k]])).Perm ((x :: L) ++ F) := by
        have p1 : ((x :: L)[k] :: (x :: L).eraseIdx k).Perm (x :: L) := perm_erase (x :: L) hk
        have p2 := p1.append_right F
        refine List.Perm.trans ?_ p2
        rw [List.cons_append]
        exact (List.Perm.of_eq (List.append_assoc _ _ _).symm).trans (List.perm_append_comm.trans (List.Perm.of_eq rfl))
      refine ⟨(x :: L).eraseIdx k, F ++ [(x :: L)[k]], by rw [List.map_append]; rfl, pm.nodup_iff.mpr nd, fun z hz => lt z (pm.mem_iff.mp hz), ?_, by rw [List.length_eraseIdx_of_lt hk]⟩
      rw [List.length_eraseIdx_of_lt hk, List.length_append, List.length_singleton]
      rw [List.length_cons] at len ⊢
      omega
  · obtain ⟨F, e, nd, lt, len⟩ := hs
    have gd : ∀ i, i < n → ∃ h : i < F.length, F.getD i 0 = F[i] := fun i hi => ⟨by omega, by rw [List.getD_eq_getElem?_getD, List.getElem?_eq_getElem (by omega)]; rfl⟩
    refine ⟨fun i => F.getD i 0, fun i hi => ?_, fun i hi j hj q => ?_, ?_⟩
    · obtain ⟨h, q⟩ := gd i hi
      show F.getD i 0 < n
      rw [q]
      exact lt _ (List.getElem_mem h)
    · obtain ⟨h1, q1⟩ := gd i hi
      obtain ⟨h2, q2⟩ := gd j hj
      have q : F.getD i 0 = F.getD j 0 := q
      rw [q1, q2] at q
      exact nodup_inj nd h1 h2 q
    · rw [e]
      congr 1
      refine List.ext_getElem (by simp [len]) fun i h1 h2 => ?_
      rw [List.getElem_map, List.getElem_map, List.getElem_range]
      obtain ⟨h, q⟩ := gd i (by simpa using h2)
      show dI F[i] = dI (F.getD i 0)
      rw [q]
theorem isTup2 {x y : PyData} : m_is_tuple [.d (.tuple [x, y]), .d (.int 2)] = .ok (.bool true) := by
  simp only [m_is_tuple]; rfl
end
end Ev

set_option Elab.async false
set_option linter.all false
set_option autoImplicit false
set_option maxRecDepth 100000
set_option maxHeartbeats 8000000
namespace Ev
open PySem PySem.Spec L2 LamX PyProof.Rows
section
variable {n i j k : Nat} {r s t : Nat → Nat → Bool} {l m : List Nat}
/-! ### lists of all things -/
abbrev lstD (l : List Nat) : PyData := .list (l.map dI)
def Nm (n : Nat) (l : List Nat) : Prop := l.length = n ∧ l.Nodup ∧ ∀ x ∈ l, x < n
def foundN (n : Nat) : Nat → List (List Nat)
  | 0 => [[]]
  | k + 1 => (foundN n k).flatMap fun l => (row n fun o => !decide (o ∈ l)).map fun o => l ++ [o]
abbrev allN (n : Nat) : List (List Nat) := foundN n n
theorem foundN_mem : ∀ {k : Nat} {l : List Nat}, l ∈ foundN n k ↔ l.length = k ∧ l.Nodup ∧ ∀ x ∈ l, x < n
  | 0, l => by
    rw [foundN, List.mem_singleton]
    exact ⟨fun e => by subst e; exact ⟨rfl, List.nodup_nil, fun _ h => nomatch h⟩, fun h => List.length_eq_zero_iff.mp h.1⟩
  | k + 1, l => by
    rw [foundN, List.mem_flatMap]
    constructor
    · rintro ⟨u, hu, h⟩
      obtain ⟨o, ho, rfl⟩ := List.mem_map.mp h
      obtain ⟨h1, h2, h3⟩ := foundN_mem.mp hu
      obtain ⟨o1, o2⟩ := row_in.mp ho
      have o2 : o ∉ u := by simpa using o2
      refine ⟨by rw [List.length_append, h1]; rfl, ?_, fun x hx => ?_⟩
      · rw [List.nodup_append]
        exact ⟨h2, by simp, fun a ha b hb e => o2 (by rw [List.mem_singleton.mp hb] at e; exact e ▸ ha)⟩
      · rcases List.mem_append.mp hx with e | e
        · exact h3 x e
        · rw [List.mem_singleton.mp e]; exact o1
    · rintro ⟨h1, h2, h3⟩
      have ne : l ≠ [] := fun e => by rw [e] at h1; cases h1
      have e := List.dropLast_concat_getLast ne
      have nd := h2
      rw [← e, List.nodup_append] at nd
      refine ⟨l.dropLast, foundN_mem.mpr ⟨by rw [List.length_dropLast, h1]; rfl, nd.1, fun x m => h3 x (List.dropLast_subset _ m)⟩, List.mem_map.mpr ⟨l.getLast ne, row_in.mpr ⟨h3 _ (List.getLast_mem ne), ?_⟩, e⟩⟩
      simp only [Bool.not_eq_true', decide_eq_false_iff_not]
      exact fun hm => nd.2.2 _ hm _ (List.mem_singleton.mpr rfl) rfl
theorem allN_mem : l ∈ allN n ↔ Nm n l := foundN_mem
theorem foundN_len (hn : n ≤ 5) : ∀ k, k ≤ 5 → (foundN n k).length ≤ 5 ^ k
  | 0, _ => by rw [foundN]; exact Nat.le_refl _
  | k + 1, hk => by
    have ih := foundN_len hn k (by omega)
    have aux : ∀ L : List (List Nat), (L.flatMap fun l => (row n fun o => !decide (o ∈ l)).map fun o => l ++ [o]).length ≤ L.length * 5 := fun L => by
      induction L with
      | nil => exact Nat.zero_le _
      | cons a L h =>
        rw [List.flatMap_cons, List.length_append, List.length_map, List.length_cons]
        have := row_len (n := n) (p := fun o => !decide (o ∈ a))
        omega
    have := aux (foundN n k)
    rw [foundN, Nat.pow_succ]
    have := Nat.mul_le_mul_right 5 ih
    omega
theorem allN_len (hn : n ≤ 5) : (allN n).length ≤ 3125 := by
  have h := foundN_len hn n hn
  have : 5 ^ n ≤ 5 ^ 5 := Nat.pow_le_pow_right (by omega) hn
  show (foundN n n).length ≤ 3125
  omega
theorem pNotInL : pNotIn (dI i) (lstD l) = .ok (.bool (!decide (i ∈ l))) := v_pNotInL i l
theorem names_fold (hn : n ≤ 5) : foldL ((List.range n).map dI) (PyData.list [PyData.list []]) (fun turn_3 s_2 => (M.bind (M.bind aNil mkLst) fun d => onL d fun late_4 => (M.bind (M.bind (.ok s_2) items) fun ds => M.bind (foldL ds (late_4 : ((List PyData))) (fun names_6 s_5 => (M.bind (comp1 (M.bind (aCons (.ok (dI n)) aNil) rng1) (fun one_7 => (M.bind (bin pNotIn (.ok one_7) (.ok names_6)) tru)) (fun one_7 => (bin pAdd (.ok names_6) (M.bind (aCons (.ok one_7) aNil) mkLst)))) fun d => onL d fun d_8 => if (s_5).length + d_8.length ≤ sizeLine then (.ok (s_5 ++ d_8)) else .err))) fun s_5 => (M.bind (.ok (.list s_5)) fun found_9 => (.ok found_9))))) = .ok (.list ((allN n).map lstD)) := by
  have loop := v_fold0 (f := fun turn_3 s_2 => (M.bind (M.bind aNil mkLst) fun d => onL d fun late_4 => (M.bind (M.bind (.ok s_2) items) fun ds => M.bind (foldL ds (late_4 : ((List PyData))) (fun names_6 s_5 => (M.bind (comp1 (M.bind (aCons (.ok (dI n)) aNil) rng1) (fun one_7 => (M.bind (bin pNotIn (.ok one_7) (.ok names_6)) tru)) (fun one_7 => (bin pAdd (.ok names_6) (M.bind (aCons (.ok one_7) aNil) mkLst)))) fun d => onL d fun d_8 => if (s_5).length + d_8.length ≤ sizeLine then (.ok (s_5 ++ d_8)) else .err))) fun s_5 => (M.bind (.ok (.list s_5)) fun found_9 => (.ok found_9))))) (fun k => .list ((foundN n k).map lstD)) n fun k hk => by
    have hb : n < 1000000 := by omega
    have f1 := foundN_len hn k (by omega)
    have f2 : 5 ^ k ≤ 5 ^ 5 := Nat.pow_le_pow_right (by omega) (by omega)
    simp only [g_aNil, m_ok, g_mkLst0, g_onL, g_itemsL, g_aCons, v_rng1 hb]
    rw [v_foldApp (g := fun l => (row n fun o => !decide (o ∈ l)).map fun o => lstD (l ++ [o])) 5 (foundN n k) [] (fun l hl => by rw [List.length_map]; exact Nat.le_trans row_len hn) (by simp; omega) fun l hl acc hacc => by
      have tl := (foundN_mem.mp hl).1
      have e : comp1 (.ok ((List.range n).map dI)) (fun one_7 => (M.bind (bin pNotIn (.ok one_7) (.ok (lstD l))) tru)) (fun one_7 => (bin pAdd (.ok (lstD l)) (mkLst [one_7]))) = .ok (.list ((row n fun o => !decide (o ∈ l)).map fun o => lstD (l ++ [o]))) :=
        v_comp (fun o => !decide (o ∈ l)) (fun o => lstD (l ++ [o])) (by rw [List.length_range]; omega) (fun o _ => by rw [g_bin, pNotInL, m_ok, g_tru]) fun o _ _ => by rw [g_mkLst1, g_bin, add_path (by omega)]
      rw [e, m_ok, g_onL, if_pos (by rw [big_size]; exact Nat.le_trans hacc (by decide))]]
    rw [m_ok, List.nil_append, foundN, List.map_flatMap]
    congr 2
    refine congrArg (fun g => List.flatMap g (foundN n k)) (funext fun l => ?_)
    rw [List.map_map]
    rfl
  exact loop
theorem v_all_names (hn : n ≤ 5) : m_all_names [.d (dI n)] = .ok (.list ((allN n).map lstD)) := by
  have f := names_fold hn
  simp only [g_aNil, g_aCons, m_ok, v_rng1 (show n < 1000000 by omega)] at f
  simp only [m_all_names, g_aNil, g_aCons, m_ok, v_rng1 (show n < 1000000 by omega), g_mkLst0, g_mkLst1]
  simp only [g_mkLst0, g_mkLst1, m_ok] at f
  rw [f, m_ok]
theorem v__law_all_names (hn : n ≤ 5) : m__law_all_names [.d (dI n)] = .ok (.list ((allN n).map lstD)) := by
  have f := names_fold hn
  simp only [g_aNil, g_aCons, m_ok, v_rng1 (show n < 1000000 by omega)] at f
  simp only [m__law_all_names, g_aNil, g_aCons, m_ok, v_rng1 (show n < 1000000 by omega), g_mkLst0, g_mkLst1]
  simp only [g_mkLst0, g_mkLst1, m_ok] at f
  rw [f, m_ok]
/-! ### renamed -/
theorem getD_el {l : List Nat} {i : Nat} (h : i < l.length) : l.getD i 0 = l[i] := by simp [h]
def at_ (l : List Nat) (i : Nat) : Nat := l.getD i 0
def reN (r : Nat → Nat → Bool) (l : List Nat) : Nat → Nat → Bool := fun i j => r (at_ l i) (at_ l j)
theorem at_lt (h : Nm n l) (hi : i < n) : at_ l i < n := by
  unfold at_
  have hi : i < l.length := by rw [h.1]; exact hi
  rw [getD_el hi]
  exact h.2.2 _ (List.getElem_mem hi)
theorem at_inj (h : Nm n l) (hi : i < n) (hj : j < n) (e : at_ l i = at_ l j) : i = j := by
  have hi : i < l.length := by rw [h.1]; exact hi
  have hj : j < l.length := by rw [h.1]; exact hj
  unfold at_ at e
  rw [getD_el hi, getD_el hj] at e
  exact nodup_inj h.2.1 hi hj e
theorem lst_at (h : l.length = n) : l = (List.range n).map (at_ l) := by
  apply List.ext_getElem
  · simp [h]
  · intro i h1 h2
    simp only [List.getElem_map, List.getElem_range]
    unfold at_
    rw [getD_el h1]
theorem idx_names (h : l.length = n) (hi : i < n) : pIdx (lstD l) (dI i) = .ok (dI (at_ l i)) := by
  have e : l.map dI = (List.range n).map fun i => dI (at_ l i) := by
    conv => lhs; rw [lst_at h]
    rw [List.map_map]
    rfl
  unfold lstD
  rw [e]
  exact v_pIdxL (fun i => dI (at_ l i)) hi
theorem v_renamed_of (hn : n ≤ 6) (h : Nm n l) : m_renamed_of [.d (rel n r), .d (lstD l)] = .ok (rel n (reN r l)) := by
  simp only [m_renamed_of, g_aNil, g_aCons, m_ok, v_len]
  rw [v_by_rule (by omega) _ (reN r l) fun i j hi hj => by
    show bin pIn (bin pIdx (.ok (lstD l)) (.ok (dI j))) (bin pIdx (.ok (rel n r)) (bin pIdx (.ok (lstD l)) (.ok (dI i)))) = _
    simp only [g_bin, idx_names h.1 hi, idx_names h.1 hj, v_ix (at_lt h hi), v_inRow (at_lt h hj)]
    rfl, m_ok]
end
end Ev

set_option Elab.async false
set_option linter.all false
set_option autoImplicit false
set_option maxRecDepth 100000
set_option maxHeartbeats 8000000
namespace Ev
open PySem PySem.Spec L2 LamX PyProof.Rows
section
variable {n i j k : Nat} {r s t : Nat → Nat → Bool} {l m : List Nat} {p : Nat → Bool}
def pos (n : Nat) (l : List Nat) (x : Nat) : Nat := (row n fun a => decide (at_ l a = x)).headD 0
theorem pos_at (h : Nm n l) (hi : i < n) : pos n l (at_ l i) = i := by
  unfold pos
  rw [row_ext (q := fun a => decide (i = a)) fun a ha => decide_eq_decide.mpr ⟨fun e => (at_inj h ha hi e).symm, fun e => by rw [e]⟩, row_one hi]
  rfl
theorem at_onto (h : Nm n l) (hi : i < n) : ∃ a, a < n ∧ at_ l a = i := inj_onto (f := at_ l) (fun a ha => at_lt h ha) (fun a ha b hb e => at_inj h ha hb e) hi
theorem at_pos (h : Nm n l) (hi : i < n) : at_ l (pos n l i) = i ∧ pos n l i < n := by
  obtain ⟨a, ha, rfl⟩ := at_onto h hi
  rw [pos_at h ha]
  exact ⟨rfl, ha⟩
theorem dI_lay (l : List Nat) : PyData.plainAll (l.map dI) = true := plainAll_map dI l fun _ _ => rfl
theorem shaped_dI (l : List Nat) : SeqAt.shaped (lstD l) = true := by
  unfold SeqAt.shaped
  rw [PyData.canLay0, canLay_all dI l fun _ _ => by rw [PyData.canLay0], Bool.true_and]
  refine decide_eq_true ?_
  rw [PyData.depth]
  have := depthAll_map dI 0 l fun j _ => by rw [PyData.depth]; exact Nat.le_refl _
  omega
theorem index_names (h : Nm n l) (hi : i < n) : pIndex (lstD l) (dI i) = .ok (dI (pos n l i)) := by
  obtain ⟨a, ha, rfl⟩ := at_onto h hi
  rw [pos_at h ha]
  rw [pIndex, if_pos (by rw [dI_lay, shaped_dI]; rfl)]
  have hal : a < l.length := by rw [h.1]; exact ha
  have e : (l.map dI).findIdx? (fun z => PyData.eqv z (dI (at_ l a))) = some a := by
    have ev : ∀ x y : Nat, PyData.eqv (dI x) (dI y) = decide (x = y) := fun x y => by
      show ((x : Int) == (y : Int)) = _
      exact beq_of (by rw [beq_iff_eq, decide_eq_true_eq]; omega)
    rw [List.findIdx?_eq_some_iff_getElem]
    refine ⟨by simpa using hal, ?_, fun b hb => ?_⟩
    · rw [List.getElem_map, ev]
      unfold at_
      rw [getD_el hal]
      exact decide_eq_true rfl
    · have hbl : b < l.length := by omega
      rw [List.getElem_map, ev]
      unfold at_
      rw [getD_el hal]
      simp only [Bool.not_eq_true, decide_eq_false_iff_not]
      exact fun e => by have := nodup_inj h.2.1 hbl hal e; omega
  rw [e]
theorem v__law_renamed (hn : n ≤ 6) (h : Nm n l) : m__law_renamed [.d (rel n r), .d (lstD l)] = .ok (rel n (reN r l)) := by
  have inner : ∀ i, i < n → bSorted [.list (((row n (r (at_ l i))).map (pos n l)).map dI)] = .ok (.list ((row n (reN r l i)).map dI)) := fun i hi => by
    have nd : ((row n (r (at_ l i))).map (pos n l)).Nodup := List.pairwise_map.mpr (List.Pairwise.imp_of_mem (fun {a b} ha hb ne e => ne (by
      have ha := (row_in.mp ha).1
      have hb := (row_in.mp hb).1
      rw [← (at_pos h ha).1, ← (at_pos h hb).1, e])) row_nd)
    have lt : ∀ x ∈ (row n (r (at_ l i))).map (pos n l), x < n := fun x hx => by
      obtain ⟨a, ha, rfl⟩ := List.mem_map.mp hx
      exact (at_pos h (row_in.mp ha).1).2
    rw [sort_nat nd lt (by omega)]
    congr 3
    refine row_ext fun j hj => beq_of ?_
    rw [decide_eq_true_eq, List.mem_map]
    constructor
    · rintro ⟨a, ha, rfl⟩
      have ha := row_in.mp ha
      show r (at_ l i) (at_ l (pos n l a)) = true
      rw [(at_pos h ha.1).1]
      exact ha.2
    · intro e
      exact ⟨at_ l j, row_in.mpr ⟨at_lt h hj, e⟩, pos_at h hj⟩
  have ix : ∀ i, i < n → comp1 (.ok ((row n (r (at_ l i))).map dI)) (fun late_2 => (.ok true)) (fun late_2 => pIndex (lstD l) late_2) = .ok (.list (((row n (r (at_ l i))).map (pos n l)).map dI)) := fun i hi => by
    rw [v_comp' (fun x => dI (pos n l x)) (Nat.le_trans row_len (by omega)) fun x hx => index_names h (row_in.mp hx).1, List.map_map]
    rfl
  simp only [m__law_renamed, g_aNil, m_ok, g_itemsL]
  have el : l.map dI = (List.range n).map fun i => dI (at_ l i) := by
    conv => lhs; rw [lst_at h.1]
    rw [List.map_map]
    rfl
  have eo : comp1 (.ok (l.map dI)) (fun one_1 => (.ok true)) (fun one_1 => (M.bind (aCons (M.bind (aCons (comp1 (M.bind (bin pIdx (.ok (rel n r)) (.ok one_1)) items) (fun late_2 => (.ok true)) (fun late_2 => (bin pIndex (.ok (lstD l)) (.ok late_2)))) (.ok [])) bSorted) (.ok [])) bTuple)) = .ok (.list ((List.range n).map fun i => .tuple ((row n (reN r l i)).map dI))) := by
    rw [el]
    refine v_comp' (fun i => .tuple ((row n (reN r l i)).map dI)) (by rw [List.length_range]; omega) fun i hi => ?_
    have hi := List.mem_range.mp hi
    rw [g_bin, v_ix (at_lt h hi), m_ok, g_itemsT]
    simp only [g_bin]
    rw [ix i hi, g_aCons, m_ok, inner i hi, g_aCons, m_ok, g_bTuple]
  rw [eo, g_aCons, m_ok, g_bTuple, m_ok]
  rfl
/-! ### how long the rows are -/
theorem sort_any {K : List Nat} (hK : K.length ≤ 1000) : bSorted [.list (K.map dI)] = .ok (.list ((K.mergeSort fun a b => decide (a ≤ b)).map dI)) := by
  have c : canSort (K.map dI) = true := by
    unfold canSort
    simp only [Bool.and_eq_true, Bool.or_eq_true, decide_eq_true_eq, List.all_eq_true]
    refine ⟨⟨⟨fun d hd e he => ?_, ?_⟩, ?_⟩, .inr fun d hd => ?_⟩
    · obtain ⟨a, _, rfl⟩ := List.mem_map.mp hd
      obtain ⟨b, _, rfl⟩ := List.mem_map.mp he
      rfl
    · have := depthAll_map dI 0 K fun j _ => by rw [PyData.depth]; exact Nat.le_refl _
      omega
    · rw [List.length_map, big_size]
      omega
    · obtain ⟨a, _, rfl⟩ := List.mem_map.mp hd
      rfl
  rw [bSorted, if_pos c, dSort_eq, ← List.map_mergeSort (r := fun a b => decide (a ≤ b)) fun a _ b _ => le_dI a b]
theorem sort_perm {K L : List Nat} (h : K.Perm L) : (K.mergeSort fun a b => decide (a ≤ b)) = L.mergeSort fun a b => decide (a ≤ b) :=
  List.Perm.eq_of_pairwise (le := (· ≤ ·)) (fun a b _ _ h1 h2 => Nat.le_antisymm h1 h2) (sort_rise K) (sort_rise L) ((List.mergeSort_perm K _).trans (h.trans (List.mergeSort_perm L _).symm))
def lensN (n : Nat) (r : Nat → Nat → Bool) : List Nat := (List.range n).map fun i => (row n (r i)).length
theorem names_perm (h : Nm n l) : l.Perm (List.range n) := (List.perm_ext_iff_of_nodup h.2.1 List.nodup_range).mpr fun x => by
  rw [List.mem_range]
  refine ⟨h.2.2 x, fun hx => ?_⟩
  obtain ⟨a, ha, rfl⟩ := at_onto h hx
  unfold at_
  rw [getD_el (by rw [h.1]; exact ha)]
  exact List.getElem_mem _
theorem len_re (h : Nm n l) : (row n fun j => p (at_ l j)).length = (row n p).length := by
  have e : ((row n fun j => p (at_ l j)).map (at_ l)).Perm (row n p) := (List.perm_ext_iff_of_nodup (List.pairwise_map.mpr (List.Pairwise.imp_of_mem (fun {a b} ha hb ne e => ne (at_inj h (row_in.mp ha).1 (row_in.mp hb).1 e)) row_nd)) row_nd).mpr fun x => by
    rw [List.mem_map, row_in]
    constructor
    · rintro ⟨a, ha, rfl⟩
      exact ⟨at_lt h (row_in.mp ha).1, (row_in.mp ha).2⟩
    · rintro ⟨hx, px⟩
      obtain ⟨a, ha, rfl⟩ := at_onto h hx
      exact ⟨a, row_in.mpr ⟨ha, px⟩, rfl⟩
  have := e.length_eq
  rw [List.length_map] at this
  exact this
theorem lens_re (h : Nm n l) : (lensN n (reN r l)).Perm (lensN n r) := by
  have e : lensN n (reN r l) = l.map fun x => (row n (r x)).length := by
    conv => rhs; rw [lst_at h.1]
    rw [List.map_map]
    exact List.map_congr_left fun i _ => len_re (p := r (at_ l i)) h
  rw [e]
  exact (names_perm h).map _
theorem lens_eq (h : rEq n r s = true) : lensN n r = lensN n s := List.map_congr_left fun i hi => by
  rw [row_ext fun j hj => rEq_iff.mp h i (List.mem_range.mp hi) j hj]
def nmL (n : Nat) (r s : Nat → Nat → Bool) : List (List Nat) := (allN n).filter fun l => rEq n (reN r l) s
theorem v_namings_of (hn : n ≤ 5) : m_namings_of [.d (rel n r), .d (rel n s)] = .ok (.list ((nmL n r s).map lstD)) := by
  have lr : ∀ t : Nat → Nat → Bool, comp1 (.ok ((List.range n).map fun i => .tuple ((row n (t i)).map dI))) (fun _ => .ok true) (fun row_1 => bLen [row_1]) = .ok (.list ((lensN n t).map dI)) := fun t => by
    rw [v_comp' (fun i => dI (row n (t i)).length) (by rw [List.length_range]; omega) fun i _ => by rw [g_lenT], lensN, List.map_map]
    rfl
  have ll : ∀ t : Nat → Nat → Bool, (lensN n t).length ≤ 1000 := fun t => by
    unfold lensN
    rw [List.length_map, List.length_range]
    omega
  have it : ∀ t : Nat → Nat → Bool, items (rel n t) = .ok ((List.range n).map fun i => .tuple ((row n (t i)).map dI)) := fun t => rfl
  simp only [m_namings_of, g_aNil, g_aCons, m_ok, it, lr, sort_any (ll _), g_bin, v_neL, g_tru]
  by_cases h : ((lensN n r).mergeSort fun a b => decide (a ≤ b)) = (lensN n s).mergeSort fun a b => decide (a ≤ b)
  · rw [decide_eq_true h]
    simp only [Bool.not_true, Bool.false_eq_true, if_false, g_vD, g_vNil, g_vCons, g_call1, g_call2, v_len, m_ok, v_all_names hn, g_itemsL]
    rw [v_comp (fun l => rEq n (reN r l) s) lstD (Nat.le_trans (allN_len hn) (by omega)) (fun l hl => by rw [v_renamed_of (by omega) (allN_mem.mp hl), g_bin, v_relEqD, m_ok, g_tru]) fun _ _ _ => rfl]
    rfl
  · rw [decide_eq_false h]
    have e : nmL n r s = [] := List.filter_eq_nil_iff.mpr fun l hl e => h (by
      rw [← lens_eq e]
      exact (sort_perm (lens_re (allN_mem.mp hl))).symm)
    simp only [Bool.not_false, if_true, g_mkLst0, m_ok, e]
    rfl
end
end Ev

set_option Elab.async false
set_option linter.all false
set_option autoImplicit false
set_option maxRecDepth 100000
set_option maxHeartbeats 8000000
namespace Ev
open PySem PySem.Spec L2 LamX PyProof.Rows
section
variable {n i j k : Nat} {r s t u : Nat → Nat → Bool} {l m : List Nat} {p : Nat → Bool}
/-! ### the order of relations -/
theorem toks_ints : ∀ (a b : List Nat) (u v : List (Int ⊕ List Nat)), W.keyToksAll (a.map dI) ++ u = W.keyToksAll (b.map dI) ++ v → a = b ∧ u = v
  | [], [], u, v, h => by
    simp only [List.map_nil, W.keyToksAll, List.cons_append, List.nil_append, List.cons.injEq, true_and] at h
    exact ⟨rfl, h⟩
  | [], y :: b, u, v, h => by
    simp only [List.map_nil, List.map_cons, W.keyToksAll, List.cons_append, List.nil_append, List.cons.injEq, Sum.inl.injEq] at h
    exact absurd h.1 (by omega)
  | x :: a, [], u, v, h => by
    simp only [List.map_nil, List.map_cons, W.keyToksAll, List.cons_append, List.nil_append, List.cons.injEq, Sum.inl.injEq] at h
    exact absurd h.1 (by omega)
  | x :: a, y :: b, u, v, h => by
    simp only [List.map_cons, W.keyToksAll, W.keyToks, List.cons_append, List.nil_append, List.cons.injEq, Sum.inl.injEq, true_and] at h
    obtain ⟨e1, e2⟩ := toks_ints a b u v h.2
    exact ⟨by rw [e1, Int.ofNat.inj h.1], e2⟩
theorem toks_rows : ∀ A B : List (List Nat), W.keyToksAll (A.map tupN) = W.keyToksAll (B.map tupN) → A = B
  | [], [], _ => rfl
  | [], y :: b, h => by
    simp only [List.map_nil, List.map_cons, W.keyToksAll, List.cons_append, List.nil_append, List.cons.injEq, Sum.inl.injEq] at h
    exact absurd h.1 (by omega)
  | x :: a, [], h => by
    simp only [List.map_nil, List.map_cons, W.keyToksAll, List.cons_append, List.nil_append, List.cons.injEq, Sum.inl.injEq] at h
    exact absurd h.1 (by omega)
  | x :: a, y :: b, h => by
    simp only [List.map_cons, W.keyToksAll, W.keyToks, List.cons.injEq, true_and] at h
    obtain ⟨e1, e2⟩ := toks_ints x y _ _ h
    rw [e1, toks_rows a b e2]
theorem rel_rows : rel n r = .tuple (((List.range n).map fun i => row n (r i)).map tupN) := by
  unfold rel
  rw [List.map_map]
  rfl
theorem rel_tri (h1 : W.dataLt (rel n r) (rel n s) = false) (h2 : W.dataLt (rel n s) (rel n r) = false) : rel n r = rel n s := by
  have e := lex_total _ _ h1 h2
  rw [rel_rows, rel_rows] at e
  simp only [W.keyToks] at e
  rw [rel_rows, rel_rows, toks_rows _ _ e]
theorem alikeAll_map' {α : Type} (F G : α → PyData) (h : ∀ a b, W.alike (F a) (G b) = true) : ∀ l m : List α, W.alikeAll (l.map F) (m.map G) = true
  | [], m => by rw [List.map_nil, W.alikeAll]
  | a :: l, [] => by rw [List.map_nil, List.map_cons, W.alikeAll]
  | a :: l, b :: m => by rw [List.map_cons, List.map_cons, W.alikeAll, h, alikeAll_map' F G h l m]; rfl
theorem rel_alike : W.alike (rel n r) (rel n s) = true := by
  unfold rel
  rw [W.alike]
  refine alikeAll_map' _ _ (fun a b => ?_) _ _
  rw [W.alike]
  exact alikeAll_map' _ _ (fun a b => by rw [W.alike]) _ _
theorem ltRel : pLt (rel n r) (rel n s) = .ok (.bool (W.dataLt (rel n r) (rel n s))) := by
  have c : cmpOk (rel n r) (rel n s) = true := by
    unfold cmpOk
    rw [rel_alike, Bool.true_and]
    have := rel_depth (n := n) (r := r)
    rw [decide_eq_true (by omega)]
    rfl
  show (if cmpOk (rel n r) (rel n s) = true then M.ok (PyData.bool (W.dataLt (rel n r) (rel n s))) else M.err) = _
  rw [if_pos c]
theorem lt_trans' {a b c : PyData} (h1 : W.dataLt a b = true) (h2 : W.dataLt b c = true) : W.dataLt a c = true := lex_trans _ _ _ h1 h2
theorem lt_neg {a b c : PyData} (h : W.dataLt a c = true) : W.dataLt a b = true ∨ W.dataLt b c = true := lex_negTrans _ _ _ h
theorem minD_mem : ∀ (xs : List PyData) (x : PyData), W.minD x xs ∈ x :: xs
  | [], x => List.mem_cons_self
  | y :: ys, x => by
    have e : W.minD x (y :: ys) = W.minD (if W.dataLt y x then y else x) ys := rfl
    rw [e]
    have h := minD_mem ys (if W.dataLt y x then y else x)
    rcases List.mem_cons.mp h with h | h
    · rw [h]
      split
      · exact List.mem_cons_of_mem _ List.mem_cons_self
      · exact List.mem_cons_self
    · exact List.mem_cons_of_mem _ (List.mem_cons_of_mem _ h)
theorem minD_le : ∀ (xs : List PyData) (x y : PyData), y ∈ x :: xs → W.dataLt y (W.minD x xs) = false
  | [], x, y, h => by
    rw [List.mem_singleton.mp h]
    exact lex_irrefl _
  | z :: zs, x, y, h => by
    have e : W.minD x (z :: zs) = W.minD (if W.dataLt z x then z else x) zs := rfl
    rw [e]
    have ih := minD_le zs (if W.dataLt z x then z else x)
    have h0 := ih _ List.mem_cons_self
    generalize W.minD (if W.dataLt z x then z else x) zs = m at ih h0
    rcases List.mem_cons.mp h with h | h
    · subst h
      cases c : W.dataLt z y with
      | true =>
        rw [c, if_pos rfl] at h0
        exact Bool.eq_false_iff.mpr fun q => by
          rw [lt_trans' c q] at h0
          cases h0
      | false =>
        rw [c, if_neg (by simp)] at h0
        exact h0
    · rcases List.mem_cons.mp h with h | h
      · subst h
        cases c : W.dataLt y x with
        | true =>
          rw [c, if_pos rfl] at h0
          exact h0
        | false =>
          rw [c, if_neg (by simp)] at h0
          exact Bool.eq_false_iff.mpr fun q => by
            rcases lt_neg (b := x) q with a | a
            · rw [c] at a; cases a
            · rw [h0] at a; cases a
      · exact ih y (List.mem_cons_of_mem _ h)
end
end Ev

set_option Elab.async false
set_option linter.all false
set_option autoImplicit false
set_option maxRecDepth 100000
set_option maxHeartbeats 8000000
namespace Ev
open PySem PySem.Spec L2 LamX PyProof.Rows
section
variable {n i j k : Nat} {r s t u : Nat → Nat → Bool} {l m : List Nat} {p : Nat → Bool}
/-! ### first forms -/
abbrev heD (n : Nat) (r : Nat → Nat → Bool) (l : List Nat) : PyData := rel n (reN r l)
def formD (n : Nat) (r : Nat → Nat → Bool) : PyData := match (allN n).map (heD n r) with
  | [] => .none
  | x :: xs => W.minD x xs
theorem nm_range : Nm n (List.range n) := ⟨List.length_range, List.nodup_range, fun x hx => List.mem_range.mp hx⟩
theorem all_cons : ∃ l L, allN n = l :: L := by
  cases h : allN n with
  | nil =>
    have := allN_mem.mpr (nm_range (n := n))
    rw [h] at this
    cases this
  | cons l L => exact ⟨l, L, rfl⟩
theorem form_mem : ∃ l, Nm n l ∧ formD n r = heD n r l := by
  obtain ⟨l, L, e⟩ := all_cons (n := n)
  have h := minD_mem (L.map (heD n r)) (heD n r l)
  rw [← List.map_cons (f := heD n r), ← e] at h
  obtain ⟨m, hm, em⟩ := List.mem_map.mp h
  refine ⟨m, allN_mem.mp hm, ?_⟩
  rw [em]
  unfold formD
  rw [e, List.map_cons]
theorem form_le (h : Nm n m) : W.dataLt (heD n r m) (formD n r) = false := by
  obtain ⟨l, L, e⟩ := all_cons (n := n)
  unfold formD
  have hm : heD n r m ∈ (allN n).map (heD n r) := List.mem_map.mpr ⟨m, allN_mem.mpr h, rfl⟩
  rw [e, List.map_cons] at hm ⊢
  exact minD_le _ _ _ hm
def namesOf (n : Nat) (f : Nat → Nat) : List Nat := (List.range n).map f
theorem at_names {f : Nat → Nat} (hi : i < n) : at_ (namesOf n f) i = f i := by
  unfold at_ namesOf
  rw [getD_el (by simpa using hi)]
  simp
theorem nm_names {f : Nat → Nat} (h1 : Mp n f) (h2 : Inj n f) : Nm n (namesOf n f) :=
  ⟨by simp [namesOf], List.pairwise_map.mpr (List.Pairwise.imp_of_mem (fun {a b} ha hb ne e => ne (h2 a (List.mem_range.mp ha) b (List.mem_range.mp hb) e)) List.nodup_range), fun x hx => by
    obtain ⟨a, ha, rfl⟩ := List.mem_map.mp hx
    exact h1 a (List.mem_range.mp ha)⟩
/-- some names lead from one to the other -/
def Alk (n : Nat) (r s : Nat → Nat → Bool) : Prop := ∃ l, Nm n l ∧ rEq n (reN r l) s = true
theorem alk_symm (h : Alk n r s) : Alk n s r := by
  obtain ⟨l, hl, e⟩ := h
  refine ⟨namesOf n (pos n l), nm_names (fun i hi => (at_pos hl hi).2) (fun i hi j hj e => ?_), rEq_iff.mpr fun i hi j hj => ?_⟩
  · rw [← (at_pos hl hi).1, ← (at_pos hl hj).1, e]
  · show s (at_ (namesOf n (pos n l)) i) (at_ (namesOf n (pos n l)) j) = r i j
    rw [at_names hi, at_names hj, ← rEq_iff.mp e _ (at_pos hl hi).2 _ (at_pos hl hj).2]
    show r (at_ l (pos n l i)) (at_ l (pos n l j)) = _
    rw [(at_pos hl hi).1, (at_pos hl hj).1]
theorem alk_trans (h1 : Alk n r s) (h2 : Alk n s t) : Alk n r t := by
  obtain ⟨l, hl, e1⟩ := h1
  obtain ⟨m, hm, e2⟩ := h2
  refine ⟨namesOf n fun i => at_ l (at_ m i), nm_names (fun i hi => at_lt hl (at_lt hm hi)) (fun i hi j hj e => at_inj hm hi hj (at_inj hl (at_lt hm hi) (at_lt hm hj) e)), rEq_iff.mpr fun i hi j hj => ?_⟩
  show r (at_ _ i) (at_ _ j) = t i j
  rw [at_names hi, at_names hj, ← rEq_iff.mp e2 i hi j hj]
  exact rEq_iff.mp e1 _ (at_lt hm hi) _ (at_lt hm hj)
theorem alk_self (h : Nm n l) : Alk n r (reN r l) := ⟨l, h, rEq_iff.mpr fun _ _ _ _ => rfl⟩
theorem rel_of (h : rEq n r s = true) : rel n r = rel n s := rel_ext fun i hi j hj => rEq_iff.mp h i hi j hj
theorem form_below (h : Alk n r s) : W.dataLt (formD n s) (formD n r) = false := by
  obtain ⟨l, hl, e⟩ := form_mem (n := n) (r := s)
  obtain ⟨m, hm, em⟩ := alk_trans h (alk_self (r := s) hl)
  rw [e]
  show W.dataLt (rel n (reN s l)) _ = false
  rw [← rel_of em]
  exact form_le hm
theorem form_rel : ∃ u, formD n r = rel n u := by
  obtain ⟨l, _, e⟩ := form_mem (n := n) (r := r)
  exact ⟨_, e⟩
theorem form_same (h : Alk n r s) : formD n r = formD n s := by
  have a := form_below h
  have b := form_below (alk_symm h)
  obtain ⟨u, e1⟩ := form_rel (n := n) (r := r)
  obtain ⟨v, e2⟩ := form_rel (n := n) (r := s)
  rw [e1, e2] at a b
  rw [e1, e2]
  exact rel_tri b a
theorem nmL_alk : nmL n r s ≠ [] ↔ Alk n r s := by
  constructor
  · intro h
    obtain ⟨l, hl⟩ := List.exists_mem_of_ne_nil _ h
    obtain ⟨h1, h2⟩ := List.mem_filter.mp hl
    exact ⟨l, allN_mem.mp h1, h2⟩
  · rintro ⟨l, hl, e⟩ h
    have : l ∈ nmL n r s := List.mem_filter.mpr ⟨allN_mem.mpr hl, e⟩
    rw [h] at this
    cases this
theorem v__law_first (hn : n ≤ 5) : m__law_first [.d (rel n r)] = .ok (formD n r) := by
  simp only [m__law_first, g_aNil, g_aCons, m_ok, v_len, g_vD, g_vNil, g_vCons, g_call1, g_call2, v__law_all_names hn, g_itemsL]
  rw [v_comp' (heD n r) (Nat.le_trans (allN_len hn) (by omega)) fun l hl => v__law_renamed (by omega) (allN_mem.mp hl), g_aCons, m_ok]
  obtain ⟨l, L, e⟩ := all_cons (n := n)
  have c : canMin ((allN n).map (heD n r)) = true := by
    unfold canMin
    simp only [Bool.and_eq_true, decide_eq_true_eq, List.all_eq_true]
    refine ⟨⟨fun d hd e he => ?_, ?_⟩, fun d hd => ?_⟩
    · obtain ⟨a, _, rfl⟩ := List.mem_map.mp hd
      obtain ⟨b, _, rfl⟩ := List.mem_map.mp he
      exact rel_alike
    · have := depthAll_map (heD n r) 2 (allN n) fun l _ => rel_depth
      omega
    · obtain ⟨a, _, rfl⟩ := List.mem_map.mp hd
      rfl
  unfold formD
  rw [e, List.map_cons] at c ⊢
  show (if canMin (heD n r l :: L.map (heD n r)) = true then M.ok (W.minD (heD n r l) (L.map (heD n r))) else M.err).bind (fun d => .ok d) = _
  rw [if_pos c]
  rfl
/-- a step of the search for the first form -/
def stepF (n : Nat) (r : Nat → Nat → Bool) (s : PyData × PyData) (l : List Nat) : PyData × PyData := if (match s.1 with | .none => true | a => W.dataLt (heD n r l) a) = true then (heD n r l, lstD l) else s
theorem step_rel {a : PyData} : stepF n r (rel n u, a) l = if W.dataLt (heD n r l) (rel n u) = true then (heD n r l, lstD l) else (rel n u, a) := by rfl
theorem fold_form : ∀ (L : List (List Nat)) (u : Nat → Nat → Bool) (a : PyData), ∃ v b, L.foldl (stepF n r) (rel n u, a) = (rel n v, b) ∧ rel n v = W.minD (rel n u) (L.map (heD n r))
  | [], u, a => ⟨u, a, rfl, rfl⟩
  | l :: L, u, a => by
    rw [List.foldl_cons, step_rel, List.map_cons]
    have e : W.minD (rel n u) (heD n r l :: L.map (heD n r)) = W.minD (if W.dataLt (heD n r l) (rel n u) = true then heD n r l else rel n u) (L.map (heD n r)) := rfl
    rw [e]
    split
    · exact fold_form L (reN r l) (lstD l)
    · exact fold_form L u a
theorem v_form_of (hn : n ≤ 5) : m_form_of [.d (rel n r)] = .ok (formD n r) := by
  have fin : ∃ b, (allN n).foldl (stepF n r) (.none, .none) = (formD n r, b) := by
    obtain ⟨l, L, e⟩ := all_cons (n := n)
    unfold formD
    rw [e, List.foldl_cons, List.map_cons]
    obtain ⟨v, b, h1, h2⟩ := fold_form (n := n) (r := r) L (reN r l) (lstD l)
    refine ⟨b, ?_⟩
    dsimp only
    rw [← h2]
    exact h1
  have inv : ∀ d : List (List Nat), d.foldl (stepF n r) (.none, .none) = (.none, .none) ∨ ∃ u b, d.foldl (stepF n r) (.none, .none) = (rel n u, b) := fun d => by
    cases d with
    | nil => exact .inl rfl
    | cons l L =>
      obtain ⟨v, b, h1, _⟩ := fold_form (n := n) (r := r) L (reN r l) (lstD l)
      exact .inr ⟨v, b, h1⟩
  obtain ⟨b, fin⟩ := fin
  have loop := v_foldD (e := lstD) (f := fun names_4 s_3 => (M.bind (callM 2 m_renamed_of (vCons (vD (.ok (rel n r))) (vCons (vD (.ok names_4)) vNil))) fun here_5 => (M.bind (M.bind (mOr (M.bind (bin qIs (.ok s_3.1) (.ok .none)) tru) (M.bind (bin pLt (.ok here_5) (.ok s_3.1)) tru)) fun b => if b = true then ((M.bind (.ok here_5) fun form_7 => (M.bind (.ok names_4) fun told_8 => (.ok (.nx (form_7, told_8))))) : M (LB (PyData × PyData) (PyData × PyData))) else (.ok (.nx (s_3.1, s_3.2)))) (thenL fun s_6 => (.ok (s_6.1, s_6.2)))))) (fun d => d.foldl (stepF n r) (.none, .none)) (allN n) [] fun d a L e => by
    have ha : Nm n a := allN_mem.mp (by
      rw [List.nil_append] at e
      rw [e]
      exact List.mem_append_right _ List.mem_cons_self)
    rw [List.foldl_append]
    simp only [g_vD, g_vNil, g_vCons, m_ok, g_call2, v_renamed_of (show n ≤ 6 by omega) ha, g_bin, List.foldl_cons, List.foldl_nil]
    rcases inv d with h | ⟨u, c, h⟩
    · rw [h]
      rfl
    · rw [h, step_rel]
      have q : qIs (rel n u) .none = .ok (.bool false) := rfl
      simp only [q, ltRel, m_ok, g_tru, g_mOr, Bool.false_or]
      cases W.dataLt (heD n r a) (rel n u) <;> rfl
  rw [List.nil_append, fin] at loop
  simp only [g_vD, g_vNil, g_vCons, m_ok, g_call2, g_bin] at loop
  have ff : m_first_of [.d (rel n r)] = .ok (.tuple [formD n r, b]) := by
    simp only [m_first_of, g_aNil, g_aCons, m_ok, v_len, g_vD, g_vNil, g_vCons, g_call1, g_call2, v_all_names hn, g_itemsL, g_bin]
    rw [show (PyData.none, PyData.none) = List.foldl (stepF n r) (.none, .none) [] from rfl, loop, m_ok]
    simp only [g_aCons, m_ok, g_mkTup2]
  simp only [m_form_of, g_vD, g_vNil, g_vCons, m_ok, g_call1, ff, g_bin, idxT0]
end
end Ev

set_option Elab.async false
set_option linter.all false
set_option autoImplicit false
set_option maxRecDepth 100000
set_option maxHeartbeats 8000000
namespace Ev
open PySem PySem.Spec L2 LamX PyProof.Rows
section
variable {n i j k : Nat} {r s t u a b c d : Nat → Nat → Bool} {l m : List Nat} {p : Nat → Bool}
theorem lenSet_names (hn : n ≤ 5) (h : Nm n l) : bLenSetX (lstD l) = .ok (dI n) := by
  have hl : l.length < 64 := by rw [h.1]; omega
  have e : (row n fun i => decide (i ∈ l)) = List.range n := List.filter_eq_self.mpr fun x hx => by
    have := (names_perm h).mem_iff.mpr hx
    exact decide_eq_true this
  show bLenSetX (.list (l.map dI)) = _
  rw [dI_map, bLenSetX, bLenSet, intsOf_map]
  dsimp only
  rw [if_pos (by rw [List.length_map]; exact hl), sset_nat h.2.2, e, List.length_map, List.length_range]
theorem int_names (hn : n ≤ 5) (h : Nm n l) : comp1 (.ok (l.map dI)) (fun one_1 => (.ok true)) (fun one_1 => m_is_within [.d one_1, .d (.int 0), .d (.int ((n : Int) - 1))]) = .ok (.list (l.map fun _ => .bool true)) :=
  all_map l (by rw [h.1]; omega) fun x hx => v_thing' (h.2.2 x hx)
theorem v_are_names (hn : n ≤ 5) (h : Nm n l) : m_are_names_value [.d (dI n), .d (lstD l)] = .ok (.bool true) ∧ m_are_names_value [.d (dI n), .d (.tuple (l.map dI))] = .ok (.bool true) := by
  have i1 : pIsi2 "list" "tuple" (lstD l) = .ok (.bool true) := by rfl
  have i2 : pIsi2 "list" "tuple" (.tuple (l.map dI)) = .ok (.bool true) := by rfl
  have ll := lenSet_names hn h
  have hl := h.1
  constructor
  · simp only [m_are_names_value, m_is_list, g_vD, g_vNil, g_vCons, m_ok, g_call1, g_call2, g_call3, i1, g_tru, g_mNot, g_aNil, g_aCons, g_lenL, List.length_map, hl, g_bin, g_itemsL, sub1I, int_names hn h, all_true]
    simp only [g_neNN, decide_true, Bool.not_true, g_mOr, Bool.or_false, m_ok, g_tru, Bool.false_eq_true, if_false, g_bListL, ll, g_bin, g_eqNN]
  · simp only [m_are_names_value, m_is_list, g_vD, g_vNil, g_vCons, m_ok, g_call1, g_call2, g_call3, i2, g_tru, g_mNot, g_aNil, g_aCons, g_lenT, hl, g_bin, g_itemsT, sub1I, int_names hn h, all_true]
    simp only [g_neNN, decide_true, Bool.not_true, g_mOr, Bool.or_false, m_ok, g_tru, Bool.false_eq_true, if_false, g_bListT, ll, g_bin, g_eqNN]
theorem pair_ok : ((PyData.tuple [rel n a, rel n b]).plain && (PyData.tuple [rel n c, rel n d]).plain && decide (min (PyData.tuple [rel n a, rel n b]).depth (PyData.tuple [rel n c, rel n d]).depth ≤ 60)) = true := by
  have h1 := rel_depth (n := n) (r := a)
  have h2 := rel_depth (n := n) (r := b)
  have p : ∀ a b : Nat → Nat → Bool, (PyData.tuple [rel n a, rel n b]).plain = true := fun a b => by
    rw [PyData.plain, PyData.plainAll, PyData.plainAll, PyData.plainAll, rel_plain, rel_plain]
    rfl
  rw [p, p, Bool.true_and, Bool.true_and]
  refine decide_eq_true ?_
  rw [PyData.depth, PyData.depthAll, PyData.depthAll, PyData.depthAll]
  omega
theorem pair_eqv : PyData.eqv (.tuple [rel n a, rel n b]) (.tuple [rel n c, rel n d]) = (rEq n a c && rEq n b d) := by
  rw [PyData.eqv, PyData.eqvAll, PyData.eqvAll, PyData.eqvAll, rel_eqv, rel_eqv, Bool.and_true]
theorem eq_pair : pEq (.tuple [rel n a, rel n b]) (.tuple [rel n c, rel n d]) = .ok (.bool (rEq n a c && rEq n b d)) := by
  rw [pEq, if_pos pair_ok, pair_eqv]
theorem ne_pair : pNe (.tuple [rel n a, rel n b]) (.tuple [rel n c, rel n d]) = .ok (.bool (!(rEq n a c && rEq n b d))) := by
  rw [pNe, if_pos pair_ok, pair_eqv]
/-- the told paper -/
def paperX : List (List Nat) → PyData → PyData → PyData
  | [], x, y => .tuple [.str "forms", .tuple [x, y]]
  | l :: _, _, _ => .tuple [.str "names", lstD l]
def paperN (n : Nat) (r s : Nat → Nat → Bool) : PyData := paperX (nmL n r s) (formD n r) (formD n s)
theorem ne_lstD (P : List (List Nat)) : pNe (.list (P.map lstD)) (.list []) = .ok (.bool (!decide (P = []))) := ne_lsts P
theorem paper_made {Ls : List (List Nat)} {x y : PyData} : (mIf (.ok (!decide (Ls = []))) (M.bind (aCons (.ok (.str "names")) (aCons (pIdx (.list (Ls.map lstD)) (.int 0)) (.ok []))) mkTup) (.ok (.tuple [.str "forms", .tuple [x, y]]))) = .ok (paperX Ls x y) := by
  cases Ls with
  | nil => rfl
  | cons l L =>
    rw [List.map_cons, idx0]
    show M.bind (aCons (.ok (.str "names")) (aCons (.ok (lstD l)) (.ok []))) mkTup = _
    rw [g_aCons, g_aCons, m_ok, g_mkTup2]
    rfl
theorem v_alike_paper (h1 : 1 ≤ n) (hn : n ≤ 5) : m_alike_paper [.d (rel n r), .d (rel n s)] = .ok (paperN n r s) := by
  have pm := paper_made (Ls := nmL n r s) (x := formD n r) (y := formD n s)
  simp only [m_alike_paper, g_vD, g_vNil, g_vCons, m_ok, g_call1, g_call2, v_want_two h1 (show n ≤ 6 by omega), v_namings_of hn, v_form_of hn, g_aNil, g_aCons, g_mkLst0, g_bin, ne_lstD, g_tru, g_mkTup2]
  rw [pm]
  rfl
theorem v_are_alike (h1 : 1 ≤ n) (hn : n ≤ 5) : m_are_alike [.d (rel n r), .d (rel n s)] = .ok (.bool (!decide (nmL n r s = []))) := by
  simp only [m_are_alike, g_vD, g_vNil, g_vCons, m_ok, g_call1, g_call2, v_want_two h1 (show n ≤ 6 by omega), v_namings_of hn, g_aNil, g_mkLst0, g_bin, ne_lstD]
theorem isT2 {x y : PyData} : m_is_tuple [.d (.tuple [x, y]), .d (.int 2)] = .ok (.bool true) := by
  simp only [m_is_tuple, g_isiTT, g_aNil, g_aCons, m_ok, len2, g_bin, g_eq22, g_bAnd, Bool.and_self]
theorem eqNames : pEq (.str "names") (.str "names") = .ok (.bool true) := v_eqStr
theorem eqForms : pEq (.str "forms") (.str "names") = .ok (.bool false) := by rfl
theorem v_isap_names (h1 : 1 ≤ n) (hn : n ≤ 5) (h : Nm n l) : m_is_alike_paper [.d (rel n r), .d (rel n s), .d (.tuple [.str "names", lstD l])] = .ok (.bool (rEq n (reN r l) s)) ∧ m_is_alike_paper [.d (rel n r), .d (rel n s), .d (.tuple [.str "names", .tuple (l.map dI)])] = .ok (.bool (rEq n (reN r l) s)) := by
  obtain ⟨a1, a2⟩ := v_are_names hn h
  constructor
  · simp only [m_is_alike_paper, g_vD, g_vNil, g_vCons, m_ok, g_call1, g_call2, v_want_two h1 (show n ≤ 6 by omega), isT2, g_tru, g_mNot, g_bin, idxT0, idxT1, isStr, Bool.not_true, g_mOr, Bool.or_false, Bool.false_eq_true, if_false, eqNames, if_true, g_aNil, g_aCons, v_len, a1, g_bListL, v_renamed_of (show n ≤ 6 by omega) h, v_relEqD, g_bAnd, Bool.true_and]
  · simp only [m_is_alike_paper, g_vD, g_vNil, g_vCons, m_ok, g_call1, g_call2, v_want_two h1 (show n ≤ 6 by omega), isT2, g_tru, g_mNot, g_bin, idxT0, idxT1, isStr, Bool.not_true, g_mOr, Bool.or_false, Bool.false_eq_true, if_false, eqNames, if_true, g_aNil, g_aCons, v_len, a2, g_bListT, v_renamed_of (show n ≤ 6 by omega) h, v_relEqD, g_bAnd, Bool.true_and]
theorem v_are_forms (hn : n ≤ 5) : m_are_forms [.d (dI n), .d (.tuple [rel n a, rel n b])] = .ok (.bool true) := by
  have e : comp1 (.ok [rel n a, rel n b]) (fun _ => .ok true) (fun one_1 => m_is_relation_of [.d (dI n), .d one_1]) = .ok (.list [.bool true, .bool true]) := by
    unfold comp1
    simp only [m_ok, compL, if_true, v_is_relation_of (show n ≤ 1000 by omega)]
    exact g_mkLst2
  have a2 : bAll [.list [.bool true, .bool true]] = .ok (.bool true) := by rfl
  simp only [m_are_forms, g_vD, g_vNil, g_vCons, m_ok, g_call2, isT2, g_itemsT, e, g_aNil, g_aCons, a2, g_bAnd, Bool.and_self]
theorem v_isap_forms (h1 : 1 ≤ n) (hn : n ≤ 5) (hr : formD n r = rel n c) (hs : formD n s = rel n d) : m_is_alike_paper [.d (rel n r), .d (rel n s), .d (.tuple [.str "forms", .tuple [rel n a, rel n b]])] = .ok (.bool (!rEq n a b && (rEq n a c && rEq n b d))) := by
  have nf : pNe (.str "forms") (.str "forms") = .ok (.bool false) := v_neStr
  simp only [m_is_alike_paper, g_vD, g_vNil, g_vCons, m_ok, g_call1, g_call2, v_want_two h1 (show n ≤ 6 by omega), isT2, g_tru, g_mNot, g_bin, idxT0, idxT1, isStr, Bool.not_true, g_mOr, Bool.or_false, Bool.false_eq_true, if_false, eqForms, nf, g_aNil, g_aCons, v_len, v_are_forms hn, v_form_of hn, hr, hs, g_mkTup2, eq_pair, v_relNeD, g_bAnd]
end
end Ev

set_option Elab.async false
set_option linter.all false
set_option autoImplicit false
set_option maxRecDepth 100000
set_option maxHeartbeats 8000000
namespace Ev
open PySem PySem.Spec L2 LamX PyProof.Rows
section
variable {n i j k : Nat} {r s t u a b c d : Nat → Nat → Bool} {l m : List Nat} {p : Nat → Bool}
theorem form_alk (hr : formD n r = formD n s) : Alk n r s := by
  obtain ⟨l, hl, e1⟩ := form_mem (n := n) (r := r)
  obtain ⟨m, hm, e2⟩ := form_mem (n := n) (r := s)
  rw [e1, e2] at hr
  have e : rEq n (reN r l) (reN s m) = true := by
    have := rel_eqv (n := n) (r := reN r l) (s := reN s m)
    rw [← this, show rel n (reN r l) = rel n (reN s m) from hr, rel_eqv]
    exact rEq_self
  exact alk_trans ⟨l, hl, e⟩ (alk_symm (alk_self hm))
theorem rel_inj (h : rel n a = rel n b) : rEq n a b = true := by
  rw [← rel_eqv, h, rel_eqv]
  exact rEq_self
theorem forms_alk (hr : formD n r = rel n c) (hs : formD n s = rel n d) : rEq n c d = !decide (nmL n r s = []) := beq_of (by
  rw [Bool.not_eq_true', decide_eq_false_iff_not]
  constructor
  · intro h
    exact nmL_alk.mpr (form_alk (by rw [hr, hs, rel_of h]))
  · intro h
    exact rel_inj (by rw [← hr, ← hs]; exact form_same (nmL_alk.mp h)))
theorem v_isap_told (h1 : 1 ≤ n) (hn : n ≤ 5) : m_is_alike_paper [.d (rel n r), .d (rel n s), .d (paperN n r s)] = .ok (.bool true) := by
  obtain ⟨c, hr⟩ := form_rel (n := n) (r := r)
  obtain ⟨d, hs⟩ := form_rel (n := n) (r := s)
  have f := forms_alk hr hs
  unfold paperN
  cases e : nmL n r s with
  | nil =>
    rw [e] at f
    rw [paperX, hr, hs, v_isap_forms h1 hn hr hs, f, rEq_self, rEq_self]
    rfl
  | cons l L =>
    rw [paperX]
    have hl := List.mem_filter.mp (show l ∈ nmL n r s by rw [e]; exact List.mem_cons_self)
    rw [(v_isap_names h1 hn (allN_mem.mp hl.1)).1, hl.2]
/-- the word of the told paper -/
def wordN (n : Nat) (r s : Nat → Nat → Bool) : Str := if nmL n r s = [] then "forms" else "names"
theorem paper_word : pIdx (paperN n r s) (.int 0) = .ok (.str (wordN n r s)) := by
  unfold paperN wordN
  cases nmL n r s with
  | nil => exact idxT0
  | cons l L => exact idxT0
theorem sh_namesS : Sh (.str "names") 1000 0 := ⟨by decide +kernel, by rw [wid]; omega, by rw [PyData.depth]; omega⟩
theorem sh_formsS : Sh (.str "forms") 1000 0 := ⟨by decide +kernel, by rw [wid]; omega, by rw [PyData.depth]; omega⟩
theorem sh_paperN (hn : n ≤ 5) : Sh (paperN n r s) (3 + 2 * (20007 + 2)) 4 := by
  obtain ⟨c, hr⟩ := form_rel (n := n) (r := r)
  obtain ⟨d, hs⟩ := form_rel (n := n) (r := s)
  unfold paperN
  cases e : nmL n r s with
  | nil =>
    rw [paperX, hr, hs]
    exact sh_tup 2 (Nat.le_refl _) (sh_cons (sh_mono sh_formsS (by omega) (by omega)) (sh_cons (sh_tup 2 (Nat.le_refl _) (sh_cons (sh_rel (by omega)) (sh_cons (sh_rel (by omega)) (sh_nil (w := 0) (k := 0))))) (sh_nil (w := 0) (k := 0))))
  | cons l L =>
    rw [paperX]
    have hl := allN_mem.mp (List.mem_filter.mp (show l ∈ nmL n r s by rw [e]; exact List.mem_cons_self)).1
    exact sh_tup 2 (Nat.le_refl _) (sh_cons (sh_mono sh_namesS (by omega) (by omega)) (sh_cons (sh_mono (sh_lst 5 (by rw [List.length_map, hl.1]; omega) (sh_map fun x hx => sh_nat (by have := hl.2.2 x hx; omega))) (by omega) (by omega)) (sh_nil (w := 0) (k := 0))))
theorem sh_papers (hn : n ≤ 5) : Sh (.list [paperN n r s, paperN n r s]) (3 + 2 * (40021 + 2)) 5 := sh_lst 2 (Nat.le_refl _) (sh_cons (sh_paperN hn) (sh_cons (sh_paperN hn) (sh_nil (w := 0) (k := 0))))
theorem s_forK {α ρ σ : Type} {e : α → PyData} {f : PyData → σ → M (LB σ ρ)} (J : Nat → σ → Prop) (K : Nat) : ∀ (l : List α) (k : Nat) (s : σ), J k s → k + l.length ≤ K → (∀ a ∈ l, ∀ k s, k < K → J k s → (f (e a) s).Sat fun lb => ∃ s', lb = .nx s' ∧ J (k + 1) s') → (forL (l.map e) s f).Sat fun lb => ∃ s', lb = .nx s' ∧ J (k + l.length) s'
  | [], k, s, h, _, _ => ⟨s, rfl, h⟩
  | a :: l, k, s, h, hk, hs => by
    rw [List.map_cons, forL]
    rw [List.length_cons] at hk
    refine s_step (hs a List.mem_cons_self k s (by omega) h) fun lb ⟨s', e, j⟩ => ?_
    subst e
    have := s_forK J K l (k + 1) s' j (by omega) fun b hb => hs b (List.mem_cons_of_mem _ hb)
    rw [show k + 1 + l.length = k + (a :: l).length by rw [List.length_cons]; omega] at this
    exact this
theorem s_pick2 {x y : PyData} : (m__law_pick [.p, .d (.list [x, y])]).Sat fun d => d = x ∨ d = y := by
  have e2 : bLen [.list [x, y]] = .ok (dI 2) := by rfl
  simp only [m__law_pick, g_aNil, g_aCons, m_ok, e2, drawB, g_binL, M.bind_assoc]
  refine s_drawK (n := 2) (by omega) (by omega) fun k hk => ?_
  obtain e | e : k = 0 ∨ k = 1 := by omega
  · subst e
    have : pIdx (.list [x, y]) (dI 0) = .ok x := by rfl
    rw [this]
    exact .inl rfl
  · subst e
    have : pIdx (.list [x, y]) (dI 1) = .ok y := by rfl
    rw [this]
    exact .inr rfl
end
end Ev

set_option Elab.async false
set_option linter.all false
set_option autoImplicit false
set_option maxRecDepth 100000
set_option maxHeartbeats 8000000
namespace Ev
open PySem PySem.Spec L2 LamX PyProof.Rows
section
variable {n i j k : Nat} {r s t u a b c d : Nat → Nat → Bool} {l m : List Nat} {p : Nat → Bool}
theorem isTrue_ : qIsNot (.bool true) (.bool true) = .ok (.bool false) := by rfl
theorem some_comp (hn : n ≤ 5) : comp1 (.ok ((allN n).map lstD)) (fun names_4 => (M.bind (bin pEq (callM 2 m__law_renamed (vCons (vD (.ok (rel n r))) (vCons (vD (.ok names_4)) vNil))) (.ok (rel n s))) tru)) (fun names_4 => (.ok names_4)) = .ok (.list ((nmL n r s).map lstD)) :=
  v_comp (fun l => rEq n (reN r l) s) lstD (Nat.le_trans (allN_len hn) (by omega)) (fun l hl => by
    simp only [g_vD, g_vNil, g_vCons, m_ok, g_call2, v__law_renamed (show n ≤ 6 by omega) (allN_mem.mp hl), g_bin, v_relEqD, g_tru]) fun _ _ _ => rfl
theorem pick_made {mx : M PyData} {y : PyData} : callM 2 m__law_pick (vCons (.ok .p) (vCons (vD (M.bind (aCons mx (.ok [y])) mkLst)) (.ok []))) = mx.bind fun d => m__law_pick [.p, .d (.list [d, y])] := by
  unfold aCons
  simp only [M.bind_assoc, m_ok, g_mkLst2, vCons, vD, callM]
  rfl
theorem drawn_names (hn : n ≤ 5) {h : List Nat} (hh : Nm n h) : (callM 2 m__law_pick (vCons (.ok .p) (vCons (vD (M.bind (aCons (callM 2 m__law_mixed (vCons (.ok .p) (vCons (vD (bRg1 (dI n))) (.ok [])))) (.ok [lstD h])) mkLst)) (.ok [])))).Sat fun d => ∃ x : { x : List Nat // Nm n x }, d = lstD x.1 := by
  rw [pick_made]
  simp only [v_bRg1 (show n < 1000000 by omega), g_vD, g_vCons, g_call2]
  refine s_step (s__law_mixed (by omega)) fun d ⟨g, h1, h2, e⟩ => ?_
  subst e
  refine s_pick2.mono fun d e => ?_
  rcases e with e | e
  · refine ⟨⟨namesOf n g, nm_names h1 h2⟩, ?_⟩
    rw [e]
    unfold namesOf lstD
    rw [List.map_map]
    rfl
  · exact ⟨⟨h, hh⟩, e⟩
theorem head_names : ∃ h, Nm n h ∧ mIf (.ok (!decide (nmL n r s = []))) (pIdx (.list ((nmL n r s).map lstD)) (.int 0)) (.ok (lstD (List.range n))) = .ok (lstD h) := by
  cases e : nmL n r s with
  | nil => exact ⟨List.range n, nm_range, rfl⟩
  | cons l L =>
    refine ⟨l, allN_mem.mp (List.mem_filter.mp (show l ∈ nmL n r s by rw [e]; exact List.mem_cons_self)).1, ?_⟩
    rw [List.map_cons, idx0]
    rfl
theorem so_forms (hr : formD n r = rel n c) (hs : formD n s = rel n d) : (!rEq n a b && (rEq n a c && rEq n b d)) = ((rEq n a c && rEq n b d) && !rEq n c d) := by
  cases h : (rEq n a c && rEq n b d) with
  | false => rw [Bool.and_false, Bool.false_and]
  | true =>
    obtain ⟨x, y⟩ := Bool.and_eq_true_iff.mp h
    rw [Bool.and_true, Bool.true_and, ← rel_eqv, ← rel_eqv (r := c), rel_of x, rel_of y]
abbrev pairD (n : Nat) (x : (Nat → Nat → Bool) × (Nat → Nat → Bool)) : PyData := .tuple [rel n x.1, rel n x.2]
theorem rep_snoc {α : Type} {x : α} {m : Nat} : List.replicate m x ++ [x] = List.replicate (m + 1) x := (List.replicate_succ' (n := m) (a := x)).symm
theorem s__law_two_right (h1 : 1 ≤ n) (hn : n ≤ 5) : (m__law_two_right [.p, .d (rel n r), .d (rel n s)]).Sat fun d => d = .bool true := by
  obtain ⟨fr, hr⟩ := form_rel (n := n) (r := r)
  obtain ⟨fs, hs⟩ := form_rel (n := n) (r := s)
  have hb : n < 1000000 := by omega
  have sc := some_comp (r := r) (s := s) hn
  have pm := paper_made (Ls := nmL n r s) (x := formD n r) (y := formD n s)
  have sp := sh_papers (r := r) (s := s) hn
  simp only [g_vD, g_vNil, g_vCons, m_ok, g_call2] at sc
  simp only [m__law_two_right, g_vD, g_vNil, g_vCons, m_ok, g_call1, g_call2, g_call3, g_callK2, g_aNil, g_aCons, g_mkLst2, x_repr (sh_rels2 (show n ≤ 20 by omega)) (by omega : 3 + 2 * 10002 ≤ 16777216) (by omega : 3 ≤ 60), g_mkLst0, g_lsOf, v_len, v__law_all_names hn, g_itemsL]
  rw [sc, m_ok, g_onL]
  simp only [v__law_first hn, m_ok, g_bin, ne_lstD, g_tru, g_aCons, g_mkTup2]
  rw [pm, m_ok]
  simp only [v_alike_paper h1 hn, v_are_alike h1 hn, m_ok, g_aCons, g_mkLst2]
  rw [show paperX (nmL n r s) (formD n r) (formD n s) = paperN n r s from rfl]
  simp only [g_mkLst2, m_ok, g_aCons, x_repr sp (by omega : 3 + 2 * (40021 + 2) ≤ 16777216) (by omega : 5 ≤ 60), v_neStr, g_tru, v_isap_told h1 hn, g_bin, isTrue_, g_neBB, Bool.xor_self, g_mOr, Bool.or_false, Bool.false_eq_true, if_false]
  rw [if_neg (by simp)]
  have r5 : rng1 [.int 5] = .ok ((List.range 5).map dI) := v_rng1 (n := 5) (by omega)
  have bg : bRg1 (dI n) = .ok (lstD (List.range n)) := v_bRg1 hb
  obtain ⟨h, nh, eh⟩ := head_names (n := n) (r := r) (s := s)
  have dn := drawn_names hn nh
  rw [r5, m_ok]
  refine s_step (s_forK (e := dI) (fun k st => ∃ m, m ≤ k ∧ st = List.replicate m (.str (wordN n r s))) 10 (List.range 5) 0 [] ⟨0, Nat.le_refl _, rfl⟩ (by simp) fun a ha k st hk ⟨m, hm, e⟩ => ?_) fun lb ⟨st, e, m, hm, es⟩ => ?_
  · subst e
    rw [← bg] at eh
    rw [eh, g_aCons]
    refine s_stepE (g := fun x : { x : List Nat // Nm n x } => lstD x.1) dn fun x => ?_
    obtain ⟨x, hx⟩ := x
    dsimp only
    simp only [v__law_renamed (show n ≤ 6 by omega) hx, g_bin, v_relEqD, m_ok, g_bListL, g_bTuple, g_aCons, g_mkTup2, g_vD, g_vNil, g_vCons, g_call3, g_callK3, (v_isap_names h1 hn hx).1, (v_isap_names h1 hn hx).2, g_mkLst2, x_repr sh_bools2 (by omega : 3 + 2 * (5 + 2) ≤ 16777216) (by omega : 1 ≤ 60), v_neStr, g_tru, Bool.false_eq_true, if_false, g_mkLst1]
    cases so : rEq n (reN r x) s with
    | false =>
      rw [g_mIfF, m_ok, g_onL, if_pos (by rw [List.length_replicate, big_size]; simp; omega), List.append_nil]
      exact ⟨_, rfl, m, by omega, rfl⟩
    | true =>
      have w : wordN n r s = "names" := if_neg (nmL_alk.mpr ⟨x, hx, so⟩)
      rw [g_mIfT, m_ok, g_onL, if_pos (by rw [List.length_replicate, big_size]; simp; omega), ← w, rep_snoc]
      exact ⟨_, rfl, m + 1, by omega, rfl⟩
  subst e
  rw [g_thenL]
  have L5 : [PyData.tuple [rel n fr, rel n fs], PyData.tuple [rel n fs, rel n fr], PyData.tuple [rel n r, rel n s], PyData.tuple [rel n fr, rel n fr], PyData.tuple [rel n fr, rel n r]] = [(fr, fs), (fs, fr), (r, s), (fr, fr), (fr, r)].map (pairD n) := rfl
  simp only [hr, hs, g_mkLst5, m_ok, g_itemsL]
  rw [L5]
  refine s_step (s_forK (e := pairD n) (fun k st => ∃ m, m ≤ k ∧ st = List.replicate m (.str (wordN n r s))) 20 _ 5 st ⟨m, hm, es⟩ (by simp) fun x hx k st hk ⟨m, hm, e⟩ => ?_) fun lb ⟨st, e, m, hm, es⟩ => ?_
  · subst e
    obtain ⟨a, b⟩ := x
    have ia : m_is_alike_paper [.d (rel n r), .d (rel n s), .d (.tuple [.str "forms", pairD n (a, b)])] = .ok (.bool ((rEq n a fr && rEq n b fs) && !rEq n fr fs)) := by
      rw [← so_forms (a := a) (b := b) hr hs]
      exact v_isap_forms h1 hn hr hs
    have ep : pEq (pairD n (a, b)) (.tuple [rel n fr, rel n fs]) = .ok (.bool (rEq n a fr && rEq n b fs)) := eq_pair
    simp only [ep, v_relNeD, g_bAnd, m_ok, g_vD, g_vNil, g_vCons, g_aCons, g_mkTup2, g_call3, g_callK3, ia, g_mkLst2, x_repr sh_bools2 (by omega : 3 + 2 * (5 + 2) ≤ 16777216) (by omega : 1 ≤ 60), g_bin, v_neStr, g_tru, Bool.false_eq_true, if_false, g_mkLst1]
    cases so : ((rEq n a fr && rEq n b fs) && !rEq n fr fs) with
    | false =>
      rw [g_mIfF, m_ok, g_onL, if_pos (by rw [List.length_replicate, big_size]; simp; omega), List.append_nil]
      exact ⟨_, rfl, m, by omega, rfl⟩
    | true =>
      have z := (Bool.and_eq_true_iff.mp so).2
      have f := forms_alk hr hs
      have w : wordN n r s = "forms" := if_pos (by
        rw [f, Bool.not_not] at z
        exact of_decide_eq_true z)
      rw [g_mIfT, m_ok, g_onL, if_pos (by rw [List.length_replicate, big_size]; simp; omega), ← w, rep_snoc]
      exact ⟨_, rfl, m + 1, by omega, rfl⟩
  subst e
  rw [g_thenL]
  have cw : comp1 (.ok st) (fun word_19 => M.bind (pNe word_19 (.str (wordN n r s))) tru) (fun word_19 => (.ok word_19)) = .ok (.list []) := by
    have e : st = (List.replicate m ()).map fun _ => .str (wordN n r s) := by rw [es, List.map_replicate]
    have h := v_comp (l := List.replicate m ()) (e := fun _ => .str (wordN n r s)) (c := fun word_19 => M.bind (pNe word_19 (.str (wordN n r s))) tru) (f := fun word_19 => (.ok word_19)) (fun _ => false) (fun _ => .str (wordN n r s)) (by rw [List.length_replicate]; simp at hm; omega) (fun _ _ => by rw [v_neStr, m_ok, g_tru]) fun _ _ _ => rfl
    rw [e, h]
    have fn : (List.replicate m ()).filter (fun _ => false) = [] := List.filter_eq_nil_iff.mpr fun _ _ h => by cases h
    rw [fn]
    rfl
  have ew : wordN n s r = wordN n r s := by
    unfold wordN
    by_cases z : nmL n r s = []
    · rw [if_pos z, if_pos (Classical.byContradiction fun y => nmL_alk.mpr (alk_symm (nmL_alk.mp y)) z)]
    · rw [if_neg z, if_neg fun y => nmL_alk.mpr (alk_symm (nmL_alk.mp z)) y]
  simp only [g_itemsL, g_bin, paper_word, cw, neNil, m_ok, g_tru, Bool.false_eq_true, if_false, v_alike_paper h1 hn, ew, v_neStr, g_aCons, g_mkLst2]
  have last : mAnd (M.bind (pEq (.str (wordN n r s)) (.str "forms")) tru) (M.bind (bin pNe (pIdx (paperN n s r) (.int 1)) (.ok (.tuple [rel n fs, rel n fr]))) tru) = .ok false := by
    by_cases z : nmL n r s = []
    · have z2 : nmL n s r = [] := Classical.byContradiction fun y => nmL_alk.mpr (alk_symm (nmL_alk.mp y)) z
      have pe : paperN n s r = .tuple [.str "forms", .tuple [rel n fs, rel n fr]] := by
        unfold paperN
        rw [z2, paperX, hr, hs]
      rw [pe, idxT1, g_bin, ne_pair, m_ok, g_tru, rEq_self, rEq_self, show wordN n r s = "forms" from if_pos z, v_eqStr, m_ok, g_tru]
      rfl
    · rw [show wordN n r s = "names" from if_neg z]
      rfl
  rw [last]
  simp only [g_mOr, Bool.or_self, m_ok, Bool.false_eq_true, if_false, v_eqStr]
  exact rfl
end
end Ev

set_option Elab.async false
set_option linter.all false
set_option autoImplicit false
set_option maxRecDepth 100000
set_option maxHeartbeats 8000000
namespace Ev
open PySem PySem.Spec L2 LamX PyProof.Rows
section
variable {n i j k x y : Nat} {r s t u a b c d : Nat → Nat → Bool} {l m : List Nat} {p q : Nat → Bool}
/-! ### a pair more or less -/
def flipR (r : Nat → Nat → Bool) (x y : Nat) : Nat → Nat → Bool := fun i j => r i j != decide (i = x ∧ j = y)
theorem v_with_pair (h1 : 1 ≤ n) (hn : n ≤ 5) (hx : x < n) (hy : y < n) : m_with_pair [.d (rel n r), .d (dI x), .d (dI y)] = .ok (rel n (flipR r x y)) := by
  simp only [m_with_pair, g_vD, g_vNil, g_vCons, m_ok, g_call1, g_call2, v_want_relation h1 (show n ≤ 6 by omega), v_want_thing h1 (show n ≤ 6 by omega) hx, v_want_thing h1 (show n ≤ 6 by omega) hy, g_aNil, g_aCons, v_len]
  rw [v_by_rule (by omega) _ (flipR r x y) fun i j hi hj => by
    show bin pNe (bin pIn (.ok (dI j)) (bin pIdx (.ok (rel n r)) (.ok (dI i)))) (bin pEq (mkTup [dI i, dI j]) (mkTup [dI x, dI y])) = _
    have e : pEq (.tuple [dI i, dI j]) (.tuple [dI x, dI y]) = .ok (.bool (decide ([i, j] = [x, y]))) := v_eqT (a := [i, j]) (b := [x, y])
    simp only [g_bin, v_ix hi, v_inRow hj, g_mkTup2, e, g_neBB]
    have e2 : decide ([i, j] = [x, y]) = decide (i = x ∧ j = y) := decide_eq_decide.mpr (by simp)
    rw [e2]
    rfl, m_ok]
theorem v_renamed (h1 : 1 ≤ n) (hn : n ≤ 5) (h : Nm n l) : m_renamed [.d (rel n r), .d (lstD l)] = .ok (rel n (reN r l)) := by
  simp only [m_renamed, m_want_names, g_vD, g_vNil, g_vCons, m_ok, g_call1, g_call2, v_want_relation h1 (show n ≤ 6 by omega), g_aNil, g_aCons, v_len, (v_are_names hn h).1, g_tru, g_mNot, Bool.not_true, Bool.false_eq_true, if_false, g_bListL, v_renamed_of (show n ≤ 6 by omega) h]
theorem cnt_step : (row (k + 1) p).length = (row k p).length + (if p k = true then 1 else 0) := by
  rw [row_succ, List.length_append]
  split <;> rfl
theorem len_flip : ∀ n, y < n → (row n fun j => p j != decide (j = y)).length + (if p y = true then 1 else 0) = (row n p).length + (if p y = true then 0 else 1)
  | 0, h => absurd h (Nat.not_lt_zero _)
  | n + 1, h => by
    rw [cnt_step, cnt_step]
    rcases Nat.lt_or_ge y n with c | c
    · have ih := len_flip n c
      have e : (p n != decide (n = y)) = p n := by rw [decide_eq_false (by omega)]; cases p n <;> rfl
      rw [e]
      omega
    · have ey : n = y := by omega
      subst ey
      have e : row n (fun j => p j != decide (j = n)) = row n p := row_ext fun j hj => by rw [decide_eq_false (by omega)]; cases p j <;> rfl
      rw [e, decide_eq_true rfl]
      cases p n <;> simp
theorem sum_upd {f g : Nat → Nat} (h : ∀ i, i ≠ x → f i = g i) : ∀ n, x < n → ((List.range n).map f).sum + g x = ((List.range n).map g).sum + f x
  | 0, hx => absurd hx (Nat.not_lt_zero _)
  | n + 1, hx => by
    rw [List.range_succ, List.map_append, List.map_append, List.sum_append, List.sum_append]
    simp only [List.map_cons, List.map_nil, List.sum_cons, List.sum_nil, Nat.add_zero]
    rcases Nat.lt_or_ge x n with c | c
    · have ih := sum_upd h n c
      rw [h n (by omega)]
      omega
    · have ex : x = n := by omega
      subst ex
      have e : (List.range x).map f = (List.range x).map g := List.map_congr_left fun i hi => h i (by have := List.mem_range.mp hi; omega)
      rw [e]
      omega
theorem sum_flip (hx : x < n) (hy : y < n) : (lensN n (flipR r x y)).sum ≠ (lensN n r).sum := by
  have h := sum_upd (x := x) (f := fun i => (row n (flipR r x y i)).length) (g := fun i => (row n (r i)).length) (fun i ne => by
    rw [row_ext (p := flipR r x y i) (q := r i) fun j hj => by
      unfold flipR
      rw [decide_eq_false (by rintro ⟨e, _⟩; exact ne e)]
      cases r i j <;> rfl]) n hx
  have f := len_flip (p := r x) n hy
  have e : (row n fun j => r x j != decide (j = y)) = row n (flipR r x y x) := row_ext fun j hj => by
    unfold flipR
    rw [show decide (x = x ∧ j = y) = decide (j = y) from decide_eq_decide.mpr ⟨fun h => h.2, fun h => ⟨rfl, h⟩⟩]
  rw [e] at f
  unfold lensN
  intro q
  rw [q] at h
  cases e3 : r x y with
  | false =>
    rw [e3] at f
    simp only [Bool.false_eq_true, if_false] at f
    omega
  | true =>
    rw [e3] at f
    simp only [if_true] at f
    omega
theorem alk_sum (h : Alk n r s) : (lensN n r).sum = (lensN n s).sum := by
  obtain ⟨l, hl, e⟩ := h
  rw [← lens_eq e]
  exact (lens_re hl).symm.sum_nat
theorem not_alk (h : Nm n l) (hx : x < n) (hy : y < n) : wordN n r (flipR (reN r l) x y) = "forms" := if_pos (Classical.byContradiction fun q => by
  have h1 := alk_sum (nmL_alk.mp q)
  have h2 := alk_sum (alk_self (r := r) h)
  exact sum_flip (r := reN r l) hx hy (by rw [← h1, h2]))
/-! ### a drawn relation -/
abbrev Lt (n : Nat) := { l : List Nat // (∀ x ∈ l, x < n) ∧ l.length ≤ n }
instance : Inhabited (Lt n) := ⟨⟨[], (fun _ h => nomatch h), Nat.zero_le _⟩⟩
def Good (n : Nat) (st : PyData) : Prop := ∃ h : Nat → Lt n, st = .list ((List.range n).map fun i => lstD (h i).1)
theorem row_Lt : ∀ p : Nat → Bool, (∀ x ∈ row n p, x < n) ∧ (row n p).length ≤ n := fun p => ⟨fun x hx => (row_in.mp hx).1, row_len⟩
theorem s_stage {m : M (LB PyData PyData)} {kk : PyData → M PyData} {Q : PyData → Prop} (h : m.Sat fun lb => ∃ st, lb = .nx st ∧ Good n st) (h2 : ∀ st, Good n st → (kk st).Sat Q) : (m.bind (thenL kk)).Sat Q := s_step h fun lb ⟨st, e, g⟩ => by
  subst e
  rw [g_thenL]
  exact h2 st g
theorem good_of {m : M PyData} (h : m.Sat (Good n)) : (M.bind m fun d => onL d fun rows_9 => (M.ok (LB.nx (PyData.list rows_9)) : M (LB PyData PyData))).Sat fun lb => ∃ st, lb = .nx st ∧ Good n st := s_step h fun d ⟨hh, e⟩ => by
  subst e
  exact ⟨_, rfl, hh, rfl⟩
theorem eqK1 {k : Nat} : pEq (dI k) (.int 1) = .ok (.bool (decide (k = 1))) := g_eqNN (b := 1)
theorem modN {a n : Nat} (h : 0 < n) : pMod (dI a) (dI n) = .ok (dI (a % n)) := by
  rw [g_modI (by omega), Int.fmod_eq_emod_of_nonneg _ (by omega)]
  rfl
theorem s__law_relation94 : (m__law_relation [.p, .d (.int 5)]).Sat fun d => ∃ x : { x : Nat × (Nat → Nat → Bool) // 1 ≤ x.1 ∧ x.1 ≤ 5 }, d = rel x.1.1 x.1.2 := by
  simp only [m__law_relation, drawA, M.bind_assoc]
  refine s_drawK (n := 5) (by omega) (by omega) fun k hk => ?_
  rw [add1, m_ok]
  have h1 : 1 ≤ 1 + k := by omega
  have h6 : 1 + k ≤ 5 := by omega
  generalize 1 + k = n at h1 h6
  clear hk
  have hb : n < 1000000 := by omega
  have hn' : n ≤ 1000 := by omega
  simp only [drawB]
  refine s_drawK (n := 6) (by omega) (by omega) fun w hw => ?_
  simp only [g_binL, M.bind_assoc, m_ok, eqK1, eqK2, eqK3, eqK4, g_tru]
  refine s_drawK (n := 3) (by omega) (by omega) fun sc hsc => ?_
  have a2 : pAdd (.int 2) (dI sc) = .ok (dI (2 + sc)) := g_addNN (a := 2)
  rw [a2, m_ok]
  simp only [g_vD, g_vNil, g_vCons, m_ok, g_aNil, g_aCons, g_call2, v_rng1 hb]
  refine s_step (P := Good n) ((s_comp1 (β := Lt n) (g := fun _ x => lstD x.1) (by omega) fun a ha => (s_row (by omega) ?_).mono fun d ⟨p, e⟩ => ⟨⟨row n p, row_Lt p⟩, e⟩).mono fun d ⟨h, e⟩ => ⟨h, e⟩) fun d ⟨h, e⟩ => ?_
  · exact fun a _ => s_zero (by omega) (by omega)
  subst e
  rw [g_onL]
  refine s_stage (n := n) ?_ fun st g => ?_
  · split
    · refine good_of ((s_comp1 (β := Lt n) (g := fun _ x => lstD x.1) (by omega) fun a ha => ?_).mono fun d ⟨h, e⟩ => ⟨h, e⟩)
      unfold aCons
      rw [M.bind_assoc]
      refine s_drawK (n := n) (by omega) hb fun z hz => ?_
      rw [m_ok, m_ok, g_mkLst1]
      exact ⟨⟨[z], by simpa using hz, by simpa using h1⟩, rfl⟩
    · exact ⟨_, rfl, h, rfl⟩
  obtain ⟨h, e⟩ := g
  subst e
  rw [g_itemsL]
  refine s_stage (n := n) ?_ fun st g => ?_
  · split
    · refine good_of ?_
      rw [v_comp' (fun i => lstD (row n fun j => !decide (j ∈ (h i).1))) (by rw [List.length_range]; omega) fun i _ => by
        rw [v_comp (fun j => !decide (j ∈ (h i).1)) dI (by rw [List.length_range]; omega) (fun j _ => by rw [v_pNotInL, m_ok, g_tru]) fun _ _ _ => rfl]
        rfl]
      exact ⟨fun i => ⟨row n fun j => !decide (j ∈ (h i).1), row_Lt _⟩, rfl⟩
    · exact ⟨_, rfl, h, rfl⟩
  obtain ⟨h, e⟩ := g
  subst e
  refine s_stage (n := n) ?_ fun st g => ?_
  · split
    · refine good_of ?_
      rw [v_comp' (fun i => lstD (row n fun j => decide (j ∈ (h i).1) || decide (i ∈ (h j).1))) (by rw [List.length_range]; omega) fun i hi => by
        rw [v_comp (fun j => decide (j ∈ (h i).1) || decide (i ∈ (h j).1)) dI (by rw [List.length_range]; omega) (fun j hj => by
          simp only [g_bin, v_pIdxL _ (List.mem_range.mp hi), v_pIdxL _ (List.mem_range.mp hj), v_pInL, m_ok, g_tru, g_mOr]) fun _ _ _ => rfl]
        rfl]
      exact ⟨fun i => ⟨row n fun j => decide (j ∈ (h i).1) || decide (i ∈ (h j).1), row_Lt _⟩, rfl⟩
    · exact ⟨_, rfl, h, rfl⟩
  obtain ⟨h, e⟩ := g
  subst e
  refine s_stage (n := n) ?_ fun st g => ?_
  · split
    · refine s_drawK (n := n) (by omega) hb fun z hz => ?_
      refine good_of ?_
      rw [v_comp' (fun i => lstD [(i + z) % n]) (by rw [List.length_range]; omega) fun i _ => by
        rw [g_addNN, g_aCons, m_ok, g_bIntI, g_bin, modN (by omega), g_aCons, m_ok, g_mkLst1]
        rfl]
      exact ⟨fun i => ⟨[(i + z) % n], by simpa using Nat.mod_lt _ (by omega), by simpa using h1⟩, rfl⟩
    · exact ⟨_, rfl, h, rfl⟩
  obtain ⟨h, e⟩ := g
  subst e
  rw [g_itemsL, v_comp' (fun i => .tuple ((row n fun j => decide (j ∈ (h i).1)).map dI)) (by rw [List.length_range]; omega) fun i _ => by
    rw [v_bSetL (h i).2.1 (by have := (h i).2.2; omega), g_aCons, m_ok, g_bTuple], g_aCons, m_ok, g_bTuple, m_ok]
  exact ⟨⟨(n, fun i j => decide (j ∈ (h i).1)), h1, h6⟩, rfl⟩
end
end Ev

set_option Elab.async false
set_option linter.all false
set_option autoImplicit false
set_option maxRecDepth 100000
set_option maxHeartbeats 8000000
namespace Ev
open PySem PySem.Spec L2 LamX PyProof.Rows
section
variable {n i j k x y : Nat} {r s t u a b c d : Nat → Nat → Bool} {l m : List Nat} {p q : Nat → Bool}
theorem sa_not {ρ : Type} {m : M PyData} {k : Bool → M ρ} {Q : ρ → Prop} (h1 : m.Sat fun d => d = .bool true) (h2 : Sa (k false) Q) : Sa (M.bind (mNot (M.bind m tru)) k) Q := by
  rw [sa_iff] at h2 ⊢
  have e : (mNot (m.bind tru)).bind k = m.bind fun d => (mNot (tru d)).bind k := by
    unfold mNot
    simp only [M.bind_assoc]
  rw [e]
  refine s_step h1 fun d hd => ?_
  subst hd
  exact h2
theorem draw_pair {d : PyData} {m1 m2 : M PyData} : callM 3 m_with_pair (vCons (.ok (.d d)) (vCons (vD m1) (vCons (vD m2) (.ok [])))) = m1.bind fun a => m2.bind fun b => m_with_pair [.d d, .d a, .d b] := by
  simp only [callM, vCons, vD, M.bind_assoc, m_ok]
  rfl
theorem s__law_right : (m__law_right [.p]).Sat fun d => d = .bool true := by
  rw [← sa_iff]
  simp only [m__law_right, g_vD, g_vNil, g_vCons, m_ok, g_call2]
  refine sa_stepE s__law_relation94 fun x => ?_
  obtain ⟨⟨n, r⟩, h1, hn⟩ := x
  dsimp only at h1 hn ⊢
  have hb : n < 1000000 := by omega
  simp only [g_aNil, g_aCons, m_ok, v_len, v_bRg1 hb, g_vD, g_vCons, g_call2]
  refine sa_stepE (g := fun x : { x : List Nat // Nm n x } => lstD x.1) ((s__law_mixed (by omega)).mono fun d ⟨g, h1, h2, e⟩ => ⟨⟨namesOf n g, nm_names h1 h2⟩, by
    rw [e]
    unfold namesOf lstD
    rw [List.map_map]
    rfl⟩) fun x => ?_
  obtain ⟨l, hl⟩ := x
  dsimp only
  simp only [g_bListL, m_ok, g_vD, g_vNil, g_vCons, g_call2, g_call3, v_renamed h1 hn hl]
  refine sa_not (s__law_two_right h1 hn) ?_
  simp only [Bool.false_eq_true, if_false, draw_pair, M.bind_assoc]
  refine sa_drawK (n := n) (by omega) hb fun x hx => ?_
  refine sa_drawK (n := n) (by omega) hb fun y hy => ?_
  rw [v_with_pair h1 hn hx hy, m_ok]
  try simp only [g_vD, g_vNil, g_vCons, m_ok, g_call2, g_call3]
  refine sa_notOr (s__law_two_right h1 hn) ?_
  have nf : pNe (.str "forms") (.str "forms") = .ok (.bool false) := v_neStr
  simp only [v_alike_paper h1 hn, g_bin, paper_word, not_alk hl hx hy, nf, m_ok, g_tru, Bool.false_eq_true, if_false, draw_pair, M.bind_assoc]
  refine sa_drawK (n := n) (by omega) hb fun x2 hx2 => ?_
  refine sa_drawK (n := n) (by omega) hb fun y2 hy2 => ?_
  rw [v_with_pair h1 hn hx2 hy2, m_ok]
  try simp only [g_vD, g_vNil, g_vCons, m_ok, g_call2, g_call3]
  refine sa_step (sa_of (s__law_two_right h1 hn)) fun d hd => ?_
  exact sa_ok.mpr hd
theorem s__law_pot94 {ns : List Int} {k : Nat} (hk : k < 1000) : ∃ ds, m__law_pot [.s ns, .d (dI k)] = .ok (.list ds) ∧ potOk ds = true := by
  by_cases h : (k : Int) < (ns.length : Int)
  · have h' : k < ns.length := by omega
    simp (disch := omega) only [m__law_pot, g_bin, g_ltI, decide_eq_true h, m_ok, g_tru, g_mIfT, v_sIdx h', g_aNil, g_aCons, g_bAbs, g_pow1018, g_subI, g_max2, g_bIntI, g_modI, g_mulI, g_addI, g_mkLst2]
    exact ⟨_, rfl, pot_fin (by omega) (by omega)⟩
  · simp (disch := omega) only [m__law_pot, g_bin, g_ltI, decide_eq_false h, m_ok, g_tru, g_mIfF, g_aNil, g_aCons, g_pow1018, g_subI, g_max2, g_bIntI, g_modI, g_mulI, g_addI, g_mkLst2]
    exact ⟨_, rfl, pot_fin (by omega) (by omega)⟩
theorem s_pot94 {ns : List Int} {k : Nat} (hk : k < 1000) : (m__law_pot [.s ns, .d (dI k)]).Sat fun d => ∃ ds : { ds : List PyData // potOk ds = true }, d = .list ds.1 := by
  obtain ⟨ds, e, o⟩ := s__law_pot94 (ns := ns) hk
  rw [e]
  exact ⟨⟨ds, o⟩, rfl⟩
theorem law_main (ns : List Int) : (m_law [.s ns]).Sat fun d => d = .bool true := by
  obtain ⟨m, hm, em⟩ : ∃ m : Nat, m ≤ 2 ∧ (if (if (ns.length : Int) < 2 then (ns.length : Int) else 2) > 1 then (if (ns.length : Int) < 2 then (ns.length : Int) else 2) else 1) = (m : Int) := ⟨(if (if (ns.length : Int) < 2 then (ns.length : Int) else 2) > 1 then (if (ns.length : Int) < 2 then (ns.length : Int) else 2) else 1).toNat, by split <;> split <;> omega, by split <;> split <;> omega⟩
  rw [← sa_iff]
  simp only [m_law, g_aNil, g_aCons, m_ok, g_min2, g_max2, em]
  refine sa_allK (n := m) (by omega) (fun k hk => ?_) (sa_ok.mpr rfl)
  simp only [g_vD, g_vNil, g_vCons, m_ok, g_call2]
  refine sa_stepE (s_pot94 (ns := ns) (k := k) (by omega)) fun ds => ?_
  rw [g_onL, if_pos ⟨ds.2, rfl⟩]
  exact sa_of s__law_right
end
end Ev

set_option Elab.async false
set_option linter.all false
set_option autoImplicit false
set_option maxRecDepth 100000
set_option maxHeartbeats 8000000
namespace Ev
open PySem PySem.Spec L2 LamX PyProof.Rows
def D (x : Str) (i : Nat) : He.DefD := ⟨(x, none), x, x, defArgs (top i), defBody (top i), defScope (top i), [], []⟩
def fns : List He.DefD := [D "is_integer" 1, D "is_within" 2, D "is_list" 3, D "is_tuple" 4, D "are_rising" 5, D "is_lot_of" 6, D "is_relation_of" 16, D "is_relation_value" 17, D "want_relation" 18, D "want_two" 19, D "want_as_many" 20, D "want_thing" 21, D "by_rule" 22, D "are_names_value" 24, D "want_names" 25, D "renamed_of" 26, D "renamed" 27, D "with_pair" 28, D "all_names" 32, D "namings_of" 33, D "first_of" 34, D "form_of" 35, D "are_alike" 36, D "alike_paper" 37, D "is_alike_paper" 38, D "are_forms" 39, D "_law_pot" 41, D "_law_draw" 42, D "_law_pick" 43, D "_law_mixed" 44, D "_law_relation" 45, D "_law_renamed" 46, D "_law_all_names" 47, D "_law_first" 48, D "_law_two_right" 49, D "_law_right" 50, D "law" 51]
def fas : List He.Fa := [.glo "is_integer", .glo "is_within", .glo "is_list", .glo "is_tuple", .glo "are_rising", .glo "is_lot_of", .glo "is_relation_of", .glo "is_relation_value", .glo "want_relation", .glo "want_two", .glo "want_as_many", .glo "want_thing", .glo "by_rule", .glo "are_names_value", .glo "want_names", .glo "renamed_of", .glo "renamed", .glo "with_pair", .glo "all_names", .glo "namings_of", .glo "first_of", .glo "form_of", .glo "are_alike", .glo "alike_paper", .glo "is_alike_paper", .glo "are_forms", .glo "_law_pot", .glo "_law_draw", .glo "_law_pick", .glo "_law_mixed", .glo "_law_relation", .glo "_law_renamed", .glo "_law_all_names", .glo "_law_first", .glo "_law_two_right", .glo "_law_right", .glo "law", .free "abs", .free "all", .free "bool", .free "divmod", .free "int", .free "isinstance", .free "len", .free "list", .free "max", .free "min", .free "range", .free "repr", .free "set", .free "sorted", .free "str", .free "tuple", .free "zip", .int "MOST_THINGS" 6, .str "FORMS_WORD" "forms", .str "NAMES_WORD" "names"]
def tfs : List He.Defn := [("renamed_of", none), ("with_pair", none)]
def exs (K : PySem.W.Frag) : Bool := apart tfs K
def loose : List PySem.Str := ((["is_integer", "is_within", "is_list", "is_tuple", "are_rising", "is_lot_of", "WhomError", "StateError", "InvalidRelation", "InvalidThing", "InvalidNames", "UnlikeThings", "MOST_THINGS", "is_relation_of", "is_relation_value", "want_relation", "want_two", "want_as_many", "want_thing", "by_rule", "are_names_value", "want_names", "renamed_of", "renamed", "with_pair", "NAMES_WORD", "FORMS_WORD", "all_names", "namings_of", "first_of", "form_of", "are_alike", "alike_paper", "is_alike_paper", "are_forms", "_law_pot", "_law_draw", "_law_pick", "_law_mixed", "_law_relation"] : List String).map PySem.Str.ofString) ++ ((["_law_renamed", "_law_all_names", "_law_first", "_law_two_right", "_law_right"] : List String).map PySem.Str.ofString)
abbrev Rw : PySem.W.OpenRow := PySem.W.OpenLaw.row PySem.Challenge.rw_pairsled_k94_whole_alike_papers
abbrev hk : PySem.W.Hook := He.hookX 4 fas fns [] tfs exs
def ob (s : PySem.W.SharedT) : He.AlX := He.obsX 4 fas fns [] tfs exs (HandSHeadRun.getT s)
theorem ob_eq (s : PySem.W.SharedT) : ob s = hk.obs s.abs := He.obsX_eq (HandSHeadRun.getT_eq s)
theorem run_eq (w : World) : HandSHeadRun.RunEq Rw (PySem.W.view Rw.prog [51]) hk ob 200000 loose w := by
  intro os
  kernel_rfl
theorem gok {P : Program} {w : World} {K : PySem.W.Frag} {h base : Heap} {mg : Str → Option Value} (X : K.In h) (Gm : h.Ns mainGlobals mg) (c : He.SaysD fas fns K) (ep : exs K = true) (B : ∀ q ∈ tfs.map (He.cT K), TabB base mg q.1 q.2) : GOk ⟨P, w, K, mg, base, lamT K tfs⟩ :=
  ⟨He.free_ok X Gm (c.fact 37 (f := .free "abs") rfl),
    He.free_ok X Gm (c.fact 38 (f := .free "all") rfl),
    He.free_ok X Gm (c.fact 39 (f := .free "bool") rfl),
    He.free_ok X Gm (c.fact 40 (f := .free "divmod") rfl),
    He.free_ok X Gm (c.fact 41 (f := .free "int") rfl),
    He.free_ok X Gm (c.fact 42 (f := .free "isinstance") rfl),
    He.free_ok X Gm (c.fact 43 (f := .free "len") rfl),
    He.free_ok X Gm (c.fact 44 (f := .free "list") rfl),
    He.free_ok X Gm (c.fact 45 (f := .free "max") rfl),
    He.free_ok X Gm (c.fact 46 (f := .free "min") rfl),
    He.free_ok X Gm (c.fact 47 (f := .free "range") rfl),
    He.free_ok X Gm (c.fact 48 (f := .free "repr") rfl),
    He.free_ok X Gm (c.fact 49 (f := .free "set") rfl),
    He.free_ok X Gm (c.fact 50 (f := .free "sorted") rfl),
    He.free_ok X Gm (c.fact 51 (f := .free "str") rfl),
    He.free_ok X Gm (c.fact 52 (f := .free "tuple") rfl),
    He.free_ok X Gm (c.fact 53 (f := .free "zip") rfl),
    He.str_ok X Gm (c.fact 55 (f := .str "FORMS_WORD" "forms") rfl),
    He.int_ok X Gm (c.fact 54 (f := .int "MOST_THINGS" 6) rfl),
    He.str_ok X Gm (c.fact 56 (f := .str "NAMES_WORD" "names") rfl),
    ⟨_, _, He.glo_ok X Gm (c.fact 0 (f := .glo "is_integer") rfl), (c.def_ 0 (d := D "is_integer" 1) rfl).choose_spec⟩,
    ⟨_, _, He.glo_ok X Gm (c.fact 1 (f := .glo "is_within") rfl), (c.def_ 1 (d := D "is_within" 2) rfl).choose_spec⟩,
    ⟨_, _, He.glo_ok X Gm (c.fact 2 (f := .glo "is_list") rfl), (c.def_ 2 (d := D "is_list" 3) rfl).choose_spec⟩,
    ⟨_, _, He.glo_ok X Gm (c.fact 3 (f := .glo "is_tuple") rfl), (c.def_ 3 (d := D "is_tuple" 4) rfl).choose_spec⟩,
    ⟨_, _, He.glo_ok X Gm (c.fact 4 (f := .glo "are_rising") rfl), (c.def_ 4 (d := D "are_rising" 5) rfl).choose_spec⟩,
    ⟨_, _, He.glo_ok X Gm (c.fact 5 (f := .glo "is_lot_of") rfl), (c.def_ 5 (d := D "is_lot_of" 6) rfl).choose_spec⟩,
    ⟨_, _, He.glo_ok X Gm (c.fact 6 (f := .glo "is_relation_of") rfl), (c.def_ 6 (d := D "is_relation_of" 16) rfl).choose_spec⟩,
    ⟨_, _, He.glo_ok X Gm (c.fact 7 (f := .glo "is_relation_value") rfl), (c.def_ 7 (d := D "is_relation_value" 17) rfl).choose_spec⟩,
    ⟨_, _, He.glo_ok X Gm (c.fact 8 (f := .glo "want_relation") rfl), (c.def_ 8 (d := D "want_relation" 18) rfl).choose_spec⟩,
    ⟨_, _, He.glo_ok X Gm (c.fact 10 (f := .glo "want_as_many") rfl), (c.def_ 10 (d := D "want_as_many" 20) rfl).choose_spec⟩,
    ⟨_, _, He.glo_ok X Gm (c.fact 9 (f := .glo "want_two") rfl), (c.def_ 9 (d := D "want_two" 19) rfl).choose_spec⟩,
    ⟨_, _, He.glo_ok X Gm (c.fact 11 (f := .glo "want_thing") rfl), (c.def_ 11 (d := D "want_thing" 21) rfl).choose_spec⟩,
    ⟨_, _, He.glo_ok X Gm (c.fact 12 (f := .glo "by_rule") rfl), (c.def_ 12 (d := D "by_rule" 22) rfl).choose_spec⟩,
    ⟨_, _, He.glo_ok X Gm (c.fact 13 (f := .glo "are_names_value") rfl), (c.def_ 13 (d := D "are_names_value" 24) rfl).choose_spec⟩,
    ⟨_, _, He.glo_ok X Gm (c.fact 14 (f := .glo "want_names") rfl), (c.def_ 14 (d := D "want_names" 25) rfl).choose_spec⟩,
    ⟨_, _, He.glo_ok X Gm (c.fact 15 (f := .glo "renamed_of") rfl), (c.def_ 15 (d := D "renamed_of" 26) rfl).choose_spec, maker_facts (p := ("renamed_of", none)) (by decide) ep (c.def_ 15 (d := D "renamed_of" 26) rfl).choose_spec B⟩,
    ⟨_, _, He.glo_ok X Gm (c.fact 16 (f := .glo "renamed") rfl), (c.def_ 16 (d := D "renamed" 27) rfl).choose_spec⟩,
    ⟨_, _, He.glo_ok X Gm (c.fact 17 (f := .glo "with_pair") rfl), (c.def_ 17 (d := D "with_pair" 28) rfl).choose_spec, maker_facts (p := ("with_pair", none)) (by decide) ep (c.def_ 17 (d := D "with_pair" 28) rfl).choose_spec B⟩,
    ⟨_, _, He.glo_ok X Gm (c.fact 18 (f := .glo "all_names") rfl), (c.def_ 18 (d := D "all_names" 32) rfl).choose_spec⟩,
    ⟨_, _, He.glo_ok X Gm (c.fact 19 (f := .glo "namings_of") rfl), (c.def_ 19 (d := D "namings_of" 33) rfl).choose_spec⟩,
    ⟨_, _, He.glo_ok X Gm (c.fact 20 (f := .glo "first_of") rfl), (c.def_ 20 (d := D "first_of" 34) rfl).choose_spec⟩,
    ⟨_, _, He.glo_ok X Gm (c.fact 21 (f := .glo "form_of") rfl), (c.def_ 21 (d := D "form_of" 35) rfl).choose_spec⟩,
    ⟨_, _, He.glo_ok X Gm (c.fact 22 (f := .glo "are_alike") rfl), (c.def_ 22 (d := D "are_alike" 36) rfl).choose_spec⟩,
    ⟨_, _, He.glo_ok X Gm (c.fact 23 (f := .glo "alike_paper") rfl), (c.def_ 23 (d := D "alike_paper" 37) rfl).choose_spec⟩,
    ⟨_, _, He.glo_ok X Gm (c.fact 25 (f := .glo "are_forms") rfl), (c.def_ 25 (d := D "are_forms" 39) rfl).choose_spec⟩,
    ⟨_, _, He.glo_ok X Gm (c.fact 24 (f := .glo "is_alike_paper") rfl), (c.def_ 24 (d := D "is_alike_paper" 38) rfl).choose_spec⟩,
    ⟨_, _, He.glo_ok X Gm (c.fact 26 (f := .glo "_law_pot") rfl), (c.def_ 26 (d := D "_law_pot" 41) rfl).choose_spec⟩,
    ⟨_, _, He.glo_ok X Gm (c.fact 27 (f := .glo "_law_draw") rfl), (c.def_ 27 (d := D "_law_draw" 42) rfl).choose_spec⟩,
    ⟨_, _, He.glo_ok X Gm (c.fact 28 (f := .glo "_law_pick") rfl), (c.def_ 28 (d := D "_law_pick" 43) rfl).choose_spec⟩,
    ⟨_, _, He.glo_ok X Gm (c.fact 29 (f := .glo "_law_mixed") rfl), (c.def_ 29 (d := D "_law_mixed" 44) rfl).choose_spec⟩,
    ⟨_, _, He.glo_ok X Gm (c.fact 30 (f := .glo "_law_relation") rfl), (c.def_ 30 (d := D "_law_relation" 45) rfl).choose_spec⟩,
    ⟨_, _, He.glo_ok X Gm (c.fact 31 (f := .glo "_law_renamed") rfl), (c.def_ 31 (d := D "_law_renamed" 46) rfl).choose_spec⟩,
    ⟨_, _, He.glo_ok X Gm (c.fact 32 (f := .glo "_law_all_names") rfl), (c.def_ 32 (d := D "_law_all_names" 47) rfl).choose_spec⟩,
    ⟨_, _, He.glo_ok X Gm (c.fact 33 (f := .glo "_law_first") rfl), (c.def_ 33 (d := D "_law_first" 48) rfl).choose_spec⟩,
    ⟨_, _, He.glo_ok X Gm (c.fact 34 (f := .glo "_law_two_right") rfl), (c.def_ 34 (d := D "_law_two_right" 49) rfl).choose_spec⟩,
    ⟨_, _, He.glo_ok X Gm (c.fact 35 (f := .glo "_law_right") rfl), (c.def_ 35 (d := D "_law_right" 50) rfl).choose_spec⟩,
    ⟨_, _, He.glo_ok X Gm (c.fact 36 (f := .glo "law") rfl), (c.def_ 36 (d := D "law" 51) rfl).choose_spec⟩⟩
theorem law_math : ∀ ns : List Int, ns.length ≤ 63 → (∀ z ∈ ns, Builtin.Int.intBits z ≤ 1048576) → (m_law [.s ns]).Sat fun d => d = .bool true := fun ns _ _ => law_main ns
end Ev
open PySem PySem.W PySem.Calls PyProof.Rows
theorem PySem.Challenge.cw_pairsled_k94_whole_alike_papers_holds : PySem.Challenge.rw_pairsled_k94_whole_alike_papers.Holds := by
  w_on; o_law
  refine HandSHeadRun.head_any (r := OpenLaw.row PySem.Challenge.rw_pairsled_k94_whole_alike_papers) (q := view (OpenLaw.row PySem.Challenge.rw_pairsled_k94_whole_alike_papers).prog [51]) (H := Ev.hk) (ob := Ev.ob) (M := 200000) (loose := Ev.loose) (d := HandSHeadRun.topDef (OpenLaw.row PySem.Challenge.rw_pairsled_k94_whole_alike_papers).prog 51) (kwd := []) Ev.ob_eq
    (by kernel_rfl) (fun s => by kernel_rfl) Ev.run_eq (by kernel_rfl) (by kernel_rfl) (by kernel_rfl) (by rfl) (by first | assumption | decide +kernel) (by decide +kernel) ⟨rfl, rfl, rfl, rfl, rfl, by decide +kernel⟩ ?hw ?hc
  case hw => w_witness2
  case hc =>
    refine Ev.walk_ofG (l := PySem.Challenge.rw_pairsled_k94_whole_alike_papers) (n := 63) (k := 14) (x := "script") rfl (by decide) (by kernel_rfl) ⟨rfl, by decide, by decide⟩ ?F
    intro w mg fa h Y Gm m0
    obtain ⟨K, KX, c⟩ := Y
    have e : (HandSHeadRun.topDef (OpenLaw.row PySem.Challenge.rw_pairsled_k94_whole_alike_papers).prog 51).name = ("law" : PySem.Str) := by kernel_rfl
    rw [e] at m0
    have e2 := m0.symm.trans (He.glo_ok KX Gm (c.t.d.fact 36 (f := .glo "law") rfl))
    cases e2
    obtain ⟨fd, F⟩ := c.t.d.def_ 36 (d := Ev.D "law" 51) rfl
    exact ⟨K, KX, Ev.law_at (st := Ev.top 51) c KX m0 F (fun _ _ _ _ _ _ us hl => match us, hl with | [_], _ => rfl) (fun base B => Ev.ok_law (Ev.gok KX Gm c.t.d c.more B)) Ev.law_math⟩


