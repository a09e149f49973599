import PyProof.Rows.All
import Wide.All
import OpenK.AllK
import Wide.FinOn
import KE.KStateDown
import HandS.ForMost
import HandS.ForExc
import HandS.TryMany
import HandS.IsInst
import HandS.ExcIs
import HandS.Strs
import HandS.SetFor
import HandS.TupAny
import HandS.TupMul
import HandS.SortInts
import HandS.Flow
import HandS.Style
import HandS.FStr
import HandS.Conv
import HandS.Deep
import HandS.TupSets
import HandS.StrMore
import HandS.ExcInit
import HandS.ExcSuper
import HandS.OwnEq
import HandS.RaiseMore
import HandS.Codes
import HandS.More
import HandS.Defaults
import HandS.Head0
import HandS.Head1
import HandS.Head2
import HandS.HeadEnd
import HandS.HeadHook1
import HandS.HeadHook2
import HandS.HeadHook4
import KE.GoesMore
import HandS.Zip
import KE.KTupSum
import KE.DataMinMax
import KE.KIndexOf
import PySem.Challenge.RW_clocksums_k17_first_exception
set_option Elab.async false
set_option linter.all false
set_option maxRecDepth 100000
set_option maxHeartbeats 40000000
set_option maxRecDepth 100000
set_option maxHeartbeats 4000000
/-! The layer over the layer: data in slots, expressions that evaluate to data. -/
namespace CS
open PySem PySem.Spec PyProof.Rows L2
abbrev St := L2.St

abbrev Gm := List (Option PyData)
abbrev iL (ns : List Int) : List PyData := ns.map .int
abbrev pT (ns : List Int) : PyData := .tuple (iL ns)
abbrev pL (ns : List Int) : PyData := .list (iL ns)

/-! ### heaps that grow -/
def Ex (H H' : Hp) : Prop := ∀ a o, H a = some o → H' a = some o
theorem Ex.refl {H : Hp} : Ex H H := fun _ _ h => h
theorem Ex.trans {H H1 H2 : Hp} (a : Ex H H1) (b : Ex H1 H2) : Ex H H2 := fun x o h => b x o (a x o h)
theorem Ex.new {H : Hp} {p : Addr} {o : HO} (h : H p = none) : Ex H (upd H p o) := fun a u e => by
  rw [upd_ne (ne_of_none e h)]
  exact e
theorem Ex.mut {H H' : Hp} {p : Addr} {o : HO} (e : Ex H H') (h : H p = none) : Ex H (upd H' p o) := fun a u ha => by
  rw [upd_ne (ne_of_none ha h)]
  exact e a u ha
theorem Ex.back {H H' : Hp} {p : Addr} (e : Ex H H') (h : H' p = none) : H p = none := by
  cases h1 : H p with
  | none => rfl
  | some o => rw [e p o h1] at h; cases h
theorem rd_ex {H H' : Hp} {a : Addr} {u : HO} (e : Ex H H') (h : Rd H a u) : Rd H' a u := by
  rcases h with h | ⟨o, h⟩
  · exact Or.inl (e a _ h)
  · exact Or.inr ⟨o, e a _ h⟩
/-! ### data in a heap: tuples as they are made, with no dict -/
def PlT (H : Hp) (a : Addr) (xs : List V) : Prop := ∃ o : Obj, o.dict = none ∧ H a = some (.frz o (.tup xs))
theorem PlT.of {H : Hp} {p : Addr} {o : Obj} {xs : List V} (hd : o.dict = none) : PlT (upd H p (.frz o (.tup xs))) p xs := ⟨o, hd, upd_same⟩
theorem PlT.st {K : PySem.W.Frag} {H : Hp} {a : Addr} {xs : List V} (h : PlT H a xs) : SqT K H a xs := let ⟨o, _, e⟩ := h; .inl (.inr ⟨o, e⟩)
theorem PlT.ex {H H' : Hp} {a : Addr} {xs : List V} (h : PlT H a xs) (e : Ex H H') : PlT H' a xs := let ⟨o, hd, q⟩ := h; ⟨o, hd, e _ _ q⟩
mutual
inductive Dp (K : PySem.W.Frag) (H : Hp) : (v : V) → (d : PyData) → Prop
  | non : Dp K H V.non PyData.none
  | bl : (b : Bool) → Dp K H (V.bl b) (PyData.bool b)
  | int : (i : Int) → Dp K H (V.int i) (PyData.int i)
  | str : (x : Str) → Dp K H (V.str x) (PyData.str x)
  | lst {p : Addr} {us : List V} {es : List PyData} (h : SqL K H p us) (t : DpAll K H us es) : Dp K H (V.ref p) (PyData.list es)
  | tup {p : Addr} {us : List V} {es : List PyData} (h : PlT H p us) (t : DpAll K H us es) : Dp K H (V.ref p) (PyData.tuple es)
inductive DpAll (K : PySem.W.Frag) (H : Hp) : (vs : List V) → (ds : List PyData) → Prop
  | nil : DpAll K H ([] : List V) ([] : List PyData)
  | cons {u : V} {us : List V} {e : PyData} {es : List PyData} (h : Dp K H u e) (t : DpAll K H us es) : DpAll K H (u :: us) (e :: es)
end
mutual
theorem Dp.l {K : PySem.W.Frag} {H : Hp} : ∀ {v : V} {d : PyData}, Dp K H v d → L2.Dp K H v d
  | _, _, .non => .non
  | _, _, .bl b => .bl b
  | _, _, .int i => .int i
  | _, _, .str x => .str x
  | _, _, .lst h t => .lst h (DpAll.l t)
  | _, _, .tup h t => .tup h.st (DpAll.l t)
theorem DpAll.l {K : PySem.W.Frag} {H : Hp} : ∀ {vs : List V} {ds : List PyData}, DpAll K H vs ds → L2.DpAll K H vs ds
  | _, _, .nil => .nil
  | _, _, .cons h t => .cons (Dp.l h) (DpAll.l t)
end
section
variable {K : PySem.W.Frag} {H H' : Hp}
theorem sl_ex {a : Addr} {xs : List V} (e : Ex H H') (h : SqL K H a xs) : SqL K H' a xs := by
  rcases h with h | h
  · exact Or.inl (rd_ex e h)
  · exact Or.inr h
theorem st_ex {a : Addr} {xs : List V} (e : Ex H H') (h : SqT K H a xs) : SqT K H' a xs := by
  rcases h with h | h
  · exact Or.inl (rd_ex e h)
  · exact Or.inr h
mutual
theorem dp_ex (e : Ex H H') : ∀ {v : V} {d : PyData}, Dp K H v d → Dp K H' v d
  | _, _, .non => .non
  | _, _, .bl b => .bl b
  | _, _, .int i => .int i
  | _, _, .str x => .str x
  | _, _, .lst h a => .lst (sl_ex e h) (dpa_ex e a)
  | _, _, .tup h a => .tup (h.ex e) (dpa_ex e a)
theorem dpa_ex (e : Ex H H') : ∀ {vs : List V} {ds : List PyData}, DpAll K H vs ds → DpAll K H' vs ds
  | _, _, .nil => .nil
  | _, _, .cons h a => .cons (dp_ex e h) (dpa_ex e a)
end
theorem dp_int_inv {v : V} {i : Int} (h : Dp K H v (.int i)) : v = .int i := by cases h; rfl
theorem dp_bool_inv {v : V} {b : Bool} (h : Dp K H v (.bool b)) : v = .bl b := by cases h; rfl
theorem dp_str_inv {v : V} {x : Str} (h : Dp K H v (.str x)) : v = .str x := by cases h; rfl
theorem dp_none_inv {v : V} (h : Dp K H v .none) : v = .non := by cases h; rfl
theorem dp_list_inv {v : V} {ds : List PyData} (h : Dp K H v (.list ds)) : ∃ a xs, v = .ref a ∧ SqL K H a xs ∧ DpAll K H xs ds := by
  cases h with
  | lst h a => exact ⟨_, _, rfl, h, a⟩
theorem dp_tup_inv {v : V} {ds : List PyData} (h : Dp K H v (.tuple ds)) : ∃ a xs, v = .ref a ∧ SqT K H a xs ∧ DpAll K H xs ds := by
  cases h with
  | tup h a => exact ⟨_, _, rfl, h.st, a⟩
theorem dpa_ints : ∀ {ns : List Int} {xs : List V}, DpAll K H xs (iL ns) → xs = ns.map V.int
  | [], _, h => by cases h; rfl
  | n :: ns, _, h => by
    cases h with
    | cons h1 h2 => rw [dp_int_inv h1, dpa_ints h2]; rfl
theorem dpa_of_ints : ∀ (ns : List Int), DpAll K H (ns.map V.int) (iL ns)
  | [] => .nil
  | n :: ns => .cons (.int n) (dpa_of_ints ns)
theorem dp_pL_inv {v : V} {ns : List Int} (h : Dp K H v (pL ns)) : ∃ a, v = .ref a ∧ SqL K H a (ns.map V.int) := by
  obtain ⟨a, xs, e, h1, h2⟩ := dp_list_inv h
  rw [dpa_ints h2] at h1
  exact ⟨a, e, h1⟩
theorem dp_pT_inv {v : V} {ns : List Int} (h : Dp K H v (pT ns)) : ∃ a, v = .ref a ∧ SqT K H a (ns.map V.int) := by
  obtain ⟨a, xs, e, h1, h2⟩ := dp_tup_inv h
  rw [dpa_ints h2] at h1
  exact ⟨a, e, h1⟩
theorem dpa_len : ∀ {vs : List V} {ds : List PyData}, DpAll K H vs ds → vs.length = ds.length
  | _, _, .nil => rfl
  | _, _, .cons _ a => congrArg (· + 1) (dpa_len a)
theorem dpa_get : ∀ {vs : List V} {ds : List PyData} {i : Nat} {d : PyData}, DpAll K H vs ds → ds[i]? = some d → ∃ v, vs[i]? = some v ∧ Dp K H v d
  | _, _, _, _, .nil, e => by simp at e
  | _, _, 0, _, .cons r _, e => by
    have e' := Option.some.inj e
    subst e'
    exact ⟨_, rfl, r⟩
  | _, _, i + 1, _, .cons _ t, e => dpa_get (i := i) t e
theorem dpa_app : ∀ {vs ws : List V} {ds es : List PyData}, DpAll K H vs ds → DpAll K H ws es → DpAll K H (vs ++ ws) (ds ++ es)
  | _, _, _, _, .nil, s => s
  | _, _, _, _, .cons r t, s => .cons r (dpa_app t s)
theorem dpa_take : ∀ {vs : List V} {ds : List PyData} (n : Nat), DpAll K H vs ds → DpAll K H (vs.take n) (ds.take n)
  | _, _, 0, _ => .nil
  | _, _, _ + 1, .nil => .nil
  | _, _, n + 1, .cons r t => .cons r (dpa_take n t)
theorem dpa_drop : ∀ {vs : List V} {ds : List PyData} (n : Nat), DpAll K H vs ds → DpAll K H (vs.drop n) (ds.drop n)
  | _, _, 0, r => r
  | _, _, _ + 1, .nil => .nil
  | _, _, n + 1, .cons _ t => dpa_drop n t
end

/-! ### a world: the whole heap h, and the part s of it that data may speak of (the rest is hidden: what a loop owns and changes) -/
structure Wd where
  s : Hp
  h : Hp
  sub : Ex s h
structure Wx (W W' : Wd) : Prop where
  s : Ex W.s W'.s
  h : Ex W.h W'.h
  av : ∀ a o, W.h a = some o → W.s a = none → W'.s a = none
theorem Wx.refl {W : Wd} : Wx W W := ⟨Ex.refl, Ex.refl, fun _ _ _ h => h⟩
theorem Wx.trans {W W1 W2 : Wd} (a : Wx W W1) (b : Wx W1 W2) : Wx W W2 := ⟨a.s.trans b.s, a.h.trans b.h, fun x o h n => b.av x o (a.h x o h) (a.av x o h n)⟩
theorem Wd.free {W : Wd} {p : Addr} (h : W.h p = none) : W.s p = none := W.sub.back h
/-- a new object that all may see -/
def Wd.new (W : Wd) (p : Addr) (o : HO) : Wd := ⟨upd W.s p o, upd W.h p o, fun a u e => by
  by_cases q : a = p
  · subst q
    rw [upd_same] at e ⊢
    exact e
  · rw [upd_ne q] at e ⊢
    exact W.sub a u e⟩
theorem Wx.new {W : Wd} {p : Addr} {o : HO} (h : W.h p = none) : Wx W (W.new p o) := ⟨Ex.new (W.free h), Ex.new h, fun a u e n => by
  show upd W.s p o a = none
  rw [upd_ne (ne_of_none e h)]
  exact n⟩
/-- all of the heap may be seen -/
def Wd.all (H : Hp) : Wd := ⟨H, H, Ex.refl⟩
theorem Wd.dp {K : PySem.W.Frag} {v : V} {d : PyData} (W : Wd) (h : Dp K W.s v d) : Dp K W.h v d := dp_ex W.sub h
theorem Wd.dpa {K : PySem.W.Frag} {vs : List V} {ds : List PyData} (W : Wd) (h : DpAll K W.s vs ds) : DpAll K W.h vs ds := dpa_ex W.sub h
theorem Wd.sl {K : PySem.W.Frag} {a : Addr} {xs : List V} (W : Wd) (h : SqL K W.s a xs) : SqL K W.h a xs := sl_ex W.sub h
theorem Wd.st {K : PySem.W.Frag} {a : Addr} {xs : List V} (W : Wd) (h : SqT K W.s a xs) : SqT K W.h a xs := st_ex W.sub h

/-! ### slots that hold data -/
structure SlOk (K : PySem.W.Frag) (H : Hp) (σ : St) (Γ : Gm) : Prop where
  len : σ.length = Γ.length
  at_ : ∀ (i : Nat) (d : PyData), Γ[i]? = some (some d) → ∃ v, σ[i]? = some (some v) ∧ Dp K H v d
section
variable {K : PySem.W.Frag} {H H' : Hp} {σ : St} {Γ : Gm}
theorem SlOk.ex (h : SlOk K H σ Γ) (e : Ex H H') : SlOk K H' σ Γ := ⟨h.len, fun i d g => let ⟨v, a, b⟩ := h.at_ i d g; ⟨v, a, dp_ex e b⟩⟩
theorem SlOk.set {v : V} {d : PyData} (h : SlOk K H σ Γ) (i : Nat) (hd : Dp K H v d) : SlOk K H (σ.set i (some v)) (Γ.set i (some d)) := by
  refine ⟨by rw [List.length_set, List.length_set, h.len], fun j d' g => ?_⟩
  by_cases hj : i = j
  · subst hj
    by_cases hl : i < Γ.length
    · rw [List.getElem?_set_self hl] at g
      cases g
      exact ⟨v, List.getElem?_set_self (by rw [h.len]; exact hl), hd⟩
    · rw [List.getElem?_eq_none (by rw [List.length_set]; omega)] at g
      cases g
  · rw [List.getElem?_set_ne hj] at g
    rw [List.getElem?_set_ne hj]
    exact h.at_ j d' g
/-- forgetting -/
theorem SlOk.weak {Γ' : Gm} (h : SlOk K H σ Γ) (hl : Γ'.length = Γ.length) (hw : ∀ (i : Nat) d, Γ'[i]? = some (some d) → Γ[i]? = some (some d)) : SlOk K H σ Γ' :=
  ⟨by rw [h.len, hl], fun i d g => h.at_ i d (hw i d g)⟩
theorem SlOk.forget (h : SlOk K H σ Γ) (i : Nat) : SlOk K H σ (Γ.set i none) := by
  refine h.weak (by rw [List.length_set]) fun j d g => ?_
  by_cases hj : i = j
  · subst hj
    by_cases hl : i < Γ.length
    · rw [List.getElem?_set_self hl] at g
      cases g
    · rw [List.getElem?_eq_none (by rw [List.length_set]; omega)] at g
      cases g
  · rw [List.getElem?_set_ne hj] at g
    exact g
/-- a slot set to anything -/
theorem SlOk.setAny {v : Option V} (h : SlOk K H σ Γ) (i : Nat) : SlOk K H (σ.set i v) (Γ.set i none) := by
  refine ⟨by rw [List.length_set, List.length_set, h.len], fun j d' g => ?_⟩
  by_cases hj : i = j
  · subst hj
    by_cases hl : i < Γ.length
    · rw [List.getElem?_set_self hl] at g
      cases g
    · rw [List.getElem?_eq_none (by rw [List.length_set]; omega)] at g
      cases g
  · rw [List.getElem?_set_ne hj] at g
    rw [List.getElem?_set_ne hj]
    exact h.at_ j d' g
/-- the slots at a def's start -/
theorem SlOk.start {N : List Str} {vs : List V} {ds : List PyData} (h : DpAll K H vs ds) (hl : ds.length ≤ N.length) :
    SlOk K H (start N vs) (ds.map some ++ List.replicate (N.length - ds.length) none) := by
  have e := dpa_len h
  refine ⟨by unfold L2.start; simp [e], fun i d g => ?_⟩
  unfold L2.start
  by_cases hi : i < ds.length
  · rw [List.getElem?_append_left (by simpa using hi)] at g
    rw [List.getElem?_append_left (by rw [List.length_map, e]; exact hi)]
    rw [List.getElem?_map] at g ⊢
    cases q : ds[i]? with
    | none => rw [q] at g; cases g
    | some d' =>
      rw [q] at g
      have e2 : d' = d := by simpa using g
      subst e2
      obtain ⟨v, h1, h2⟩ := dpa_get h q
      exact ⟨v, by rw [h1]; rfl, h2⟩
  · rw [List.getElem?_append_right (by simpa using hi)] at g
    rw [List.getElem?_replicate] at g
    split at g <;> cases g
end

/-! ### canonical readings -/
def wE (X : Cx) (e : Expr) : TE := fun σ H Q => ∀ (pins : List (Addr × Obj)) (s : Shared), Inv X pins σ H s → wpAny (model X.prog X.w) X.A (eval e X.env) (EP X pins σ Q) X.xe s
def wT (X : Cx) (e : Expr) : TT := fun σ H Q => ∀ (pins : List (Addr × Obj)) (s : Shared), Inv X pins σ H s → wpAny (model X.prog X.w) X.A (isTrue e X.env (eval e X.env)) (TP X pins σ Q) X.xe s
def wW (X : Cx) (e : Expr) : TT := fun σ H Q => ∀ (whole : Sem Value) (pins : List (Addr × Obj)) (s : Shared), Inv X pins σ H s → wpAny (model X.prog X.w) X.A (isTrue e X.env whole) (TP X pins σ Q) X.xe s
def wA (X : Cx) (es : List Expr) : TA := fun σ H Q => ∀ (pos : Pos) (pins : List (Addr × Obj)) (s : Shared), Inv X pins σ H s → wpAny (model X.prog X.w) X.A (spliced (backTo pos (starEach es X.env))) (AP X pins σ Q) X.xe s
def wS (X : Cx) (st : Stmt) : TS := fun D σ H => ∀ (pins : List (Addr × Obj)) (s : Shared), Inv X pins σ H s → wpAny (model X.prog X.w) X.A (exec st X.env) (SP X pins D) X.xe s
def wSs (X : Cx) (st : List Stmt) : TS := fun D σ H => ∀ (pins : List (Addr × Obj)) (s : Shared), Inv X pins σ H s → wpAny (model X.prog X.w) X.A (execs st X.env) (SP X pins D) X.xe s
section
variable {X : Cx} {e : Expr} {es : List Expr} {st : Stmt} {sts : List Stmt} {σ : St} {H : Hp}
theorem pe_w : PE X e (wE X e) := ⟨fun pins s _ _ _ I h => h pins s I⟩
theorem pt_w : PT X e (wT X e) := ⟨fun pins s _ _ _ I h => h pins s I⟩
theorem pw_w : PW X e (wW X e) := ⟨fun wh pins s _ _ _ I h => h wh pins s I⟩
theorem pa_w : PA X es (wA X es) := ⟨fun pos pins s _ _ _ I h => h pos pins s I⟩
theorem ps_w : PS X st (wS X st) := ⟨fun pins s _ _ _ I h => h pins s I⟩
theorem pss_w : PSs X sts (wSs X sts) := ⟨fun pins s _ _ _ I h => h pins s I⟩
theorem wE_of {te : TE} {Q : VK} (h : PE X e te) (q : te σ H Q) : wE X e σ H Q := fun pins s I => h.run pins s σ H Q I q
theorem wT_of {tt : TT} {Q : Bool → Hp → Prop} (h : PT X e tt) (q : tt σ H Q) : wT X e σ H Q := fun pins s I => h.run pins s σ H Q I q
theorem wW_of {tt : TT} {Q : Bool → Hp → Prop} (h : PW X e tt) (q : tt σ H Q) : wW X e σ H Q := fun wh pins s I => h.run wh pins s σ H Q I q
theorem wA_of {ta : TA} {Q : List V → Hp → Prop} (h : PA X es ta) (q : ta σ H Q) : wA X es σ H Q := fun pos pins s I => h.run pos pins s σ H Q I q
theorem wS_of {ts : TS} {D : Ends} (h : PS X st ts) (q : ts D σ H) : wS X st D σ H := fun pins s I => h.run pins s σ H D I q
theorem wSs_of {ts : TS} {D : Ends} (h : PSs X sts ts) (q : ts D σ H) : wSs X sts D σ H := fun pins s I => h.run pins s σ H D I q
theorem wT_of_wW {Q : Bool → Hp → Prop} (q : wW X e σ H Q) : wT X e σ H Q := fun pins s I => q _ pins s I
end

/-! ### the config of a block of code -/
structure Gb where
  prog : Program
  w : World
  K : PySem.W.Frag
  mg : Str → Option Value
  base : Heap
structure Cfg extends Gb where
  N : List Str
  sc : Scope
  k : Nat
structure Cf (c : Cfg) (X : Cx) : Prop where
  prog : X.prog = c.prog
  w : X.w = c.w
  K : X.K = c.K
  mg : X.mg = c.mg
  base : X.base = c.base
  N : X.N = c.N
  sc : X.env.scope = c.sc
  calm : X.calm = true
  room : Room c.k X.A
  nd : X.N.Nodup
def Ev (c : Cfg) (Γ : Gm) (e : Expr) (d : PyData) : Prop :=
  ∀ X, Cf c X → ∀ (σ : St) (W : Wd) (Q : VK), SlOk X.K W.s σ Γ → (∀ v W', Wx W W' → Dp X.K W'.s v d → Q v W'.h) → wE X e σ W.h Q
def EvT (c : Cfg) (Γ : Gm) (e : Expr) (b : Bool) : Prop :=
  ∀ X, Cf c X → ∀ (σ : St) (W : Wd) (Q : Bool → Hp → Prop), SlOk X.K W.s σ Γ → (∀ W', Wx W W' → Q b W'.h) → wT X e σ W.h Q
def EvW (c : Cfg) (Γ : Gm) (e : Expr) (b : Bool) : Prop :=
  ∀ X, Cf c X → ∀ (σ : St) (W : Wd) (Q : Bool → Hp → Prop), SlOk X.K W.s σ Γ → (∀ W', Wx W W' → Q b W'.h) → wW X e σ W.h Q
def EvA (c : Cfg) (Γ : Gm) (es : List Expr) (ds : List PyData) : Prop :=
  ∀ X, Cf c X → ∀ (σ : St) (W : Wd) (Q : List V → Hp → Prop), SlOk X.K W.s σ Γ → (∀ vs W', Wx W W' → DpAll X.K W'.s vs ds → Q vs W'.h) → wA X es σ W.h Q
section
variable {c : Cfg} {Γ : Gm} {e a b : Expr} {d da db : PyData} {es : List Expr} {ds : List PyData} {pos p p2 : Pos}
theorem Ev.cast (h : Ev c Γ e d) {d' : PyData} (q : d = d') : Ev c Γ e d' := q ▸ h
theorem EvT.cast {b b' : Bool} (h : EvT c Γ e b) (q : b = b') : EvT c Γ e b' := q ▸ h
theorem EvW.t {b : Bool} (h : EvW c Γ e b) : EvT c Γ e b := fun X cf σ W Q s q => wT_of_wW (h X cf σ W Q s q)
theorem ev_int {i : Int} {j : Nat} : Ev c Γ (.Constant (.int i) j pos) (.int i) := fun X cf σ W Q s q => wE_of pe_int (q _ W Wx.refl (.int i))
theorem ev_bool {i : Bool} {j : Nat} : Ev c Γ (.Constant (.bool i) j pos) (.bool i) := fun X cf σ W Q s q => wE_of pe_bl (q _ W Wx.refl (.bl i))
theorem ev_none {j : Nat} : Ev c Γ (.Constant .none j pos) .none := fun X cf σ W Q s q => wE_of pe_non (q _ W Wx.refl .non)
theorem ev_str {x : Str} {j : Nat} : Ev c Γ (.Constant (.str x) j pos) (.str x) := fun X cf σ W Q s q => wE_of pe_str (q _ W Wx.refl (.str x))
/-- is the name the block's own -/
def visB (sc : Scope) (x : Str) : Bool := match sc.names.lookup x with
  | some .local => true
  | some .cell => true
  | some .free => true
  | _ => false
theorem vis_of {sc : Scope} {x : Str} (h : visB sc x = true) : Vis sc x := by
  unfold visB at h
  unfold Vis
  cases q : sc.names.lookup x with
  | none => rw [q] at h; cases h
  | some k => rw [q] at h; cases k <;> first | (simp; done) | cases h
def locB (sc : Scope) (x : Str) : Bool := match sc.names.lookup x with
  | some .local => true
  | some .cell => true
  | _ => false
theorem loc_of {sc : Scope} {x : Str} (h : locB sc x = true) : L2.Loc sc x := by
  unfold locB at h
  unfold L2.Loc
  cases q : sc.names.lookup x with
  | none => rw [q] at h; cases h
  | some k => rw [q] at h; cases k <;> first | (simp; done) | cases h
def glB (sc : Scope) (x : Str) : Bool := match sc.names.lookup x with
  | some .globalImplicit => true
  | _ => false
theorem gl_of {X : Cx} (cf : Cf c X) {x : Str} (h : glB c.sc x = true) : Gl X x := by
  unfold glB at h
  unfold Gl Env.kindOf
  rw [cf.sc]
  cases q : c.sc.names.lookup x with
  | none => rw [q] at h; cases h
  | some k => rw [q] at h; cases k <;> first | rfl | cases h
theorem ev_name {x : Str} (i : Nat) (hN : c.N[i]? = some x) (hG : Γ[i]? = some (some d)) (hv : visB c.sc x = true)
    (hd : (x == ("__debug__" : Str)) = false := by decide) (hcd : (x == ("__classdict__" : Str)) = false := by decide) : Ev c Γ (.Name x pos) d := fun X cf σ W Q s q => by
  obtain ⟨v, h1, h2⟩ := s.at_ i d hG
  exact wE_of (pe_var (i := i) (by rw [cf.N]; exact hN) (by rw [cf.sc]; exact vis_of hv) hd hcd) ⟨v, h1, q v W Wx.refl h2⟩
end
end CS

set_option maxRecDepth 100000
set_option maxHeartbeats 4000000
/-! Tuples are made frozen, with no dict. -/
namespace CS
open PySem PySem.Spec PyProof.Rows L2
abbrev St' := L2.St
/-- the new tuple of us, as the model lays it -/
abbrev nT (us : List Value) : Obj := { cls := .type "tuple", data := .seq us.toArray }
theorem objF {P : Program} {w : World} {H : Hp} {h : Heap} {a : Addr} {xs : List V} {us : List Value} (hg : h.get? a = some (nT us)) (hz : xs.length ≤ sizeLine) (r : Vals xs us) : ObjOk P w H h a (.frz (nT us) (.tup xs)) :=
  ⟨hg, hz, us, r, ⟨_, hg, rfl, _, rfl⟩⟩
section
variable {X : Cx}
def tTupF (t : TA) : TE := fun σ H Q => t σ H fun xs G => xs.length ≤ sizeLine ∧ ∀ p o, G p = none → o.dict = none → Q (.ref p) (upd G p (.frz o (.tup xs)))
theorem pe_tupF {es : List Expr} {t : TA} {pos : Pos} {k : Nat} (h : PA X es t) : PE X (.Tuple es k pos) (tTupF t) :=
  ⟨fun pins s σ H Q I hq => wpAny_Tuple_spliced (thn (h.run pos pins s σ H _ I hq) fun us t ⟨xs, G, J, r, z, q⟩ =>
    ⟨by rw [← r.length]; exact z, .ref _, _, J.laid (t' := t.toks) (o := .frz (nT us) (.tup xs)) (fun b u e => Heap.get?_push_of_some _ e) (Nat.le_refl _) (objF (Heap.get?_push_size _ rfl) z r), rfl, q _ _ (J.hok.fresh (Nat.le_refl _)) rfl⟩)⟩
/-- t + u -/
def rCatF (K : PySem.W.Frag) : R2 := fun x y H Q => ∃ a b xs ys, x = .ref a ∧ y = .ref b ∧ SqT K H a xs ∧ SqT K H b ys ∧ xs.length + ys.length ≤ sizeLine ∧
  (xs = [] → Q (.ref b) H) ∧ (xs ≠ [] → ys = [] → Q (.ref a) H) ∧ (xs ≠ [] → ys ≠ [] → ∀ p o, H p = none → o.dict = none → Q (.ref p) (upd H p (.frz o (.tup (xs ++ ys)))))
theorem op_catF : OpR X (binaryOp .Add) (rCatF X.K) := by
  intro pins s σ H x y v u Q I rx ry h
  obtain ⟨a, b, xs, ys, rfl, rfl, ha, hb, hz, q0, q1, q2⟩ := h
  cases rx
  cases ry
  obtain ⟨its, r1, p1, _⟩ := I.tuple ha
  obtain ⟨its2, r2, p2, _⟩ := I.tuple hb
  by_cases hx : xs = []
  · subst hx
    cases r1
    exact cat_tup0 p1 p2 ⟨.ref b, H, I, rfl, q0 rfl⟩
  · refine HT.cat_tup p1 p2 (fun z => hx (r1.nil_iff.mp z)) (fun z => ⟨.ref a, H, I, rfl, q1 hx (r2.nil_iff.mp z)⟩) (fun z => ?_) (by rw [← r1.length, ← r2.length]; exact hz)
    exact ⟨.ref _, _, I.laid (t' := s.toks) (o := .frz (nT (its ++ its2)) (.tup (xs ++ ys))) (fun b ob q => Heap.get?_push_of_some _ q) (Nat.le_refl _) (objF (Heap.get?_push_size _ rfl) (by rw [List.length_append]; exact hz) (r1.append r2)), rfl, q2 hx (fun w => z (r2.nil_iff.mpr w)) _ _ (I.hok.fresh (Nat.le_refl _)) rfl⟩
/-- tuple(list), tuple(tuple) -/
theorem call_tupF : CallR X (.type "tuple") (fun xs H Q => ∃ p ys, xs = [.ref p] ∧ ((SqL X.K H p ys ∧ ∀ l o, H l = none → o.dict = none → Q (.ref l) (upd H l (.frz o (.tup ys)))) ∨ (SqT X.K H p ys ∧ Q (.ref p) H))) := by
  intro pins s σ H xs us Q I r h
  obtain ⟨p, ys, rfl, h⟩ := h
  rw [Vals.ref1 r]
  rcases h with ⟨hq, q⟩ | ⟨hq, q⟩
  · obtain ⟨its, r', pl, hz⟩ := I.list hq
    have hlen := r'.length
    refine call_tuple_list pl.isList (fun g kp => ?_) (by simp only [List.size_toArray] <;> omega)
    have J : Inv X pins σ H { s with heap := g } := I.kept (t' := s.toks) kp
    exact ⟨.ref _, _, J.laid (t' := s.toks) (o := .frz (nT its) (.tup ys)) (fun b o e => Heap.get?_push_of_some _ e) (Nat.le_refl _) (objF (Heap.get?_push_size _ rfl) hz r'), rfl, q _ _ (J.hok.fresh (Nat.le_refl _)) rfl⟩
  · obtain ⟨its, r', pl, hz⟩ := I.tuple hq
    exact call_tuple_same pl ⟨.ref p, H, I, rfl, q⟩
/-- t[lo:hi] -/
def rSlF (K : PySem.W.Frag) : V → Option Int → Option Int → Hp → VK → Prop := fun x lo hi H Q => ∃ a xs, x = .ref a ∧ SqT K H a xs ∧
  (HT.sIx xs.length 0 lo = 0 ∧ HT.sIx xs.length xs.length hi = xs.length → Q (.ref a) H) ∧ (¬ (HT.sIx xs.length 0 lo = 0 ∧ HT.sIx xs.length xs.length hi = xs.length) → ∀ p o, H p = none → o.dict = none → Q (.ref p) (upd H p (.frz o (.tup (cutV xs lo hi)))))
theorem sl_tupF : SlR X (rSlF X.K) := by
  intro pins s σ H x v vl vu lo hi sl Q I rx hs pl pu h
  obtain ⟨a, xs, rfl, hx, q1, q2⟩ := h
  cases rx
  obtain ⟨its, r, ht, hz⟩ := I.tuple hx
  have hlen : its.toArray.size = xs.length := by rw [List.size_toArray]; exact r.length.symm
  refine ⟨"tuple", _, PyProof.Rows.slot_tuple_getitem.lookup, ht.typeIs, ?_⟩
  by_cases hw : HT.sIx xs.length 0 lo = 0 ∧ HT.sIx xs.length xs.length hi = xs.length
  · exact getItem_tuple_whole ht hs pl pu (by rw [hlen]; exact hw) ⟨.ref a, H, I, rfl, q1 hw⟩
  · refine HT.getItem_tuple_cut ht hs pl pu (by rw [hlen]; exact hw) ?_ (by rw [hlen]; exact hz)
    rw [hlen]
    exact ⟨.ref _, _, I.laid (t' := s.toks) (o := .frz (nT ((its.drop (HT.sIx xs.length 0 lo)).take (HT.sIx xs.length xs.length hi - HT.sIx xs.length 0 lo))) (.tup (cutV xs lo hi))) (fun b ob q => Heap.get?_push_of_some _ q) (Nat.le_refl _) (objF (Heap.get?_push_size _ rfl) (Nat.le_trans (cutV_length xs lo hi) hz) ((r.drop (HT.sIx xs.length 0 lo)).take (HT.sIx xs.length xs.length hi - HT.sIx xs.length 0 lo))), rfl, q2 hw _ _ (I.hok.fresh (Nat.le_refl _)) rfl⟩
/-- t * k -/
def rRepF (K : PySem.W.Frag) : R2 := fun x y H Q => ∃ l k xs, x = .ref l ∧ y = .int k ∧ SqT K H l xs ∧ xs ≠ [] ∧ 2 ≤ k ∧ k ≤ 1000 ∧ xs.length ≤ 1000 ∧ ∀ p o, H p = none → o.dict = none → Q (.ref p) (upd H p (.frz o (.tup (List.replicate k.toNat xs).flatten)))
theorem op_repF : OpR X (binaryOp .Mult) (rRepF X.K) := by
  intro pins s σ H x y v u Q I rx ry h
  obtain ⟨l, k, xs, rfl, rfl, hT, hne, h1, h2, hz, q⟩ := h
  cases rx
  obtain ⟨t, rfl⟩ := ry
  obtain ⟨its, r, ⟨⟨cls, dd, data, sl⟩, ho, hc, n, hd⟩, hs⟩ := I.tuple hT
  simp only at hc hd
  subst hc hd
  have hle : its.length = xs.length := r.length.symm
  have hi : its.toArray.isEmpty = false := by
    cases its with
    | nil => exact absurd (List.eq_nil_of_length_eq_zero hle.symm) hne
    | cons a b => rfl
  have hm : ((its.toArray.size : Nat) : Int) * k ≤ 1000000 := by
    rw [List.size_toArray, hle]
    have a1 : ((xs.length : Nat) : Int) * k ≤ 1000 * k := Int.mul_le_mul_of_nonneg_right (by omega) (by omega)
    omega
  have fl : ∀ m : Nat, m ≤ 1000 → k.toNat * m ≤ 1000000 := fun m hm => Nat.mul_le_mul (show k.toNat ≤ 1000 by omega) hm
  have flen : (List.replicate k.toNat its).flatten.length ≤ sizeLine := by
    rw [PyProof.Rows.lm_len_rep_flat, hle, sizeLine_eq]
    have := fl _ hz
    omega
  refine wpAny_binaryOp_repeat_ref (T := "tuple") (U := "int") (by decide) ⟨_, ho, rfl⟩ (fun s' => typeIs_int s' k t) noFill_tuple_mul F.fills_int_mul F.slot_int_rmul repeat_tuple F.slot_int_index.lookup
    (call_meets F.slot_int_rmul (typeIs_int s k t) F.entry_int_rmul (F.args_int_rmul_2 _ _) (int_rmul_tuple k t l its.toArray n dd sl)
      ⟨ho, rfl, ⟨_, ho, rfl⟩, call_meets F.slot_tuple_mul ⟨_, ho, rfl⟩ F.entry_tuple_mul (F.args_tuple_mul_2 _ _) (tuple_mulW l its.toArray n dd sl k t (by rw [decide_eq_false (by omega), decide_eq_false (by omega)] <;> rfl) (by rw [hi, Bool.false_or]; exact beq_eq_false_iff_ne.mpr (by omega)) (by rw [hi, Bool.or_false]; exact decide_eq_false (by omega)) (by omega) (by unfold Builtin.Tuple.tupleTooMany; rw [sizeLine_eq]; exact decide_eq_false (by omega)) (by rw [size_rep, List.size_toArray]; exact flen)) ⟨ho, ?_⟩⟩)
  rw [size_rep]
  exact ⟨.ref _, _, I.laid (t' := s.toks) (o := .frz (nT (List.replicate k.toNat its).flatten) (.tup (List.replicate k.toNat xs).flatten)) (fun b ob q => Heap.get?_push_of_some _ q) (Nat.le_refl _) (objF (Heap.get?_push_size _ rfl) (by rw [PyProof.Rows.lm_len_rep_flat, sizeLine_eq]; have := fl _ hz; omega) (r.rep k.toNat)), rfl, q _ _ (I.hok.fresh (Nat.le_refl _)) rfl⟩
end
end CS

set_option maxRecDepth 100000
set_option maxHeartbeats 4000000
namespace CS
open PySem PySem.Spec PyProof.Rows L2

/-! ### what operators do to data -/
/-- an operation on values: from data da, db to data d -/
def Op2 (K : PySem.W.Frag) (r : R2) (da db d : PyData) : Prop :=
  ∀ (x y : V) (W : Wd) (Q : VK), Dp K W.s x da → Dp K W.s y db → (∀ v W', Wx W W' → Dp K W'.s v d → Q v W'.h) → r x y W.h Q
section
variable {c : Cfg} {Γ : Gm} {e a b : Expr} {d da db dc : PyData} {es : List Expr} {ds : List PyData} {pos p p2 : Pos}
theorem ev_op {op : Operator} (ha : Ev c Γ a da) (hb : Ev c Γ b db) (r : ∀ X, Cf c X → ∃ r : R2, OpR X (binaryOp op) r ∧ Op2 X.K r da db d) : Ev c Γ (.BinOp a op b pos) d := fun X cf σ W Q s q => by
  obtain ⟨r, ho, hr⟩ := r X cf
  refine wE_of (pe_op ho pe_w pe_w) ?_
  refine ha X cf σ W _ s fun x W1 e1 r1 => ?_
  refine hb X cf σ W1 _ (s.ex e1.s) fun y W2 e2 r2 => ?_
  exact hr x y W2 Q (dp_ex e2.s r1) r2 fun v W3 e3 r3 => q v W3 ((e1.trans e2).trans e3) r3
theorem ev_cmp {op : CmpOp} (ha : Ev c Γ a da) (hb : Ev c Γ b db) (r : ∀ X, Cf c X → ∃ r : R2, OpR X (compareOp op) r ∧ Op2 X.K r da db d) (hm : behindInMarks op b = false) : Ev c Γ (.Compare a [op] [b] pos) d := fun X cf σ W Q s q => by
  obtain ⟨r, ho, hr⟩ := r X cf
  refine wE_of (pe_cmpR ho pe_w pe_w hm) ?_
  refine ha X cf σ W _ s fun x W1 e1 r1 => ?_
  refine hb X cf σ W1 _ (s.ex e1.s) fun y W2 e2 r2 => ?_
  exact hr x y W2 Q (dp_ex e2.s r1) r2 fun v W3 e3 r3 => q v W3 ((e1.trans e2).trans e3) r3
theorem et_cmp {op : CmpOp} {k : Bool} (ha : Ev c Γ a da) (hb : Ev c Γ b db) (r : ∀ X, Cf c X → ∃ r : R2, OpR X (compareOp op) r ∧ Op2 X.K r da db (.bool k)) (hm : behindInMarks op b = false) : EvT c Γ (.Compare a [op] [b] pos) k := fun X cf σ W Q s q => by
  obtain ⟨r, ho, hr⟩ := r X cf
  refine wT_of (pt_cmpR ho pe_w pe_w hm) ?_
  refine ha X cf σ W _ s fun x W1 e1 r1 => ?_
  refine hb X cf σ W1 _ (s.ex e1.s) fun y W2 e2 r2 => ?_
  refine hr x y W2 _ (dp_ex e2.s r1) r2 fun v W3 e3 r3 => ?_
  exact ⟨k, dp_bool_inv r3, q W3 ((e1.trans e2).trans e3)⟩

theorem o2_I0 {K : PySem.W.Frag} {g : Int → Int → Int} {i j : Int} : Op2 K (rI0 fun i j => .int (g i j)) (.int i) (.int j) (.int (g i j)) := fun x y W Q hx hy q =>
  ⟨i, j, dp_int_inv hx, dp_int_inv hy, q _ W Wx.refl (.int _)⟩
theorem o2_I {K : PySem.W.Frag} {C : Int → Int → Prop} {g : Int → Int → Int} {i j : Int} (hc : C i j) : Op2 K (rI C fun i j => .int (g i j)) (.int i) (.int j) (.int (g i j)) := fun x y W Q hx hy q =>
  ⟨i, j, dp_int_inv hx, dp_int_inv hy, hc, q _ W Wx.refl (.int _)⟩
theorem o2_B0 {K : PySem.W.Frag} {g : Int → Int → Bool} {i j : Int} : Op2 K (rI0 fun i j => .bl (g i j)) (.int i) (.int j) (.bool (g i j)) := fun x y W Q hx hy q =>
  ⟨i, j, dp_int_inv hx, dp_int_inv hy, q _ W Wx.refl (.bl _)⟩
/-! arithmetic -/
theorem ev_add {i j : Int} (ha : Ev c Γ a (.int i)) (hb : Ev c Γ b (.int j)) : Ev c Γ (.BinOp a .Add b pos) (.int (i + j)) := ev_op ha hb fun _ _ => ⟨_, op_add, o2_I0⟩
theorem ev_sub {i j : Int} (ha : Ev c Γ a (.int i)) (hb : Ev c Γ b (.int j)) : Ev c Γ (.BinOp a .Sub b pos) (.int (i - j)) := ev_op ha hb fun _ _ => ⟨_, op_sub, o2_I0⟩
theorem ev_mul {i j : Int} (ha : Ev c Γ a (.int i)) (hb : Ev c Γ b (.int j)) (hc : CMul i j) : Ev c Γ (.BinOp a .Mult b pos) (.int (i * j)) := ev_op ha hb fun _ _ => ⟨_, op_mul, o2_I hc⟩
theorem ev_fdiv {i j : Int} (ha : Ev c Γ a (.int i)) (hb : Ev c Γ b (.int j)) (hc : CDiv i j) : Ev c Γ (.BinOp a .FloorDiv b pos) (.int (i / j)) := ev_op ha hb fun _ _ => ⟨_, op_fdiv, o2_I hc⟩
theorem ev_mod {i j : Int} (ha : Ev c Γ a (.int i)) (hb : Ev c Γ b (.int j)) (hc : 0 < j) : Ev c Γ (.BinOp a .Mod b pos) (.int (i % j)) := ev_op ha hb fun _ _ => ⟨_, op_mod, o2_I hc⟩
theorem ev_pow {i j : Int} (ha : Ev c Γ a (.int i)) (hb : Ev c Γ b (.int j)) (hc : CPow i j) : Ev c Γ (.BinOp a .Pow b pos) (.int (i ^ j.toNat)) := ev_op ha hb fun _ _ => ⟨_, op_pow, o2_I hc⟩
theorem ev_neg {i : Int} (ha : Ev c Γ a (.int i)) : Ev c Γ (.UnaryOp .USub a pos) (.int (-i)) := fun X cf σ W Q s q => by
  refine wE_of (pe_un un_neg pe_w) ?_
  refine ha X cf σ W _ s fun x W1 e1 r1 => ?_
  exact ⟨i, dp_int_inv r1, q _ _ e1 (.int _)⟩
/-! lists and tuples joined -/
/-- any two lists, tracked or not -/
def rCatL (K : PySem.W.Frag) : R2 := fun x y H Q => ∃ l b xs zs, x = .ref l ∧ y = .ref b ∧ SqL K H l xs ∧ SqL K H b zs ∧ xs.length + zs.length ≤ sizeLine ∧ ∀ p, H p = none → Q (.ref p) (upd H p (.lst (xs ++ zs)))
theorem op_catL {X : Cx} : OpR X (binaryOp .Add) (rCatL X.K) := by
  intro pins s σ H x y v u Q I rx ry h
  obtain ⟨l, b, xs, zs, rfl, rfl, hH, hB, hz, q⟩ := h
  cases rx
  cases ry
  obtain ⟨its, r, ⟨⟨cls, dd, data, sl⟩, n, ho, hc, hdd, hd⟩, _⟩ := I.list hH
  obtain ⟨its2, r2, ⟨⟨cls2, dd2, data2, sl2⟩, n2, ho2, hc2, hdd2, hd2⟩, _⟩ := I.list hB
  simp only at hc hd hc2 hd2
  subst hc hd hc2 hd2
  have e1 := r.length
  have e2 := r2.length
  refine concat_meets ⟨_, ho, rfl⟩ ⟨_, ho2, rfl⟩ noFill_list_add seq_list_add PySem.F.slot_list_add PySem.F.entry_list_add (PySem.F.args_list_add_2 _ _) (list_addW l b its.toArray its2.toArray n n2 dd dd2 sl sl2 (by rw [List.size_toArray, List.size_toArray]; omega)) ⟨ho, ho2, ?_⟩
  have ea : its.toArray ++ its2.toArray = (its ++ its2).toArray := by simp
  rw [ea]
  exact ⟨.ref _, _, I.lnew (t' := s.toks) (r.append r2) (by rw [List.length_append]; omega), rfl, q _ I.fresh⟩
theorem ev_catL {xs ys : List PyData} (ha : Ev c Γ a (.list xs)) (hb : Ev c Γ b (.list ys)) (hl : xs.length + ys.length ≤ 100000) : Ev c Γ (.BinOp a .Add b pos) (.list (xs ++ ys)) := ev_op ha hb fun X _ => ⟨_, op_catL, fun x y W Q hx hy q => by
  obtain ⟨p1, us, rfl, h1, h2⟩ := dp_list_inv hx
  obtain ⟨p2, ws, rfl, h3, h4⟩ := dp_list_inv hy
  have e1 := dpa_len h2
  have e2 := dpa_len h4
  refine ⟨p1, p2, us, ws, rfl, rfl, W.sl h1, W.sl h3, Nat.le_trans (by omega) (show 100000 ≤ sizeLine by decide), fun p hp => ?_⟩
  exact q _ (W.new p _) (Wx.new hp) (.lst (SqL.of upd_same) (dpa_app (dpa_ex (Wx.new hp).s h2) (dpa_ex (Wx.new hp).s h4)))⟩
theorem ev_catT {xs ys : List PyData} (ha : Ev c Γ a (.tuple xs)) (hb : Ev c Γ b (.tuple ys)) (hl : xs.length + ys.length ≤ 100000) : Ev c Γ (.BinOp a .Add b pos) (.tuple (xs ++ ys)) := ev_op ha hb fun X _ => ⟨_, op_catF, fun x y W Q hx hy q => by
  obtain ⟨p1, us, rfl, h1, h2⟩ := dp_tup_inv hx
  obtain ⟨p2, ws, rfl, h3, h4⟩ := dp_tup_inv hy
  have e1 := dpa_len h2
  have e2 := dpa_len h4
  refine ⟨p1, p2, us, ws, rfl, rfl, W.st h1, W.st h3, Nat.le_trans (by omega) (show 100000 ≤ sizeLine by decide), fun z => ?_, fun _ z => ?_, fun _ _ p o hp ho => ?_⟩
  · subst z
    cases h2
    exact q _ W Wx.refl hy
  · subst z
    cases h4
    rw [List.append_nil] at q
    exact q _ W Wx.refl hx
  · exact q _ (W.new p _) (Wx.new hp) (.tup (PlT.of ho) (dpa_app (dpa_ex (Wx.new hp).s h2) (dpa_ex (Wx.new hp).s h4)))⟩
theorem ev_catS {x y : Str} (ha : Ev c Γ a (.str x)) (hb : Ev c Γ b (.str y)) (hl : x.length + y.length ≤ 100000) : Ev c Γ (.BinOp a .Add b pos) (.str (x ++ y)) := ev_op ha hb fun X _ => ⟨_, op_add_str, fun u v W Q hx hy q =>
  ⟨x, y, dp_str_inv hx, dp_str_inv hy, Nat.le_trans hl (by decide), q _ W Wx.refl (.str _)⟩⟩
/-! comparisons -/
def cmpI (op : CmpOp) (i j : Int) : Bool := match op with
  | .Lt => decide (i < j)
  | .LtE => decide (i ≤ j)
  | .Gt => decide (j < i)
  | .GtE => decide (j ≤ i)
  | _ => false
theorem ev_lt {i j : Int} (ha : Ev c Γ a (.int i)) (hb : Ev c Γ b (.int j)) : Ev c Γ (.Compare a [.Lt] [b] pos) (.bool (decide (i < j))) := ev_cmp ha hb (fun _ _ => ⟨_, op_lt, o2_B0⟩) (nomark _)
theorem ev_le {i j : Int} (ha : Ev c Γ a (.int i)) (hb : Ev c Γ b (.int j)) : Ev c Γ (.Compare a [.LtE] [b] pos) (.bool (decide (i ≤ j))) := ev_cmp ha hb (fun _ _ => ⟨_, op_le, o2_B0⟩) (nomark _)
theorem ev_gt {i j : Int} (ha : Ev c Γ a (.int i)) (hb : Ev c Γ b (.int j)) : Ev c Γ (.Compare a [.Gt] [b] pos) (.bool (decide (j < i))) := ev_cmp ha hb (fun _ _ => ⟨_, op_gt, o2_B0⟩) (nomark _)
theorem ev_ge {i j : Int} (ha : Ev c Γ a (.int i)) (hb : Ev c Γ b (.int j)) : Ev c Γ (.Compare a [.GtE] [b] pos) (.bool (decide (j ≤ i))) := ev_cmp ha hb (fun _ _ => ⟨_, op_ge, o2_B0⟩) (nomark _)
theorem et_lt {i j : Int} (ha : Ev c Γ a (.int i)) (hb : Ev c Γ b (.int j)) : EvT c Γ (.Compare a [.Lt] [b] pos) (decide (i < j)) := et_cmp ha hb (fun _ _ => ⟨_, op_lt, o2_B0⟩) (nomark _)
theorem et_le {i j : Int} (ha : Ev c Γ a (.int i)) (hb : Ev c Γ b (.int j)) : EvT c Γ (.Compare a [.LtE] [b] pos) (decide (i ≤ j)) := et_cmp ha hb (fun _ _ => ⟨_, op_le, o2_B0⟩) (nomark _)
theorem et_gt {i j : Int} (ha : Ev c Γ a (.int i)) (hb : Ev c Γ b (.int j)) : EvT c Γ (.Compare a [.Gt] [b] pos) (decide (j < i)) := et_cmp ha hb (fun _ _ => ⟨_, op_gt, o2_B0⟩) (nomark _)
theorem et_ge {i j : Int} (ha : Ev c Γ a (.int i)) (hb : Ev c Γ b (.int j)) : EvT c Γ (.Compare a [.GtE] [b] pos) (decide (j ≤ i)) := et_cmp ha hb (fun _ _ => ⟨_, op_ge, o2_B0⟩) (nomark _)
theorem o2_eqD {K : PySem.W.Frag} (h1 : SeqAt.shaped da = true) (h2 : SeqAt.shaped db = true) : Op2 K (rEqD K) da db (.bool (PyData.eqv da db)) := fun x y W Q hx hy q => ⟨da, db, (W.dp hx).l, (W.dp hy).l, h1, h2, q _ W Wx.refl (.bl _)⟩
theorem o2_neD {K : PySem.W.Frag} (h1 : SeqAt.shaped da = true) (h2 : SeqAt.shaped db = true) : Op2 K (rNeD K) da db (.bool (!PyData.eqv da db)) := fun x y W Q hx hy q => ⟨da, db, (W.dp hx).l, (W.dp hy).l, h1, h2, q _ W Wx.refl (.bl _)⟩
theorem ev_eq (ha : Ev c Γ a da) (hb : Ev c Γ b db) (h1 : SeqAt.shaped da = true) (h2 : SeqAt.shaped db = true) : Ev c Γ (.Compare a [.Eq] [b] pos) (.bool (PyData.eqv da db)) := ev_cmp ha hb (fun _ cf => ⟨_, op_eqD cf.room.units, o2_eqD h1 h2⟩) (nomark _)
theorem ev_ne (ha : Ev c Γ a da) (hb : Ev c Γ b db) (h1 : SeqAt.shaped da = true) (h2 : SeqAt.shaped db = true) : Ev c Γ (.Compare a [.NotEq] [b] pos) (.bool (!PyData.eqv da db)) := ev_cmp ha hb (fun _ cf => ⟨_, op_neD cf.room.units, o2_neD h1 h2⟩) (nomark _)
theorem et_eq (ha : Ev c Γ a da) (hb : Ev c Γ b db) (h1 : SeqAt.shaped da = true) (h2 : SeqAt.shaped db = true) : EvT c Γ (.Compare a [.Eq] [b] pos) (PyData.eqv da db) := et_cmp ha hb (fun _ cf => ⟨_, op_eqD cf.room.units, o2_eqD h1 h2⟩) (nomark _)
theorem et_ne (ha : Ev c Γ a da) (hb : Ev c Γ b db) (h1 : SeqAt.shaped da = true) (h2 : SeqAt.shaped db = true) : EvT c Γ (.Compare a [.NotEq] [b] pos) (!PyData.eqv da db) := et_cmp ha hb (fun _ cf => ⟨_, op_neD cf.room.units, o2_neD h1 h2⟩) (nomark _)
/-- ints: == by decide -/
theorem ev_eqI {i j : Int} (ha : Ev c Γ a (.int i)) (hb : Ev c Γ b (.int j)) : Ev c Γ (.Compare a [.Eq] [b] pos) (.bool (decide (i = j))) :=
  (ev_eq ha hb rfl rfl).cast (by show PyData.bool (i == j) = _; rw [Bool.beq_eq_decide_eq])
theorem ev_neI {i j : Int} (ha : Ev c Γ a (.int i)) (hb : Ev c Γ b (.int j)) : Ev c Γ (.Compare a [.NotEq] [b] pos) (.bool (!decide (i = j))) :=
  (ev_ne ha hb rfl rfl).cast (by show PyData.bool (!(i == j)) = _; rw [Bool.beq_eq_decide_eq])
theorem et_eqI {i j : Int} (ha : Ev c Γ a (.int i)) (hb : Ev c Γ b (.int j)) : EvT c Γ (.Compare a [.Eq] [b] pos) (decide (i = j)) :=
  (et_eq ha hb rfl rfl).cast (by show (i == j) = _; rw [Bool.beq_eq_decide_eq])
theorem et_neI {i j : Int} (ha : Ev c Γ a (.int i)) (hb : Ev c Γ b (.int j)) : EvT c Γ (.Compare a [.NotEq] [b] pos) (!decide (i = j)) :=
  (et_ne ha hb rfl rfl).cast (by show (!(i == j)) = _; rw [Bool.beq_eq_decide_eq])
/-! is None -/
def isNone : PyData → Bool
  | .none => true
  | _ => false
theorem dp_isNone {K : PySem.W.Frag} {H : Hp} {v : V} (h : Dp K H v d) : decide (v = .non) = isNone d := by
  cases h <;> rfl
theorem ev_isN {j : Nat} (ha : Ev c Γ a d) : Ev c Γ (.Compare a [.Is] [.Constant .none j p] pos) (.bool (isNone d)) := fun X cf σ W Q s q => by
  refine wE_of (pe_cmp (pc_isN pe_w)) ?_
  refine ha X cf σ W _ s fun x W1 e1 r1 => ?_
  rw [dp_isNone r1]
  exact q _ _ e1 (.bl _)
theorem ev_notN {j : Nat} (ha : Ev c Γ a d) : Ev c Γ (.Compare a [.IsNot] [.Constant .none j p] pos) (.bool (!isNone d)) := fun X cf σ W Q s q => by
  refine wE_of (pe_cmp (pc_notN pe_w)) ?_
  refine ha X cf σ W _ s fun x W1 e1 r1 => ?_
  rw [dp_isNone r1]
  exact q _ _ e1 (.bl _)
theorem et_isN {j : Nat} (ha : Ev c Γ a d) : EvT c Γ (.Compare a [.Is] [.Constant .none j p] pos) (isNone d) := fun X cf σ W Q s q => by
  refine wT_of (pt_cmp (pc_isN pe_w)) ?_
  refine ha X cf σ W _ s fun x W1 e1 r1 => ?_
  rw [dp_isNone r1]
  exact ⟨_, rfl, q _ e1⟩
theorem et_notN {j : Nat} (ha : Ev c Γ a d) : EvT c Γ (.Compare a [.IsNot] [.Constant .none j p] pos) (!isNone d) := fun X cf σ W Q s q => by
  refine wT_of (pt_cmp (pc_notN pe_w)) ?_
  refine ha X cf σ W _ s fun x W1 e1 r1 => ?_
  rw [dp_isNone r1]
  exact ⟨_, rfl, q _ e1⟩
/-! a in b, of ints -/
theorem inV_ints {n : Int} : ∀ {ns : List Int}, inV (.int n) (ns.map V.int) = decide (n ∈ ns)
  | [] => rfl
  | m :: ns => by
    have ih := inV_ints (n := n) (ns := ns)
    unfold inV at ih ⊢
    rw [List.map_cons, List.any_cons, ih]
    have e : eqV (.int m) (.int n) = decide (n = m) := by
      show (m == n) = _
      rw [Bool.beq_eq_decide_eq]
      by_cases h : m = n
      · subst h; simp
      · simp [h, Ne.symm h]
    rw [e]
    by_cases h : n = m <;> simp [h]
theorem flat_ints : ∀ {ns : List Int}, (ns.map V.int).all flatV = true
  | [] => rfl
  | m :: ns => by rw [List.map_cons, List.all_cons, flat_ints]; rfl
theorem o2_inL {K : PySem.W.Frag} {n : Int} {ns : List Int} : Op2 K (rIn K false) (.int n) (pL ns) (.bool (decide (n ∈ ns))) := fun x y W Q hx hy q => by
  obtain ⟨a, rfl, h⟩ := dp_pL_inv hy
  cases dp_int_inv hx
  refine ⟨a, _, rfl, .inl (W.sl h), rfl, flat_ints, ?_⟩
  rw [if_neg Bool.false_ne_true, inV_ints]
  exact q _ W Wx.refl (.bl _)
theorem o2_niL {K : PySem.W.Frag} {n : Int} {ns : List Int} : Op2 K (rIn K true) (.int n) (pL ns) (.bool (!decide (n ∈ ns))) := fun x y W Q hx hy q => by
  obtain ⟨a, rfl, h⟩ := dp_pL_inv hy
  cases dp_int_inv hx
  refine ⟨a, _, rfl, .inl (W.sl h), rfl, flat_ints, ?_⟩
  rw [if_pos rfl, inV_ints]
  exact q _ W Wx.refl (.bl _)
theorem o2_inT {K : PySem.W.Frag} {n : Int} {ns : List Int} : Op2 K (rIn K false) (.int n) (pT ns) (.bool (decide (n ∈ ns))) := fun x y W Q hx hy q => by
  obtain ⟨a, rfl, h⟩ := dp_pT_inv hy
  cases dp_int_inv hx
  refine ⟨a, _, rfl, .inr (W.st h), rfl, flat_ints, ?_⟩
  rw [if_neg Bool.false_ne_true, inV_ints]
  exact q _ W Wx.refl (.bl _)
theorem o2_niT {K : PySem.W.Frag} {n : Int} {ns : List Int} : Op2 K (rIn K true) (.int n) (pT ns) (.bool (!decide (n ∈ ns))) := fun x y W Q hx hy q => by
  obtain ⟨a, rfl, h⟩ := dp_pT_inv hy
  cases dp_int_inv hx
  refine ⟨a, _, rfl, .inr (W.st h), rfl, flat_ints, ?_⟩
  rw [if_pos rfl, inV_ints]
  exact q _ W Wx.refl (.bl _)
theorem ev_inL {n : Int} {ns : List Int} (ha : Ev c Γ a (.int n)) (hb : Ev c Γ b (pL ns)) (hm : behindInMarks .In b = false := by rfl) : Ev c Γ (.Compare a [.In] [b] pos) (.bool (decide (n ∈ ns))) := ev_cmp ha hb (fun _ _ => ⟨_, op_in_seq, o2_inL⟩) hm
theorem ev_niL {n : Int} {ns : List Int} (ha : Ev c Γ a (.int n)) (hb : Ev c Γ b (pL ns)) (hm : behindInMarks .NotIn b = false := by rfl) : Ev c Γ (.Compare a [.NotIn] [b] pos) (.bool (!decide (n ∈ ns))) := ev_cmp ha hb (fun _ _ => ⟨_, op_notIn_seq, o2_niL⟩) hm
theorem ev_inT {n : Int} {ns : List Int} (ha : Ev c Γ a (.int n)) (hb : Ev c Γ b (pT ns)) (hm : behindInMarks .In b = false := by rfl) : Ev c Γ (.Compare a [.In] [b] pos) (.bool (decide (n ∈ ns))) := ev_cmp ha hb (fun _ _ => ⟨_, op_in_seq, o2_inT⟩) hm
theorem ev_niT {n : Int} {ns : List Int} (ha : Ev c Γ a (.int n)) (hb : Ev c Γ b (pT ns)) (hm : behindInMarks .NotIn b = false := by rfl) : Ev c Γ (.Compare a [.NotIn] [b] pos) (.bool (!decide (n ∈ ns))) := ev_cmp ha hb (fun _ _ => ⟨_, op_notIn_seq, o2_niT⟩) hm
theorem et_inL {n : Int} {ns : List Int} (ha : Ev c Γ a (.int n)) (hb : Ev c Γ b (pL ns)) (hm : behindInMarks .In b = false := by rfl) : EvT c Γ (.Compare a [.In] [b] pos) (decide (n ∈ ns)) := et_cmp ha hb (fun _ _ => ⟨_, op_in_seq, o2_inL⟩) hm
theorem et_niL {n : Int} {ns : List Int} (ha : Ev c Γ a (.int n)) (hb : Ev c Γ b (pL ns)) (hm : behindInMarks .NotIn b = false := by rfl) : EvT c Γ (.Compare a [.NotIn] [b] pos) (!decide (n ∈ ns)) := et_cmp ha hb (fun _ _ => ⟨_, op_notIn_seq, o2_niL⟩) hm
theorem et_inT {n : Int} {ns : List Int} (ha : Ev c Γ a (.int n)) (hb : Ev c Γ b (pT ns)) (hm : behindInMarks .In b = false := by rfl) : EvT c Γ (.Compare a [.In] [b] pos) (decide (n ∈ ns)) := et_cmp ha hb (fun _ _ => ⟨_, op_in_seq, o2_inT⟩) hm
theorem et_niT {n : Int} {ns : List Int} (ha : Ev c Γ a (.int n)) (hb : Ev c Γ b (pT ns)) (hm : behindInMarks .NotIn b = false := by rfl) : EvT c Γ (.Compare a [.NotIn] [b] pos) (!decide (n ∈ ns)) := et_cmp ha hb (fun _ _ => ⟨_, op_notIn_seq, o2_niT⟩) hm
/-! low <= value <= high -/
theorem ev_chainLe {i j k : Int} {e2 : Expr} (ha : Ev c Γ a (.int i)) (hb : Ev c Γ b (.int j)) (hc : Ev c Γ e2 (.int k)) (hm : lastMarks [.LtE, .LtE] [b, e2] = false := by with_unfolding_all rfl) : Ev c Γ (.Compare a [.LtE, .LtE] [b, e2] pos) (.bool (decide (i ≤ j) && decide (j ≤ k))) := fun X cf σ W Q s q => by
  refine wE_of (pe_chain op_le op_le pe_w pe_w pe_w hm) ?_
  refine ha X cf σ W _ s fun x W1 e1 r1 => ?_
  refine hb X cf σ W1 _ (s.ex e1.s) fun y W2 e2 r2 => ?_
  refine ⟨i, j, dp_int_inv r1, dp_int_inv r2, decide (i ≤ j), rfl, ?_⟩
  by_cases h : i ≤ j
  · rw [if_pos (decide_eq_true h)]
    refine hc X cf σ W2 _ (s.ex (e1.trans e2).s) fun z W3 e3 r3 => ?_
    refine ⟨j, k, dp_int_inv r2, dp_int_inv r3, ?_⟩
    refine q _ _ ((e1.trans e2).trans e3) ?_
    rw [decide_eq_true h, Bool.true_and]
    exact .bl _
  · rw [decide_eq_false h, if_neg Bool.false_ne_true]
    refine q _ _ (e1.trans e2) ?_
    rw [decide_eq_false h, Bool.false_and]
    exact .bl _
theorem et_chainLe {i j k : Int} {e2 : Expr} (ha : Ev c Γ a (.int i)) (hb : Ev c Γ b (.int j)) (hc : Ev c Γ e2 (.int k)) (hm : lastMarks [.LtE, .LtE] [b, e2] = false := by with_unfolding_all rfl) : EvT c Γ (.Compare a [.LtE, .LtE] [b, e2] pos) (decide (i ≤ j) && decide (j ≤ k)) := fun X cf σ W Q s q => by
  refine wT_of (pt_chain op_le op_le pe_w pe_w pe_w hm) ?_
  refine ha X cf σ W _ s fun x W1 e1 r1 => ?_
  refine hb X cf σ W1 _ (s.ex e1.s) fun y W2 e2 r2 => ?_
  refine ⟨i, j, dp_int_inv r1, dp_int_inv r2, decide (i ≤ j), rfl, ?_⟩
  by_cases h : i ≤ j
  · rw [if_pos (decide_eq_true h)]
    refine hc X cf σ W2 _ (s.ex (e1.trans e2).s) fun z W3 e3 r3 => ?_
    refine ⟨j, k, dp_int_inv r2, dp_int_inv r3, _, rfl, ?_⟩
    rw [decide_eq_true h, Bool.true_and] at q
    exact q _ ((e1.trans e2).trans e3)
  · rw [decide_eq_false h, if_neg Bool.false_ne_true]
    rw [decide_eq_false h, Bool.false_and] at q
    exact ⟨_, rfl, q _ (e1.trans e2)⟩
/-! and, or, not -/
theorem ev_and {i : Bool} {es : List Expr} {j : Bool} (ha : Ev c Γ a (.bool i)) (hb : i = true → Ev c Γ (.BoolOp .And (b :: es) pos) (.bool j)) : Ev c Γ (.BoolOp .And (a :: b :: es) pos) (.bool (i && j)) := fun X cf σ W Q s q => by
  refine wE_of (pe_and pe_w pe_w) ?_
  refine ha X cf σ W _ s fun x W1 e1 r1 => ⟨i, dp_bool_inv r1, ?_⟩
  cases i with
  | true => exact hb rfl X cf σ W1 _ (s.ex e1.s) fun v W2 e2 r2 => q v W2 (e1.trans e2) r2
  | false => exact q _ _ e1 (.bl _)
theorem ev_or {i : Bool} {es : List Expr} {j : Bool} (ha : Ev c Γ a (.bool i)) (hb : i = false → Ev c Γ (.BoolOp .Or (b :: es) pos) (.bool j)) : Ev c Γ (.BoolOp .Or (a :: b :: es) pos) (.bool (i || j)) := fun X cf σ W Q s q => by
  refine wE_of (pe_or pe_w pe_w) ?_
  refine ha X cf σ W _ s fun x W1 e1 r1 => ⟨i, dp_bool_inv r1, ?_⟩
  cases i with
  | false => exact hb rfl X cf σ W1 _ (s.ex e1.s) fun v W2 e2 r2 => q v W2 (e1.trans e2) r2
  | true => exact q _ _ e1 (.bl _)
theorem ev_one {op : BoolOp} (ha : Ev c Γ a d) : Ev c Γ (.BoolOp op [a] pos) d := fun X cf σ W Q s q => wE_of (pe_one pe_w) (ha X cf σ W Q s q)
theorem ev_not {i : Bool} (ha : Ev c Γ a (.bool i)) : Ev c Γ (.UnaryOp .Not a pos) (.bool (!i)) := fun X cf σ W Q s q => by
  refine wE_of (pe_not pe_w) ?_
  exact ha X cf σ W _ s fun x W1 e1 r1 => ⟨i, dp_bool_inv r1, q _ _ e1 (.bl _)⟩
theorem ew_and {i : Bool} {es : List Expr} {j : Bool} (ha : EvT c Γ a i) (hb : i = true → EvW c Γ (.BoolOp .And (b :: es) pos) j) : EvW c Γ (.BoolOp .And (a :: b :: es) pos) (i && j) := fun X cf σ W Q s q => by
  refine wW_of (pw_and pt_w pw_w) ?_
  refine ha X cf σ W _ s fun W1 e1 => ?_
  cases i with
  | true => exact hb rfl X cf σ W1 _ (s.ex e1.s) fun W2 e2 => q W2 (e1.trans e2)
  | false => exact q _ e1
theorem ew_or {i : Bool} {es : List Expr} {j : Bool} (ha : EvT c Γ a i) (hb : i = false → EvW c Γ (.BoolOp .Or (b :: es) pos) j) : EvW c Γ (.BoolOp .Or (a :: b :: es) pos) (i || j) := fun X cf σ W Q s q => by
  refine wW_of (pw_or pt_w pw_w) ?_
  refine ha X cf σ W _ s fun W1 e1 => ?_
  cases i with
  | false => exact hb rfl X cf σ W1 _ (s.ex e1.s) fun W2 e2 => q W2 (e1.trans e2)
  | true => exact q _ e1
theorem ew_and1 {i : Bool} (ha : EvT c Γ a i) : EvW c Γ (.BoolOp .And [a] pos) i := fun X cf σ W Q s q => wW_of (pw_and1 pt_w) (ha X cf σ W Q s q)
theorem ew_or1 {i : Bool} (ha : EvT c Γ a i) : EvW c Γ (.BoolOp .Or [a] pos) i := fun X cf σ W Q s q => wW_of (pw_or1 pt_w) (ha X cf σ W Q s q)
theorem et_not {i : Bool} (ha : EvT c Γ a i) : EvT c Γ (.UnaryOp .Not a pos) (!i) := fun X cf σ W Q s q => wT_of (pt_not pt_w) (ha X cf σ W _ s q)
/-- a value's truth -/
def trB : PyData → Bool
  | .none => false
  | .bool b => b
  | .int i => i != 0
  | .str x => (x.length : Int) != 0
  | .list xs => !xs.isEmpty
  | .tuple xs => !xs.isEmpty
  | .dict _ => false
theorem dpa_isEmpty {K : PySem.W.Frag} {H : Hp} {vs : List V} (h : DpAll K H vs ds) : vs.isEmpty = ds.isEmpty := by cases h <;> rfl
theorem tru_dp {K : PySem.W.Frag} {H : Hp} {v : V} (h : Dp K H v d) (hs : ∀ x, d = .str x → x.length ≤ sizeLine) : TruV K v H (trB d) := by
  cases h with
  | non => rfl
  | bl b => rfl
  | int i => rfl
  | str x => exact ⟨hs x rfl, rfl⟩
  | lst h a => exact .inl ⟨_, h, by rw [dpa_isEmpty a]; rfl⟩
  | tup h a => exact .inr (.inl ⟨_, h.st, by rw [dpa_isEmpty a]; rfl⟩)
/-- an expression as a test by its truth -/
theorem et_truth (ha : Ev c Γ a d) (hs : ∀ x, d = .str x → x.length ≤ sizeLine := by intro x h; cases h)
    (he : ∀ env whole, isTrue a env whole = (do let v ← whole; standAt a.pos; holding [v] (truthy v)) := by intro _ _; rfl) : EvT c Γ a (trB d) := fun X cf σ W Q s q => by
  refine wT_of (pt_truth pe_w (he _)) ?_
  exact ha X cf σ W _ s fun x W1 e1 r1 => ⟨_, tru_dp (W1.dp r1) hs, q _ e1⟩
theorem et_val {i : Bool} (ha : Ev c Γ a (.bool i)) (he : ∀ env whole, isTrue a env whole = (do let v ← whole; standAt a.pos; holding [v] (truthy v)) := by intro _ _; rfl) : EvT c Γ a i := et_truth ha (by intro x h; cases h) he
theorem ev_ifT {e2 : Expr} (hc : EvT c Γ e2 true) (ha : Ev c Γ a d) : Ev c Γ (.IfExp e2 a b pos) d := fun X cf σ W Q s q => by
  refine wE_of (pe_ifExp pt_w pe_w pe_w) ?_
  refine hc X cf σ W _ s fun W1 e1 => ?_
  rw [if_pos rfl]
  exact ha X cf σ W1 _ (s.ex e1.s) fun v W2 e2 r2 => q v W2 (e1.trans e2) r2
theorem ev_ifF {e2 : Expr} (hc : EvT c Γ e2 false) (hb : Ev c Γ b d) : Ev c Γ (.IfExp e2 a b pos) d := fun X cf σ W Q s q => by
  refine wE_of (pe_ifExp pt_w pe_w pe_w) ?_
  refine hc X cf σ W _ s fun W1 e1 => ?_
  rw [if_neg Bool.false_ne_true]
  exact hb X cf σ W1 _ (s.ex e1.s) fun v W2 e2 r2 => q v W2 (e1.trans e2) r2
theorem ev_if {e2 : Expr} {k : Bool} (hc : EvT c Γ e2 k) (ha : k = true → Ev c Γ a da) (hb : k = false → Ev c Γ b db) : Ev c Γ (.IfExp e2 a b pos) (if k = true then da else db) := by
  cases k with
  | true => exact (ev_ifT hc (ha rfl)).cast (by rw [if_pos rfl])
  | false => exact (ev_ifF hc (hb rfl)).cast (by rw [if_neg Bool.false_ne_true])
/-! argument lists, displays -/
theorem ea_nil : EvA c Γ [] [] := fun X cf σ W Q s q => wA_of pa_nil (q _ W Wx.refl .nil)
theorem ea_cons (ha : Ev c Γ e d) (hr : EvA c Γ es ds) (hs : ∀ env, starEach (e :: es) env = (false, eval e env) :: starEach es env := by intro _; rfl) : EvA c Γ (e :: es) (d :: ds) := fun X cf σ W Q s q => by
  refine wA_of (pa_cons pe_w pa_w (hs _)) ?_
  refine ha X cf σ W _ s fun x W1 e1 r1 => ?_
  exact hr X cf σ W1 _ (s.ex e1.s) fun xs W2 e2 r2 => q _ _ (e1.trans e2) (.cons (dp_ex e2.s r1) r2)
theorem ev_list (ha : EvA c Γ es ds) (hl : ds.length ≤ 100000 := by decide) : Ev c Γ (.List es pos) (.list ds) := fun X cf σ W Q s q => by
  refine wE_of (pe_lst pa_w) ?_
  refine ha X cf σ W _ s fun xs W1 e1 r1 => ⟨?_, fun p hp => ?_⟩
  · rw [dpa_len r1]
    exact Nat.le_trans hl (by decide)
  · exact q _ (W1.new p _) (e1.trans (Wx.new hp)) (.lst (SqL.of upd_same) (dpa_ex (Wx.new hp).s r1))
theorem ev_tuple {k : Nat} (ha : EvA c Γ es ds) (hl : ds.length ≤ 100000 := by decide) : Ev c Γ (.Tuple es k pos) (.tuple ds) := fun X cf σ W Q s q => by
  refine wE_of (pe_tupF pa_w) ?_
  refine ha X cf σ W _ s fun xs W1 e1 r1 => ⟨?_, fun p o hp ho => ?_⟩
  · rw [dpa_len r1]
    exact Nat.le_trans hl (by decide)
  · exact q _ (W1.new p _) (e1.trans (Wx.new hp)) (.tup (PlT.of ho) (dpa_ex (Wx.new hp).s r1))
end
end CS

set_option maxRecDepth 100000
set_option maxHeartbeats 4000000
namespace CS
open PySem PySem.Spec PyProof.Rows L2

/-! ### data without lists: they stay whatever list changes -/
mutual
def imm : PyData → Bool
  | .none => true
  | .bool _ => true
  | .int _ => true
  | .str _ => true
  | .list _ => false
  | .tuple xs => immA xs
  | .dict _ => false
def immA : List PyData → Bool
  | [] => true
  | x :: xs => imm x && immA xs
end
theorem immA_ints : ∀ (ns : List Int), immA (iL ns) = true
  | [] => rfl
  | n :: ns => by show (imm (.int n) && immA (iL ns)) = true; rw [immA_ints ns]; rfl
theorem imm_pT (ns : List Int) : imm (pT ns) = true := immA_ints ns
theorem immA_all : ∀ {ds : List PyData}, (∀ d ∈ ds, imm d = true) → immA ds = true
  | [], _ => rfl
  | d :: ds, h => by
    show (imm d && immA ds) = true
    rw [h d List.mem_cons_self, immA_all fun x hx => h x (List.mem_cons_of_mem _ hx)]
    rfl
def Tx (H H' : Hp) : Prop := ∀ a xs, PlT H a xs → PlT H' a xs
theorem Tx.ex {H H' : Hp} (e : Ex H H') : Tx H H' := fun a xs h => h.ex e
theorem Tx.trans {H H1 H2 : Hp} (a : Tx H H1) (b : Tx H1 H2) : Tx H H2 := fun x o h => b x o (a x o h)
/-- a list, a dict, .. is changed -/
def notTup : HO → Bool
  | .tup _ => false
  | .frz _ _ => false
  | _ => true
section
variable {K : PySem.W.Frag} {H H' : Hp}
mutual
theorem dp_tx (e : Tx H H') : ∀ {v : V} {d : PyData}, imm d = true → Dp K H v d → Dp K H' v d
  | _, _, _, .non => .non
  | _, _, _, .bl b => .bl b
  | _, _, _, .int i => .int i
  | _, _, _, .str x => .str x
  | _, _, i, .lst h a => by cases i
  | _, _, i, .tup h a => .tup (e _ _ h) (dpa_tx e i a)
theorem dpa_tx (e : Tx H H') : ∀ {vs : List V} {ds : List PyData}, immA ds = true → DpAll K H vs ds → DpAll K H' vs ds
  | _, _, _, .nil => .nil
  | _, _, i, .cons h a => by
    have i' := Bool.and_eq_true_iff.mp i
    exact .cons (dp_tx e i'.1 h) (dpa_tx e i'.2 a)
end
end

/-! ### calls of the program's defs -/
/-- the promise of a def that takes data and gives data -/
def pSp (K : PySem.W.Frag) (R : List PyData → PyData → Prop) : Sp := fun vs H Q _ => ∃ (W : Wd) (ds : List PyData) (d : PyData), W.h = H ∧ DpAll K W.s vs ds ∧ R ds d ∧ ∀ v W', Wx W W' → Dp K W'.s v d → Q v W'.h
/-- a def of the module as others call it -/
structure Fnc (g : Gb) (x : Str) (j : Nat) (R : List PyData → PyData → Prop) : Prop where
  ex : ∃ f fd ps, FnOk g.prog g.w g.K g.mg g.base CX0 j f fd ps (pSp g.K R) ∧ g.mg x = some (.ref f) ∧ PySem.W.keepIn g.K (.ref f) = true ∧ Binds g.K fd ps []
section
variable {c : Cfg} {Γ : Gm} {e a b : Expr} {d da db dc : PyData} {es : List Expr} {ds : List PyData} {pos p p2 : Pos} {x : Str}
theorem ev_call {j : Nat} {R : List PyData → PyData → Prop} (F : Fnc c.toGb x j R) (ha : EvA c Γ (e :: es) ds) (hR : R ds d) (hj : j ≤ c.k) (hg : glB c.sc x = true)
    (hdb : (x == ("__debug__" : Str)) = false := by decide) (he : ∀ env, starEach (e :: es) env = (false, eval e env) :: starEach es env := by intro _; rfl) (hpl : ∀ env, (backTo pos (starEach es env)).any (·.1) = false := by intro _; rfl) :
    Ev c Γ (.Call (.Name x p) (e :: es) [] pos) d := fun X cf σ W Q s q => by
  obtain ⟨f, fd, ps, hF, hm, hk, hb⟩ := F.ex
  have hF' : FnOk X.prog X.w X.K X.mg X.base CX0 j f fd ps (pSp X.K R) := by rw [cf.prog, cf.w, cf.K, cf.mg, cf.base]; exact hF
  refine wE_of (pe_call hF' (cf.room.mono hj) (gl_of cf hg) (by rw [cf.mg]; exact hm) (by rw [cf.K]; exact hk) (by rw [cf.K]; exact hb) .nil pass0 pa_w hdb (he _) (hpl _)) ?_
  refine ha X cf σ W _ s fun vs W1 e1 r1 => ?_
  exact ⟨W1, ds, d, rfl, by rw [List.append_nil]; exact r1, hR, fun v W2 e2 r2 => q v W2 (e1.trans e2) r2⟩
/-! ### built-in calls -/
def C1 (K : PySem.W.Frag) (r : List V → Hp → VK → Prop) (ds : List PyData) (d : PyData) : Prop :=
  ∀ (vs : List V) (W : Wd) (Q : VK), DpAll K W.s vs ds → (∀ v W', Wx W W' → Dp K W'.s v d → Q v W'.h) → r vs W.h Q
theorem ev_blt {id : String} (hm : c.mg x = none) (hv : bootBuiltins x = some (.builtin id)) (ha : EvA c Γ (e :: es) ds) (r : ∀ X, Cf c X → ∃ r, CallR X (.builtin id) r ∧ C1 X.K r ds d) (hg : glB c.sc x = true)
    (hn : x ≠ "__name__" := by decide) (hdb : (x == ("__debug__" : Str)) = false := by decide) (he : ∀ env, starEach (e :: es) env = (false, eval e env) :: starEach es env := by intro _; rfl) (hpl : ∀ env, (backTo pos (starEach es env)).any (·.1) = false := by intro _; rfl) :
    Ev c Γ (.Call (.Name x p) (e :: es) [] pos) d := fun X cf σ W Q s q => by
  obtain ⟨r, hr, h1⟩ := r X cf
  refine wE_of (pe_callB hr (gl_of cf hg) (by rw [cf.mg]; exact hm) hv pa_w hn hdb (he _) (hpl _)) ?_
  exact ha X cf σ W _ s fun vs W1 e1 r1 => h1 vs W1 Q r1 fun v W2 e2 r2 => q v W2 (e1.trans e2) r2
theorem ev_bty {T : String} (hm : c.mg x = none) (hv : bootBuiltins x = some (.type T)) (ha : EvA c Γ (e :: es) ds) (r : ∀ X, Cf c X → ∃ r, CallR X (.type T) r ∧ C1 X.K r ds d) (hg : glB c.sc x = true)
    (hn : x ≠ "__name__" := by decide) (hdb : (x == ("__debug__" : Str)) = false := by decide) (he : ∀ env, starEach (e :: es) env = (false, eval e env) :: starEach es env := by intro _; rfl) (hpl : ∀ env, (backTo pos (starEach es env)).any (·.1) = false := by intro _; rfl) :
    Ev c Γ (.Call (.Name x p) (e :: es) [] pos) d := fun X cf σ W Q s q => by
  obtain ⟨r, hr, h1⟩ := r X cf
  refine wE_of (pe_callTy hr (gl_of cf hg) (by rw [cf.mg]; exact hm) hv pa_w hn hdb (he _) (hpl _)) ?_
  exact ha X cf σ W _ s fun vs W1 e1 r1 => h1 vs W1 Q r1 fun v W2 e2 r2 => q v W2 (e1.trans e2) r2
theorem dpa1 {K : PySem.W.Frag} {H : Hp} {vs : List V} {d : PyData} (h : DpAll K H vs [d]) : ∃ v, vs = [v] ∧ Dp K H v d := by
  cases h with
  | cons a b => cases b; exact ⟨_, rfl, a⟩
theorem dpa2 {K : PySem.W.Frag} {H : Hp} {vs : List V} {d d2 : PyData} (h : DpAll K H vs [d, d2]) : ∃ v u, vs = [v, u] ∧ Dp K H v d ∧ Dp K H u d2 := by
  cases h with
  | cons a b =>
    obtain ⟨u, rfl, h2⟩ := dpa1 b
    exact ⟨_, _, rfl, a, h2⟩
theorem ev_lenL {xs : List PyData} (ha : Ev c Γ e (.list xs)) (hm : c.mg "len" = none) (hg : glB c.sc "len" = true) (he : ∀ env, starEach [e] env = [(false, eval e env)] := by intro _; rfl) : Ev c Γ (.Call (.Name "len" p) [e] [] pos) (.int xs.length) :=
  ev_blt hm PySem.boot_len (ea_cons ha ea_nil he) (fun X cf => ⟨_, call_len_seq, fun vs W Q h q => by
    obtain ⟨v, rfl, h1⟩ := dpa1 h
    obtain ⟨a, ys, rfl, h2, h3⟩ := dp_list_inv h1
    refine ⟨a, ys, rfl, .inl (W.sl h2), ?_⟩
    rw [dpa_len h3]
    exact q _ W Wx.refl (.int _)⟩) hg (he := he)
theorem ev_lenT {xs : List PyData} (ha : Ev c Γ e (.tuple xs)) (hm : c.mg "len" = none) (hg : glB c.sc "len" = true) (he : ∀ env, starEach [e] env = [(false, eval e env)] := by intro _; rfl) : Ev c Γ (.Call (.Name "len" p) [e] [] pos) (.int xs.length) :=
  ev_blt hm PySem.boot_len (ea_cons ha ea_nil he) (fun X cf => ⟨_, call_len_seq, fun vs W Q h q => by
    obtain ⟨v, rfl, h1⟩ := dpa1 h
    obtain ⟨a, ys, rfl, h2, h3⟩ := dp_tup_inv h1
    refine ⟨a, ys, rfl, .inr (W.st h2), ?_⟩
    rw [dpa_len h3]
    exact q _ W Wx.refl (.int _)⟩) hg (he := he)
theorem ev_sum {ns : List Int} (ha : Ev c Γ e (pL ns)) (hm : c.mg "sum" = none) (hg : glB c.sc "sum" = true) (he : ∀ env, starEach [e] env = [(false, eval e env)] := by intro _; rfl) : Ev c Γ (.Call (.Name "sum" p) [e] [] pos) (.int ns.sum) :=
  ev_blt hm (by decide +kernel) (ea_cons ha ea_nil he) (fun X cf => ⟨_, cr_sum cf.calm, fun vs W Q h q => by
    obtain ⟨v, rfl, h1⟩ := dpa1 h
    obtain ⟨a, rfl, h2⟩ := dp_pL_inv h1
    exact ⟨a, ns, rfl, W.sl h2, q _ W Wx.refl (.int _)⟩⟩) hg (he := he)
theorem ev_min2 {i j : Int} (ha : Ev c Γ a (.int i)) (hb : Ev c Γ b (.int j)) (hm : c.mg "min" = none) (hg : glB c.sc "min" = true)
    (he : ∀ env, starEach [a, b] env = (false, eval a env) :: starEach [b] env := by intro _; rfl) (he2 : ∀ env, starEach [b] env = [(false, eval b env)] := by intro _; rfl) (hpl : ∀ env, (backTo pos (starEach [b] env)).any (·.1) = false := by intro _; rfl) :
    Ev c Γ (.Call (.Name "min" p) [a, b] [] pos) (.int (if j < i then j else i)) :=
  ev_blt hm (by decide +kernel) (ea_cons ha (ea_cons hb ea_nil he2) he) (fun X cf => ⟨_, call_min2 cf.calm, fun vs W Q h q => by
    obtain ⟨v, u, rfl, h1, h2⟩ := dpa2 h
    cases dp_int_inv h1
    cases dp_int_inv h2
    exact ⟨i, j, rfl, q _ W Wx.refl (.int _)⟩⟩) hg (he := he) (hpl := hpl)
theorem ev_max2 {i j : Int} (ha : Ev c Γ a (.int i)) (hb : Ev c Γ b (.int j)) (hm : c.mg "max" = none) (hg : glB c.sc "max" = true)
    (he : ∀ env, starEach [a, b] env = (false, eval a env) :: starEach [b] env := by intro _; rfl) (he2 : ∀ env, starEach [b] env = [(false, eval b env)] := by intro _; rfl) (hpl : ∀ env, (backTo pos (starEach [b] env)).any (·.1) = false := by intro _; rfl) :
    Ev c Γ (.Call (.Name "max" p) [a, b] [] pos) (.int (if j > i then j else i)) :=
  ev_blt hm (by decide +kernel) (ea_cons ha (ea_cons hb ea_nil he2) he) (fun X cf => ⟨_, call_max2 cf.calm, fun vs W Q h q => by
    obtain ⟨v, u, rfl, h1, h2⟩ := dpa2 h
    cases dp_int_inv h1
    cases dp_int_inv h2
    exact ⟨i, j, rfl, q _ W Wx.refl (.int _)⟩⟩) hg (he := he) (hpl := hpl)
theorem ev_tupleL {xs : List PyData} (ha : Ev c Γ e (.list xs)) (hm : c.mg "tuple" = none) (hg : glB c.sc "tuple" = true) (he : ∀ env, starEach [e] env = [(false, eval e env)] := by intro _; rfl) : Ev c Γ (.Call (.Name "tuple" p) [e] [] pos) (.tuple xs) :=
  ev_bty hm (by decide +kernel) (ea_cons ha ea_nil he) (fun X cf => ⟨_, call_tupF, fun vs W Q h q => by
    obtain ⟨v, rfl, h1⟩ := dpa1 h
    obtain ⟨a, ys, rfl, h2, h3⟩ := dp_list_inv h1
    exact ⟨a, ys, rfl, .inl ⟨W.sl h2, fun l o hl ho => q _ (W.new l _) (Wx.new hl) (.tup (PlT.of ho) (dpa_ex (Wx.new hl).s h3))⟩⟩⟩) hg (he := he)
theorem ev_listT {xs : List PyData} (ha : Ev c Γ e (.tuple xs)) (hm : c.mg "list" = none) (hg : glB c.sc "list" = true) (he : ∀ env, starEach [e] env = [(false, eval e env)] := by intro _; rfl) : Ev c Γ (.Call (.Name "list" p) [e] [] pos) (.list xs) :=
  ev_bty hm (by decide +kernel) (ea_cons ha ea_nil he) (fun X cf => ⟨_, call_list_of, fun vs W Q h q => by
    obtain ⟨v, rfl, h1⟩ := dpa1 h
    obtain ⟨a, ys, rfl, h2, h3⟩ := dp_tup_inv h1
    exact ⟨a, ys, rfl, .inr (W.st h2), fun l hl => q _ (W.new l _) (Wx.new hl) (.lst (SqL.of upd_same) (dpa_ex (Wx.new hl).s h3))⟩⟩) hg (he := he)
/-! ### subscripts -/
theorem atI_dp {K : PySem.W.Frag} {H : Hp} {vs : List V} {i : Int} (h : DpAll K H vs ds) (hi : atI ds i = some d) : ∃ v, atI vs i = some v ∧ Dp K H v d := by
  unfold atI at hi ⊢
  rw [dpa_len h]
  cases q : ixN ds.length i with
  | none => rw [q] at hi; cases hi
  | some j =>
    rw [q] at hi
    exact dpa_get h hi
theorem ev_ixL {xs : List PyData} {i : Int} (ha : Ev c Γ a (.list xs)) (hb : Ev c Γ b (.int i)) (hi : atI xs i = some d) (hs : PlainIx b := by exact fun _ _ => rfl) : Ev c Γ (.Subscript a b pos) d := fun X cf σ W Q s q => by
  refine wE_of (pe_ix ix_list pe_w pe_w hs) ?_
  refine ha X cf σ W _ s fun x W1 e1 r1 => ?_
  refine hb X cf σ W1 _ (s.ex e1.s) fun y W2 e2 r2 => ?_
  obtain ⟨p, us, rfl, h1, h2⟩ := dp_list_inv (dp_ex e2.s r1)
  obtain ⟨v, h3, h4⟩ := atI_dp h2 hi
  exact ⟨p, us, i, v, rfl, dp_int_inv r2, W2.sl h1, h3, q v W2 (e1.trans e2) h4⟩
theorem ev_ixT {xs : List PyData} {i : Int} (ha : Ev c Γ a (.tuple xs)) (hb : Ev c Γ b (.int i)) (hi : atI xs i = some d) (hs : PlainIx b := by exact fun _ _ => rfl) : Ev c Γ (.Subscript a b pos) d := fun X cf σ W Q s q => by
  refine wE_of (pe_ix ix_tup pe_w pe_w hs) ?_
  refine ha X cf σ W _ s fun x W1 e1 r1 => ?_
  refine hb X cf σ W1 _ (s.ex e1.s) fun y W2 e2 r2 => ?_
  obtain ⟨p, us, rfl, h1, h2⟩ := dp_tup_inv (dp_ex e2.s r1)
  obtain ⟨v, h3, h4⟩ := atI_dp h2 hi
  exact ⟨p, us, i, v, rfl, dp_int_inv r2, W2.st h1, h3, q v W2 (e1.trans e2) h4⟩
/-- a slice's end: missing, or an int -/
def EvO (c : Cfg) (Γ : Gm) (e : Option Expr) (o : Option Int) : Prop := match e, o with
  | none, none => True
  | some e, some i => Ev c Γ e (.int i)
  | _, _ => False
def cutD (xs : List PyData) (lo hi : Option Int) : List PyData := (xs.drop (HT.sIx xs.length 0 lo)).take (HT.sIx xs.length xs.length hi - HT.sIx xs.length 0 lo)
theorem cut_dp {K : PySem.W.Frag} {H : Hp} {vs : List V} {lo hi : Option Int} (h : DpAll K H vs ds) : DpAll K H (cutV vs lo hi) (cutD ds lo hi) := by
  unfold cutV cutD
  rw [dpa_len h]
  exact dpa_take _ (dpa_drop _ h)
def wO (X : Cx) (e : Option Expr) : TO := fun σ H Q => ∀ (pins : List (Addr × Obj)) (s : Shared), Inv X pins σ H s → wpAny (model X.prog X.w) X.A (evalPart e X.env) (fun u s' => ∃ o H', Inv X pins σ H' s' ∧ IsPart u o ∧ Q o H') X.xe s
theorem po_w {X : Cx} {e : Option Expr} : PO X e (wO X e) := ⟨fun pins s _ _ _ I h => h pins s I⟩
theorem wO_of {X : Cx} {e : Option Expr} {to : TO} {σ : St} {H : Hp} {Q : Option Int → Hp → Prop} (h : PO X e to) (q : to σ H Q) : wO X e σ H Q := fun pins s I => h.run pins s σ H Q I q
theorem EvO.run {e : Option Expr} {o : Option Int} (h : EvO c Γ e o) {X : Cx} (cf : Cf c X) {σ : St} {W : Wd} {Q : Option Int → Hp → Prop} (s : SlOk X.K W.s σ Γ) (q : ∀ W', Wx W W' → Q o W'.h) : wO X e σ W.h Q := by
  unfold EvO at h
  split at h
  · exact wO_of po_none (q W Wx.refl)
  · exact wO_of (po_some pe_w) (h X cf σ W _ s fun v W1 e1 r1 => ⟨_, dp_int_inv r1, q _ e1⟩)
  · exact h.elim
theorem ev_slL {xs : List PyData} {lo hi : Option Expr} {l u : Option Int} (ha : Ev c Γ a (.list xs)) (hl : EvO c Γ lo l) (hu : EvO c Γ hi u) : Ev c Γ (.Subscript a (.Slice lo hi none p2) pos) (.list (cutD xs l u)) := fun X cf σ W Q s q => by
  refine wE_of (pe_slice sl_list pe_w po_w po_w) ?_
  refine ha X cf σ W _ s fun x W1 e1 r1 => ?_
  refine hl.run cf (s.ex e1.s) fun W2 e2 => ?_
  refine hu.run cf (s.ex (e1.trans e2).s) fun W3 e3 => ?_
  obtain ⟨p, us, rfl, h1, h2⟩ := dp_list_inv (dp_ex (e2.trans e3).s r1)
  exact ⟨p, us, rfl, W3.sl h1, fun l hl => q _ (W3.new l _) (((e1.trans e2).trans e3).trans (Wx.new hl)) (.lst (SqL.of upd_same) (cut_dp (dpa_ex (Wx.new hl).s h2)))⟩
theorem ev_slT {xs : List PyData} {lo hi : Option Expr} {l u : Option Int} (ha : Ev c Γ a (.tuple xs)) (hl : EvO c Γ lo l) (hu : EvO c Γ hi u) : Ev c Γ (.Subscript a (.Slice lo hi none p2) pos) (.tuple (cutD xs l u)) := fun X cf σ W Q s q => by
  refine wE_of (pe_slice sl_tupF pe_w po_w po_w) ?_
  refine ha X cf σ W _ s fun x W1 e1 r1 => ?_
  refine hl.run cf (s.ex e1.s) fun W2 e2 => ?_
  refine hu.run cf (s.ex (e1.trans e2).s) fun W3 e3 => ?_
  obtain ⟨p, us, rfl, h1, h2⟩ := dp_tup_inv (dp_ex (e2.trans e3).s r1)
  refine ⟨p, us, rfl, W3.st h1, fun hw => ?_, fun _ l o hl ho => q _ (W3.new l _) (((e1.trans e2).trans e3).trans (Wx.new hl)) (.tup (PlT.of ho) (cut_dp (dpa_ex (Wx.new hl).s h2)))⟩
  refine q _ W3 ((e1.trans e2).trans e3) ?_
  have ec : cutD xs l u = xs := by
    unfold cutD
    rw [← dpa_len h2, hw.1, hw.2]
    rw [List.drop_zero, Nat.sub_zero, dpa_len h2, List.take_length]
  rw [ec]
  exact dp_ex (e2.trans e3).s r1
/-! ### isinstance(x, int) .. -/
def tyD : PyData → String
  | .none => "NoneType"
  | .bool _ => "bool"
  | .int _ => "int"
  | .str _ => "str"
  | .list _ => "list"
  | .tuple _ => "tuple"
  | .dict _ => "dict"
theorem tyX_dp {K : PySem.W.Frag} {H : Hp} {v : V} (h : Dp K H v d) : TyX K H v (.type (tyD d)) := by
  cases h with
  | non => exact .base .non
  | bl b => exact .base (.bl b)
  | int i => exact .base (.int i)
  | str x => exact .base (.str x)
  | lst h a =>
    rcases h with (h | ⟨o, h⟩) | ⟨o, its, n, h, hc, _⟩
    · exact .base (.lst h)
    · exact .base (.frz h)
    · exact .kList h hc
  | tup h a =>
    obtain ⟨o, _, h⟩ := h
    exact .fTuple h
theorem ev_isi {T : String} {ty : Str} {k : Bool} (ha : Ev c Γ a d) (hm : c.mg "isinstance" = none) (hg : glB c.sc "isinstance" = true) (hm2 : c.mg ty = none) (hg2 : glB c.sc ty = true) (hb : bootBuiltins ty = some (.type T))
    (hk : ∀ K : PySem.W.Frag, PySem.W.kitOne K (.type (tyD d)) (.type T) = some k) (hn : ty ≠ "__name__" := by decide) (hdb : (ty == ("__debug__" : Str)) = false := by decide)
    (he : ∀ env, starEach [a, .Name ty p2] env = (false, eval a env) :: starEach [.Name ty p2] env := by intro _; rfl) : Ev c Γ (.Call (.Name "isinstance" p) [a, .Name ty p2] [] pos) (.bool k) := fun X cf σ W Q s q => by
  refine wE_of (pe_callB call_isi (gl_of cf hg) (by rw [cf.mg]; exact hm) (by decide +kernel) (pa_cons pe_w (pa_cons (pe_bltn (v := .ty T) (gl_of cf hg2) (by rw [cf.mg]; exact hm2) hb rfl hn hdb) pa_nil) (he _)) (he := he _)) ?_
  refine ha X cf σ W _ s fun x W1 e1 r1 => ?_
  exact ⟨x, .ty T, _, _, k, rfl, .ty T, tyX_dp (W1.dp r1), hk _, q _ _ e1 (.bl _)⟩
end
end CS

set_option maxRecDepth 100000
set_option maxHeartbeats 4000000
namespace CS
open PySem PySem.Spec PyProof.Rows L2

/-! ### worlds with an owned object -/
/-- p holds o, hidden -/
def Wd.own (W : Wd) (p : Addr) (o : HO) (n : W.s p = none) : Wd := ⟨W.s, upd W.h p o, W.sub.mut n⟩
theorem Wx.own {W0 W : Wd} {p : Addr} {o : HO} {n : W.s p = none} (e : Wx W0 W) (h : W0.h p = none) : Wx W0 (W.own p o n) := ⟨e.s, e.h.mut h, fun a u q m => e.av a u q m⟩
/-- p is shown -/
def Wd.shown (W : Wd) (p : Addr) (o : HO) (h : W.h p = some o) : Wd := ⟨upd W.s p o, W.h, fun a u e => by
  by_cases q : a = p
  · subst q
    rw [upd_same] at e
    cases e
    exact h
  · rw [upd_ne q] at e
    exact W.sub a u e⟩
theorem Wx.shown {W0 W : Wd} {p : Addr} {o : HO} {h : W.h p = some o} (e : Wx W0 W) (h0 : W0.h p = none) (n : W.s p = none) : Wx W0 (W.shown p o h) := ⟨fun a u q => by
  show upd W.s p o a = some u
  rw [upd_ne (ne_of_none (e.s a u q) n)]
  exact e.s a u q, e.h, fun a u q m => by
  show upd W.s p o a = none
  rw [upd_ne (ne_of_none q h0)]
  exact e.av a u q m⟩
theorem Wx.showS {W : Wd} {p : Addr} {o : HO} {h : W.h p = some o} (n : W.s p = none) : Ex W.s (W.shown p o h).s := Ex.new n
theorem dp_shownL {K : PySem.W.Frag} {W : Wd} {p : Addr} {xs : List V} {ds : List PyData} {h : W.h p = some (.lst xs)} (n : W.s p = none) (hd : DpAll K W.s xs ds) : Dp K (W.shown p _ h).s (.ref p) (.list ds) :=
  .lst (SqL.of upd_same) (dpa_ex (Ex.new n) hd)

/-! ### walked things -/
def wI (X : Cx) (tg iter : Expr) : TI := fun σ H R => ∀ (pins : List (Addr × Obj)) (s : Shared), Inv X pins σ H s → wpAny (model X.prog X.w) X.A (eval iter X.env) (fun v s1 => wpAny (model X.prog X.w) X.A (pyIter v) (PIE X pins σ tg R) X.xe s1) X.xe s
theorem pi_w {X : Cx} {tg iter : Expr} : PI X tg iter (wI X tg iter) := ⟨fun pins s _ _ _ I h => h pins s I⟩
theorem wI_of {X : Cx} {tg iter : Expr} {wi : TI} {σ : St} {H : Hp} {R : It → Hp → Prop} (h : PI X tg iter wi) (q : wi σ H R) : wI X tg iter σ H R := fun pins s I => h.run pins s σ H R I q
structure Yl (K : PySem.W.Frag) (W1 : Wd) (J : It) (ds : List PyData) : Prop where
  go : ∀ (i : Nat) (W : Wd) (d : PyData), Wx W1 W → ds[i]? = some d → J.go i W.h
  yl : ∀ (i : Nat) (W : Wd) (x : V) (H' : Hp) (d : PyData), Wx W1 W → ds[i]? = some d → J.yld i W.h x H' → ∃ W' : Wd, W'.h = H' ∧ Wx W W' ∧ Dp K W'.s x d
  stop : ∀ (i : Nat) (W : Wd), Wx W1 W → ds.length = i → J.stop i W.h
/-- .. and nothing is made on the way -/
structure Yl0 (K : PySem.W.Frag) (W1 : Wd) (J : It) (ds : List PyData) : Prop where
  go : ∀ (i : Nat) (H : Hp) (d : PyData), Ex W1.s H → ds[i]? = some d → J.go i H
  yl : ∀ (i : Nat) (W : Wd) (x : V) (H' : Hp) (d : PyData), Ex W1.s W.s → ds[i]? = some d → J.yld i W.h x H' → H' = W.h ∧ Dp K W.s x d
  stop : ∀ (i : Nat) (H : Hp), Ex W1.s H → ds.length ≤ i → J.stop i H
theorem Yl0.y {K : PySem.W.Frag} {W1 : Wd} {J : It} {ds : List PyData} (h : Yl0 K W1 J ds) : Yl K W1 J ds := ⟨fun i W d e g => h.go i _ d (e.s.trans W.sub) g, fun i W x H' d e g y => by
  obtain ⟨rfl, h2⟩ := h.yl i W x H' d e.s g y
  exact ⟨W, rfl, Wx.refl, h2⟩, fun i W e l => h.stop i _ (e.s.trans W.sub) (Nat.le_of_eq l)⟩
def EvI (c : Cfg) (Γ : Gm) (tg iter : Expr) (ds : List PyData) : Prop :=
  ∀ X, Cf c X → ∀ (σ : St) (W : Wd) (R : It → Hp → Prop), SlOk X.K W.s σ Γ → (∀ J W', Wx W W' → Yl X.K W' J ds → R J W'.h) → wI X tg iter σ W.h R
def EvI0 (c : Cfg) (Γ : Gm) (tg iter : Expr) (ds : List PyData) : Prop :=
  ∀ X, Cf c X → ∀ (σ : St) (W : Wd) (R : It → Hp → Prop), SlOk X.K W.s σ Γ → (∀ J W', Wx W W' → Yl0 X.K W' J ds → R J W'.h) → wI X tg iter σ W.h R
section
variable {c : Cfg} {Γ : Gm} {e a b tg iter : Expr} {d da db dc : PyData} {es : List Expr} {ds : List PyData} {pos p p2 : Pos} {x : Str}
theorem EvI0.i (h : EvI0 c Γ tg iter ds) : EvI c Γ tg iter ds := fun X cf σ W R s q => h X cf σ W R s fun J W' e y => q J W' e y.y
theorem ei_list (ha : Ev c Γ a (.list ds)) : EvI0 c Γ tg a ds := fun X cf σ W R s q => by
  refine wI_of (pi_list pe_w) ?_
  refine ha X cf σ W _ s fun v W1 e1 r1 => ?_
  obtain ⟨a, xs, rfl, h1, h2⟩ := dp_list_inv r1
  refine ⟨a, rfl, ⟨xs, W1.sl h1⟩, q _ W1 e1 ⟨fun i H d e g => ?_, fun i W x H' d e g y => ?_, fun i H e hl => ?_⟩⟩
  · obtain ⟨v, h3, h4⟩ := dpa_get h2 g
    exact ⟨xs, v, sl_ex e h1, h3⟩
  · obtain ⟨v, h3, h4⟩ := dpa_get h2 g
    obtain ⟨y1, y2⟩ := y
    have h5 := y2 xs (W.sl (sl_ex e h1))
    rw [h3] at h5
    cases h5
    exact ⟨y1, dp_ex e h4⟩
  · exact ⟨xs, sl_ex e h1, by rw [dpa_len h2]; exact hl⟩
theorem ei_tup (ha : Ev c Γ a (.tuple ds)) : EvI0 c Γ tg a ds := fun X cf σ W R s q => by
  refine wI_of (pi_tup pe_w) ?_
  refine ha X cf σ W _ s fun v W1 e1 r1 => ?_
  obtain ⟨a, xs, rfl, h1, h2⟩ := dp_tup_inv r1
  refine ⟨a, rfl, ⟨xs, W1.st h1⟩, q _ W1 e1 ⟨fun i H d e g => ?_, fun i W x H' d e g y => ?_, fun i H e hl => ?_⟩⟩
  · obtain ⟨v, h3, h4⟩ := dpa_get h2 g
    exact ⟨xs, v, st_ex e h1, h3⟩
  · obtain ⟨v, h3, h4⟩ := dpa_get h2 g
    obtain ⟨y1, y2⟩ := y
    have h5 := y2 xs (W.st (st_ex e h1))
    rw [h3] at h5
    cases h5
    exact ⟨y1, dp_ex e h4⟩
  · exact ⟨xs, st_ex e h1, by rw [dpa_len h2]; exact hl⟩
/-- lo, lo + 1, .. : n of them -/
def rgD (lo : Int) (n : Nat) : List Int := (List.range n).map fun i => lo + (i : Nat)
theorem rgD_len (lo : Int) (n : Nat) : (rgD lo n).length = n := by unfold rgD; simp
theorem rgD_get {lo : Int} {n i : Nat} {z : Int} (h : (rgD lo n)[i]? = some z) : i < n ∧ z = lo + i := by
  unfold rgD at h
  rw [List.getElem?_map] at h
  cases q : (List.range n)[i]? with
  | none => rw [q] at h; cases h
  | some j =>
    rw [q] at h
    obtain ⟨h1, h2⟩ := List.getElem?_eq_some_iff.mp q
    rw [List.getElem_range] at h2
    rw [List.length_range] at h1
    subst h2
    exact ⟨h1, (Option.some.inj h).symm⟩
theorem yl_range {K : PySem.W.Frag} {W1 : Wd} {lo : Int} {n : Nat} : Yl0 K W1 (Itr lo n) (iL (rgD lo n)) := by
  have key : ∀ {i : Nat} {d : PyData}, (iL (rgD lo n))[i]? = some d → i < n ∧ d = .int (lo + i) := fun {i d} h => by
    rw [List.getElem?_map] at h
    cases q : (rgD lo n)[i]? with
    | none => rw [q] at h; cases h
    | some z =>
      rw [q] at h
      obtain ⟨h1, h2⟩ := rgD_get q
      subst h2
      exact ⟨h1, (Option.some.inj h).symm⟩
  refine ⟨fun i H d _ g => (key g).1, fun i W x H' d _ g y => ?_, fun i H _ hl => ?_⟩
  · obtain ⟨y1, y2⟩ := y
    subst y2
    rw [(key g).2]
    exact ⟨y1, .int _⟩
  · rw [List.length_map, rgD_len] at hl
    exact hl
theorem ei_range1 {n : Int} (ha : Ev c Γ a (.int n)) (hm : c.mg "range" = none) (hg : glB c.sc "range" = true) (h1 : -(2 ^ 62) ≤ n) (h2 : n < 2 ^ 62) (hs : ∀ env, starEach [a] env = [(false, eval a env)] := by intro _; rfl) : EvI0 c Γ tg (.Call (.Name "range" p) [a] [] pos) (iL (rgD 0 n.toNat)) := fun X cf σ W R s q => by
  refine wI_of (pi_range1 (gl_of cf hg) (by rw [cf.mg]; exact hm) pa_w (hs _)) ?_
  refine ea_cons ha ea_nil hs X cf σ W _ s fun vs W1 e1 r1 => ?_
  obtain ⟨v, rfl, h3⟩ := dpa1 r1
  cases dp_int_inv h3
  exact ⟨n, rfl, h1, h2, q _ W1 e1 (by
    have := yl_range (K := X.K) (W1 := W1) (lo := 0) (n := n.toNat)
    exact this)⟩
theorem ei_range2 {lo hi : Int} (ha : Ev c Γ a (.int lo)) (hb : Ev c Γ b (.int hi)) (hm : c.mg "range" = none) (hg : glB c.sc "range" = true) (h1 : -(2 ^ 62) ≤ lo) (h2 : lo < 2 ^ 62) (h3 : -(2 ^ 62) ≤ hi) (h4 : hi < 2 ^ 62)
    (hs : ∀ env, starEach [a, b] env = [(false, eval a env), (false, eval b env)] := by intro _; rfl) (hs2 : ∀ env, starEach [b] env = [(false, eval b env)] := by intro _; rfl) : EvI0 c Γ tg (.Call (.Name "range" p) [a, b] [] pos) (iL (rgD lo (hi - lo).toNat)) := fun X cf σ W R s q => by
  refine wI_of (pi_range2 (gl_of cf hg) (by rw [cf.mg]; exact hm) pa_w (hs _) (hs2 _)) ?_
  refine ea_cons ha (ea_cons hb ea_nil hs2) (fun env => by rw [hs, hs2]) X cf σ W _ s fun vs W1 e1 r1 => ?_
  obtain ⟨v, u, rfl, h5, h6⟩ := dpa2 r1
  cases dp_int_inv h5
  cases dp_int_inv h6
  exact ⟨lo, hi, rfl, ⟨h1, h2, h3, h4⟩, q _ W1 e1 yl_range⟩
end

/-! ### targets -/
def wG (X : Cx) (tg : Expr) : TG := fun v σ H Q => ∀ (pins : List (Addr × Obj)) (s : Shared) (u : Value), Inv X pins σ H s → RelV v u → wpAny (model X.prog X.w) X.A (assign tg X.env u) (fun _ s' => ∃ σ' H', Inv X pins σ' H' s' ∧ Q σ' H') X.xe s
theorem pg_w {X : Cx} {tg : Expr} : PG X tg (wG X tg) := ⟨fun pins s _ _ _ u _ I r h => h pins s u I r⟩
theorem wG_of {X : Cx} {tg : Expr} {g : TG} {v : V} {σ : St} {H : Hp} {Q : St → Hp → Prop} (h : PG X tg g) (q : g v σ H Q) : wG X tg v σ H Q := fun pins s u I r => h.run pins s σ H v u Q I r q
/-- a comprehension's target: own slots alone are stored -/
def TgOk (c : Cfg) (scope : Scope) (tg : Expr) (vs : List Nat) (Γ : Gm) (d : PyData) (Γ' : Gm) : Prop :=
  ∀ X, Cf c X → (∀ x, scope.names.lookup x = some .cell → X.fn x = true) → ∀ (v : V) (σ : St) (W : Wd) (Q : St → Hp → Prop), SlOk X.K W.s σ Γ → Dp X.K W.s v d → (∀ σ', SlOk X.K W.s σ' Γ' → wipe σ' vs = wipe σ vs → Q σ' W.h) → wG X tg v σ W.h Q
theorem wipe_set {i : Nat} {v : Option V} : ∀ {vs : List Nat} {σ : St}, i ∈ vs → wipe (σ.set i v) vs = wipe σ vs
  | [], σ, h => by cases h
  | j :: vs, σ, h => by
    show (wipe (σ.set i v) vs).set j none = (wipe σ vs).set j none
    by_cases e : i ∈ vs
    · rw [wipe_set e]
    · rcases List.mem_cons.mp h with rfl | h
      · have q : ∀ {vs : List Nat} {σ : St}, i ∉ vs → wipe (σ.set i v) vs = (wipe σ vs).set i v := by
          intro vs
          induction vs with
          | nil => intro σ _; rfl
          | cons k r ih =>
            intro σ hk
            have h1 : i ≠ k := fun e => hk (by rw [e]; exact List.mem_cons_self)
            have h2 : i ∉ r := fun e => hk (List.mem_cons_of_mem _ e)
            show (wipe (σ.set i v) r).set k none = ((wipe σ r).set k none).set i v
            rw [ih h2, List.set_comm _ _ h1]
        rw [q e, List.set_set]
      · exact absurd h e
section
variable {c : Cfg} {Γ : Gm} {scope : Scope} {d da db : PyData} {vs : List Nat} {pos p p1 p2 : Pos} {x y : Str}
/-- local or cell in the block's own scope -/
def ownB (scope : Scope) (x : Str) : Bool := match scope.names.lookup x with
  | some .local => true
  | some .cell => true
  | _ => false
theorem tg_name (i : Nat) (hN : c.N[i]? = some x) (hi : i ∈ vs) (hl : locB c.sc x = true) (ho : ownB scope x = true) (hlc : scope.names.lookup x = some .local → c.sc.names.lookup x = some .local) : TgOk c scope (.Name x pos) vs Γ d (Γ.set i (some d)) :=
  fun X cf hf v σ W Q s r q => by
    refine wG_of (pg_name (i := i) cf.nd (by rw [cf.N]; exact hN) (by rw [cf.sc]; exact loc_of hl) ?_) ?_
    · unfold ownB at ho
      cases h : scope.names.lookup x with
      | none => rw [h] at ho; cases ho
      | some k =>
        rw [h] at ho
        cases k with
        | «local» => exact .inr (by rw [cf.sc]; exact hlc h)
        | cell => exact .inl (hf x h)
        | free => cases ho
        | globalImplicit => cases ho
        | globalExplicit => cases ho
    · exact q _ (s.set i r) (wipe_set hi)
theorem tg_pair {k : Nat} (i j : Nat) (hN : c.N[i]? = some x) (hN2 : c.N[j]? = some y) (hi : i ∈ vs) (hj : j ∈ vs) (hl : locB c.sc x = true) (hl2 : locB c.sc y = true) (ho : ownB scope x = true) (ho2 : ownB scope y = true)
    (hlc : scope.names.lookup x = some .local → c.sc.names.lookup x = some .local) (hlc2 : scope.names.lookup y = some .local → c.sc.names.lookup y = some .local) : TgOk c scope (.Tuple [.Name x p1, .Name y p2] k pos) vs Γ (.tuple [da, db]) ((Γ.set i (some da)).set j (some db)) :=
  fun X cf hf v σ W Q s r q => by
    refine wG_of (pg_tup cf.calm (pgs_cons pg_w (pgs_cons pg_w pgs_nil))) ?_
    obtain ⟨a, xs, rfl, h1, h2⟩ := dp_tup_inv r
    obtain ⟨u1, u2, rfl, h3, h4⟩ := dpa2 h2
    refine ⟨a, _, rfl, W.st h1, rfl, u1, [u2], rfl, ?_⟩
    refine tg_name (vs := vs) (scope := scope) (Γ := Γ) i hN hi hl ho hlc X cf hf u1 σ W _ s h3 fun σ1 s1 w1 => ⟨u2, [], rfl, ?_⟩
    refine tg_name (vs := vs) (scope := scope) (Γ := Γ.set i (some da)) j hN2 hj hl2 ho2 hlc2 X cf hf u2 σ1 W _ s1 h4 fun σ2 s2 w2 => ⟨rfl, ?_⟩
    exact q σ2 s2 (w2.trans w1)
end

/-! ### list comprehensions -/
def wTs (X : Cx) (ifs : List Expr) : TT := fun σ H Q => ∀ (pins : List (Addr × Obj)) (s : Shared), Inv X pins σ H s → wpAny (model X.prog X.w) X.A (forIn ifs true fun c r => if r = true then do let ok ← isTrue c X.env (eval c X.env); pure (ForInStep.yield ok) else pure (ForInStep.yield r)) (TP X pins σ Q) X.xe s
theorem pts_w {X : Cx} {ifs : List Expr} : PTs X ifs (wTs X ifs) := ⟨fun pins s _ _ _ I h => h pins s I⟩
theorem wTs_of {X : Cx} {ifs : List Expr} {tt : TT} {σ : St} {H : Hp} {Q : Bool → Hp → Prop} (h : PTs X ifs tt) (q : tt σ H Q) : wTs X ifs σ H Q := fun pins s I => h.run pins s σ H Q I q
def EvTs (c : Cfg) (Γ : Gm) (ifs : List Expr) (b : Bool) : Prop :=
  ∀ X, Cf c X → ∀ (σ : St) (W : Wd) (Q : Bool → Hp → Prop), SlOk X.K W.s σ Γ → (∀ W', Wx W W' → Q b W'.h) → wTs X ifs σ W.h Q
theorem ets_nil {c : Cfg} {Γ : Gm} : EvTs c Γ [] true := fun X cf σ W Q s q => wTs_of pts_nil (q W Wx.refl)
theorem ets_one {c : Cfg} {Γ : Gm} {e : Expr} {b : Bool} (h : EvT c Γ e b) : EvTs c Γ [e] b := fun X cf σ W Q s q => wTs_of (pts_one pt_w) (h X cf σ W Q s q)
/-- the slots of own names forgotten -/
def wipeG (Γ : Gm) : List Nat → Gm
  | [] => Γ
  | v :: vs => (wipeG Γ vs).set v none
theorem SlOk.wipe {K : PySem.W.Frag} {H : Hp} {σ : St} {Γ : Gm} (h : SlOk K H σ Γ) : ∀ vs : List Nat, SlOk K H (wipe σ vs) (wipeG Γ vs)
  | [] => h
  | v :: vs => (h.wipe vs).setAny v
/-- the config within a block -/
def Cfg.blk (c : Cfg) (scope : Scope) : Cfg := { c with sc := relS scope c.sc }
theorem cf_blk {c : Cfg} {X : Cx} (cf : Cf c X) {s : Shared} {H : Hp} {scope : Scope} {cl : List (Str × Addr)} {C : Addr} {fp : List Addr} : Cf (c.blk scope) (X.blk s H scope (compEnvC scope cl C X.env) fp) :=
  ⟨cf.prog, cf.w, cf.K, cf.mg, cf.base, cf.N, by show relabel scope X.env = relS scope c.sc; rw [← cf.sc]; rfl, cf.calm, cf.room, cf.nd⟩
theorem own_lk {scope sc : Scope} {x : Str} (ho : ownB scope x = true) : locB (relS scope sc) x = true ∧ (scope.names.lookup x = some .local → (relS scope sc).names.lookup x = some .local) := by
  unfold ownB at ho
  cases h : scope.names.lookup x with
  | none => rw [h] at ho; cases ho
  | some k =>
    rw [h] at ho
    have key : k ≠ .free → (relS scope sc).names.lookup x = some k := fun hk => lookup_relS_keep hk h
    cases k with
    | «local» => exact ⟨by unfold locB; rw [key (by intro z; cases z)], fun _ => key (by intro z; cases z)⟩
    | cell => exact ⟨by unfold locB; rw [key (by intro z; cases z)], fun z => by cases z⟩
    | free => cases ho
    | globalImplicit => cases ho
    | globalExplicit => cases ho
theorem tgB {c : Cfg} {Γ : Gm} {scope : Scope} {d : PyData} {vs : List Nat} {pos : Pos} {x : Str} (i : Nat) (hN : c.N[i]? = some x) (hi : i ∈ vs) (ho : ownB scope x = true) : TgOk (c.blk scope) scope (.Name x pos) vs Γ d (Γ.set i (some d)) :=
  tg_name (c := c.blk scope) i hN hi (own_lk ho).1 ho (own_lk ho).2
theorem tgB2 {c : Cfg} {Γ : Gm} {scope : Scope} {da db : PyData} {vs : List Nat} {pos p1 p2 : Pos} {x y : Str} {k : Nat} (i j : Nat) (hN : c.N[i]? = some x) (hN2 : c.N[j]? = some y) (hi : i ∈ vs) (hj : j ∈ vs) (ho : ownB scope x = true) (ho2 : ownB scope y = true) : TgOk (c.blk scope) scope (.Tuple [.Name x p1, .Name y p2] k pos) vs Γ (.tuple [da, db]) ((Γ.set i (some da)).set j (some db)) :=
  tg_pair (c := c.blk scope) i j hN hN2 hi hj (own_lk ho).1 (own_lk ho2).1 ho ho2 (own_lk ho).2 (own_lk ho2).2
theorem take_succ' {α : Type} {l : List α} {i : Nat} {x : α} (h : l[i]? = some x) : l.take (i + 1) = l.take i ++ [x] := by
  rw [List.take_add_one, h]; rfl
/-- e gives a new list -/
def EvL (c : Cfg) (Γ : Gm) (e : Expr) (ds : List PyData) : Prop :=
  ∀ X, Cf c X → ∀ (σ : St) (W : Wd) (Q : VK), SlOk X.K W.s σ Γ → (∀ p xs W', Wx W W' → W.h p = none → W'.s p = some (.lst xs) → DpAll X.K W'.s xs ds → Q (.ref p) W'.h) → wE X e σ W.h Q
theorem EvL.ev {c : Cfg} {Γ : Gm} {e : Expr} {ds : List PyData} (h : EvL c Γ e ds) : Ev c Γ e (.list ds) := fun X cf σ W Q s q => h X cf σ W Q s fun p xs W' e1 _ hp hd => q _ W' e1 (.lst (SqL.of hp) hd)
section
variable {c : Cfg} {Γ : Gm} {e a b tg iter elt : Expr} {d da db dc : PyData} {es ifs : List Expr} {ds : List PyData} {pos p p2 : Pos} {x : Str} {scope : Scope}
/-- the readings of a comprehension's parts within its block -/
abbrev gBlk (X : Cx) (scope : Scope) (tg : Expr) : TG := fun v σ H Q => ∀ (s : Shared) (H0 : Hp) (C : Addr) (cl : List (Str × Addr)) (fp : List Addr), wG (X.blk s H0 scope (compEnvC scope cl C X.env) fp) tg v σ H Q
abbrev tBlk (X : Cx) (scope : Scope) (ifs : List Expr) : TT := fun σ H Q => ∀ (s : Shared) (H0 : Hp) (C : Addr) (cl : List (Str × Addr)) (fp : List Addr), wTs (X.blk s H0 scope (compEnvC scope cl C X.env) fp) ifs σ H Q
abbrev eBlk (X : Cx) (scope : Scope) (elt : Expr) : TE := fun σ H Q => ∀ (s : Shared) (H0 : Hp) (C : Addr) (cl : List (Str × Addr)) (fp : List Addr), wE (X.blk s H0 scope (compEnvC scope cl C X.env) fp) elt σ H Q
theorem lc_read {own : List (Str × Nat)} {P : PyData → Bool} {f : PyData → PyData} {bind : PyData → Gm} {wi : TI} (hl : ds.length ≤ 100000)
    (hg : ∀ d ∈ ds, TgOk (c.blk scope) scope tg (own.map (·.2)) (wipeG Γ (own.map (·.2))) d (bind d))
    (ht : ∀ d ∈ ds, EvTs (c.blk scope) (bind d) ifs (P d)) (he : ∀ d ∈ ds, P d = true → Ev (c.blk scope) (bind d) elt (f d)) (X : Cx) (cf : Cf c X) (σ : St) (W : Wd) (Q : VK) (s : SlOk X.K W.s σ Γ) (hi : ∀ R : It → Hp → Prop, (∀ J W', Wx W W' → Yl X.K W' J ds → R J W'.h) → wi σ W.h R)
    (q : ∀ p xs W', Wx W W' → W.h p = none → W'.s p = some (.lst xs) → DpAll X.K W'.s xs ((ds.filter P).map f) → Q (.ref p) W'.h) : tLc wi (gBlk X scope tg) (tBlk X scope ifs) (eBlk X scope elt) (own.map (·.2)) σ W.h Q := by
  refine hi _ fun J W1 e1 y => ?_
  intro D hD
  refine ⟨fun i m H => m = ds.length - i ∧ i ≤ ds.length ∧ ∃ Wi : Wd, Wi.h = H ∧ Wx W1 Wi ∧ Wi.s D = none ∧ ∃ vs, H D = some (.lst vs) ∧ DpAll X.K Wi.s vs (((ds.take i).filter P).map f), ⟨ds.length, by omega, by omega, W1.own D (.lst []) (W1.free hD), rfl, Wx.refl.own hD, W1.free hD, [], upd_same, .nil⟩, ?_⟩
  rintro i m H ⟨rfl, hi', Wi, rfl, x1, nD, vs, hv, hd⟩
  by_cases hlt : i < ds.length
  · obtain ⟨d, hdi⟩ : ∃ d, ds[i]? = some d := ⟨ds[i], List.getElem?_eq_getElem hlt⟩
    have hmem : d ∈ ds := List.mem_of_getElem? hdi
    refine .inr ⟨y.go i Wi d x1 hdi, fun H' => ∃ Wi : Wd, Wi.h = H' ∧ Wx W1 Wi ∧ Wi.s D = none ∧ ∃ vs, H' D = some (.lst vs) ∧ DpAll X.K Wi.s vs (((ds.take (i + 1)).filter P).map f), fun H' hn => ⟨ds.length - (i + 1), by omega, rfl, hlt, hn⟩, fun v H' hy => ?_⟩
    obtain ⟨W2, rfl, x2, hv2⟩ := y.yl i Wi v H' d x1 hdi hy
    intro s0 H0 C cl fp
    have sw : SlOk X.K W2.s (wipe σ (own.map (·.2))) (wipeG Γ (own.map (·.2))) := ((s.ex e1.s).ex (x1.trans x2).s).wipe _
    refine hg d hmem _ (cf_blk cf) (fun x hx => by show (scope.names.lookup x == some .cell) = true; rw [hx]; rfl) v _ W2 _ sw hv2 fun σ2 s2 w2 => ⟨w2.trans (by
      have : ∀ (vs : List Nat) (σ : St), wipe (wipe σ vs) vs = wipe σ vs := by
        intro vs σ
        apply List.ext_getElem?
        intro j
        by_cases hj : j ∈ vs
        · have key : ∀ (σ : St), j < σ.length → (wipe σ vs)[j]? = some none := by
            intro σ hlen
            have h0 : j < (wipe σ vs).length := by rw [wipe_length]; exact hlen
            cases q : (wipe σ vs)[j]? with
            | none => rw [List.getElem?_eq_none_iff] at q; omega
            | some o =>
              cases o with
              | none => rfl
              | some z => exact absurd hj (wipe_some q).2
          by_cases hlen : j < σ.length
          · rw [key _ (by rw [wipe_length]; exact hlen), key _ hlen]
          · rw [List.getElem?_eq_none (by rw [wipe_length, wipe_length]; omega), List.getElem?_eq_none (by rw [wipe_length]; omega)]
        · rw [wipe_out hj]
      exact this _ _), ?_⟩
    intro s0 H0 C cl fp
    refine ht d hmem _ (cf_blk cf) σ2 W2 _ s2 fun W3 x3 => ?_
    have hD3 : W3.h D = some (.lst vs) := x3.h _ _ (x2.h _ _ hv)
    have n2 : W2.s D = none := x2.av _ _ hv nD
    have n3 : W3.s D = none := x3.av _ _ (x2.h _ _ hv) n2
    by_cases hP : P d = true
    · rw [if_pos hP]
      intro s0 H0 C cl fp
      refine he d hmem hP _ (cf_blk cf) σ2 W3 _ (s2.ex x3.s) fun z W4 x4 hz => ?_
      have hD4 : W4.h D = some (.lst vs) := x4.h _ _ hD3
      have n4 : W4.s D = none := x4.av _ _ hD3 n3
      refine ⟨vs, hD4, ?_, W4.own D _ n4, rfl, (((x1.trans x2).trans x3).trans x4).own hD, n4, _, upd_same, ?_⟩
      · rw [dpa_len hd, List.length_map]
        have h1 : ((ds.take i).filter P).length ≤ (ds.take i).length := List.length_filter_le _ _
        have h2 : (ds.take i).length ≤ i := by rw [List.length_take]; omega
        exact Nat.lt_of_lt_of_le (show _ < 100001 by omega) (by decide)
      · rw [take_succ' hdi, List.filter_append, List.map_append]
        refine dpa_app (dpa_ex (((x2.trans x3).trans x4).s) hd) ?_
        rw [List.filter_cons_of_pos hP]
        exact .cons hz .nil
    · rw [if_neg hP]
      refine ⟨W3, rfl, (x1.trans x2).trans x3, n3, vs, hD3, ?_⟩
      rw [take_succ' hdi, List.filter_append, List.map_append]
      rw [show List.filter P [d] = [] by rw [List.filter_cons_of_neg hP]; rfl]
      rw [List.map_nil, List.append_nil]
      exact dpa_ex (x2.trans x3).s hd
  · have ei : i = ds.length := by omega
    subst ei
    refine .inl ⟨y.stop _ Wi x1 rfl, ?_⟩
    rw [List.take_length] at hd
    exact q D vs (Wi.shown D _ hv) (e1.trans (x1.shown hD nD)) (e1.h.back hD) upd_same (dpa_ex (Ex.new nD) hd)
theorem el_lc {own : List (Str × Nat)} {P : PyData → Bool} {f : PyData → PyData} {bind : PyData → Gm} (hi : EvI c Γ tg iter ds) (hl : ds.length ≤ 100000) (hb : blkC c.N c.sc scope own = true)
    (hg : ∀ d ∈ ds, TgOk (c.blk scope) scope tg (own.map (·.2)) (wipeG Γ (own.map (·.2))) d (bind d))
    (ht : ∀ d ∈ ds, EvTs (c.blk scope) (bind d) ifs (P d)) (he : ∀ d ∈ ds, P d = true → Ev (c.blk scope) (bind d) elt (f d))
    (hs : ∀ env x, foldedSetIterable iter env x = pure x := by intro _ _; rfl) : EvL c Γ (.ListComp elt [⟨tg, iter, ifs, 0⟩] scope pos) ((ds.filter P).map f) := fun X cf σ W Q s q => by
  refine wE_of (pe_lc (own := own) (wi := wI X tg iter) (g := gBlk X scope tg) (tt := tBlk X scope ifs) (te := eBlk X scope elt)
    cf.calm cf.nd pi_w (blkOk_by (by rw [cf.N, cf.sc]; exact hb)) (fun s H0 C cl fp => ⟨fun pins s' σ H v u Q I r h => h s H0 C cl fp pins s' u I r⟩)
    (fun s H0 C cl fp => ⟨fun pins s' σ H Q I h => h s H0 C cl fp pins s' I⟩) (fun s H0 C cl fp => ⟨fun pins s' σ H Q I h => h s H0 C cl fp pins s' I⟩) (hs _)) ?_
  exact lc_read hl hg ht he X cf σ W Q s (fun R h => hi X cf σ W R s h) q
theorem ev_lc {own : List (Str × Nat)} {P : PyData → Bool} {f : PyData → PyData} {bind : PyData → Gm} (hi : EvI c Γ tg iter ds) (hl : ds.length ≤ 100000) (hb : blkC c.N c.sc scope own = true)
    (hg : ∀ d ∈ ds, TgOk (c.blk scope) scope tg (own.map (·.2)) (wipeG Γ (own.map (·.2))) d (bind d))
    (ht : ∀ d ∈ ds, EvTs (c.blk scope) (bind d) ifs (P d)) (he : ∀ d ∈ ds, P d = true → Ev (c.blk scope) (bind d) elt (f d))
    (hs : ∀ env x, foldedSetIterable iter env x = pure x := by intro _ _; rfl) : Ev c Γ (.ListComp elt [⟨tg, iter, ifs, 0⟩] scope pos) (.list ((ds.filter P).map f)) := (el_lc hi hl hb hg ht he hs).ev
end
end CS

set_option maxRecDepth 100000
set_option maxHeartbeats 4000000
namespace CS
open PySem PySem.Spec PyProof.Rows L2

/-! ### statements -/
structure Sf (c : Cfg) (X : Cx) : Prop extends Cf c X where
  own : PassesOwn (model X.prog X.w) X.A X.env X.xe
  fn : ∀ x, X.fn x = true
  stk : X.stack = X.env :: X.outer
  fr : X.env.frame = some X.env.locals
section
variable {c : Cfg} {X : Cx} {Γ : Gm} {e a b tg iter : Expr} {d da db dc : PyData} {es : List Expr} {ds : List PyData} {pos p p2 : Pos} {x y : Str} {st : Stmt} {ss body orelse : List Stmt} {D : Ends} {σ : St} {W : Wd}
theorem ss_nil (h : D.nx σ W.h) : wSs X [] D σ W.h := wSs_of pss_nil h
theorem ss_cons (h : wS X st { D with nx := wSs X ss D } σ W.h) : wSs X (st :: ss) D σ W.h := wSs_of (pss_cons ps_w pss_w) h
/-- x = e -/
theorem st_set (sf : Sf c X) (hs : SlOk X.K W.s σ Γ) (i : Nat) (he : Ev c Γ e d) (hN : c.N[i]? = some x) (hl : locB c.sc x = true)
    (h : ∀ v W', Wx W W' → Dp X.K W'.s v d → SlOk X.K W'.s (σ.set i (some v)) (Γ.set i (some d)) → wSs X ss D (σ.set i (some v)) W'.h)
    (hw : ∀ env, swapsWith e (some (.Name x p)) pos.line env = pure false := by intro _; rfl) : wSs X (.Assign [.Name x p] e pos :: ss) D σ W.h := by
  refine ss_cons (wS_of (ps_set (i := i) sf.nd (by rw [sf.N]; exact hN) (by rw [sf.sc]; exact loc_of hl) pe_w (hw _) (.inl (sf.fn _))) ?_)
  exact he X sf.toCf σ W _ hs fun v W1 e1 r1 => h v W1 e1 r1 ((hs.ex e1.s).set i r1)
/-- x = [.. for ..] -/
theorem st_setLc {elt : Expr} {ifs : List Expr} {scope : Scope} {own : List (Str × Nat)} {P : PyData → Bool} {f : PyData → PyData} {bind : PyData → Gm} {spos : Pos} (sf : Sf c X) (hs : SlOk X.K W.s σ Γ) (i : Nat) (hN : c.N[i]? = some x) (hlo : c.sc.names.lookup x = some .local) (hk : c.sc.kind = .function)
    (hsc : (scope.names.any fun (n, k) => n == x && (k == .local || k == .cell)) = false) (hi : EvI c Γ tg iter ds) (hl : ds.length ≤ 100000) (hb : blkC c.N c.sc scope own = true)
    (hg : ∀ d ∈ ds, TgOk (c.blk scope) scope tg (own.map (·.2)) (wipeG Γ (own.map (·.2))) d (bind d))
    (ht : ∀ d ∈ ds, EvTs (c.blk scope) (bind d) ifs (P d)) (he : ∀ d ∈ ds, P d = true → Ev (c.blk scope) (bind d) elt (f d))
    (h : ∀ v W', Wx W W' → Dp X.K W'.s v (.list ((ds.filter P).map f)) → SlOk X.K W'.s (σ.set i (some v)) (Γ.set i (some (.list ((ds.filter P).map f)))) → wSs X ss D (σ.set i (some v)) W'.h)
    (hln : (p.line == pos.line) = true := by rfl) (hsI : ∀ env x, foldedSetIterable iter env x = pure x := by intro _ _; rfl) : wSs X (.Assign [.Name x p] (.ListComp elt [⟨tg, iter, ifs, 0⟩] scope pos) spos :: ss) D σ W.h := by
  refine ss_cons (wS_of (ps_setLc (i := i) (own := own) (wi := wI X tg iter) (g := gBlk X scope tg) (tt := tBlk X scope ifs) (te := eBlk X scope elt) sf.calm sf.nd (by rw [sf.N]; exact hN) (by rw [sf.sc]; exact hlo) (sw_true (by rw [sf.sc]; exact hk) (by rw [sf.sc]; exact hlo) hln hsc) pi_w (blkOk_by (by rw [sf.N, sf.sc]; exact hb))
    (fun s H0 C cl fp => ⟨fun pins s' σ H v u Q I r h => h s H0 C cl fp pins s' u I r⟩) (fun s H0 C cl fp => ⟨fun pins s' σ H Q I h => h s H0 C cl fp pins s' I⟩) (fun s H0 C cl fp => ⟨fun pins s' σ H Q I h => h s H0 C cl fp pins s' I⟩) (hsI _)) ?_)
  refine lc_read hl hg ht he X sf.toCf σ W _ hs (fun R h => hi X sf.toCf σ W R hs h) fun q xs W1 e1 _ hq hd => ?_
  have hv : Dp X.K W1.s (.ref q) (.list ((ds.filter P).map f)) := .lst (SqL.of hq) hd
  exact h _ W1 e1 hv ((hs.ex e1.s).set i hv)
/-- an expression by itself -/
theorem st_expr (sf : Sf c X) (hs : SlOk X.K W.s σ Γ) (he : Ev c Γ e d) (h : ∀ W', Wx W W' → SlOk X.K W'.s σ Γ → wSs X ss D σ W'.h) (hw : ∀ env, swapsWith e none pos.line env = pure false := by intro _; rfl) : wSs X (.Expr e pos :: ss) D σ W.h := by
  refine ss_cons (wS_of (ps_expr pe_w (hw _)) ?_)
  exact he X sf.toCf σ W _ hs fun v W1 e1 r1 => h W1 e1 (hs.ex e1.s)
theorem st_ret (sf : Sf c X) (hs : SlOk X.K W.s σ Γ) (he : Ev c Γ e d) (h : ∀ v W', Wx W W' → Dp X.K W'.s v d → D.rt v W'.h) : wSs X (.Return (some e) pos :: ss) D σ W.h := by
  refine ss_cons (wS_of (ps_ret pe_w) ?_)
  exact he X sf.toCf σ W _ hs fun v W1 e1 r1 => h v W1 e1 r1
theorem st_if (sf : Sf c X) (hs : SlOk X.K W.s σ Γ) {k : Bool} (hc : EvT c Γ e k) (h1 : k = true → ∀ W', Wx W W' → SlOk X.K W'.s σ Γ → wSs X body { D with nx := wSs X ss D } σ W'.h) (h2 : k = false → ∀ W', Wx W W' → SlOk X.K W'.s σ Γ → wSs X orelse { D with nx := wSs X ss D } σ W'.h) :
    wSs X (.If e body orelse pos :: ss) D σ W.h := by
  refine ss_cons (wS_of (ps_if pt_w pss_w pss_w) ?_)
  refine hc X sf.toCf σ W _ hs fun W1 e1 => ?_
  cases k with
  | true => rw [if_pos rfl]; exact h1 rfl W1 e1 (hs.ex e1.s)
  | false => rw [if_neg Bool.false_ne_true]; exact h2 rfl W1 e1 (hs.ex e1.s)
theorem st_pass (h : wSs X ss D σ W.h) : wSs X (.Pass pos :: ss) D σ W.h := ss_cons (wS_of ps_pass h)
/-- for x in ..: x in slot i -/
theorem st_for (sf : Sf c X) (hs : SlOk X.K W.s σ Γ) (i : Nat) (hi : EvI0 c Γ (.Name x p) iter ds) (hN : c.N[i]? = some x) (hl : locB c.sc x = true)
    (h : ∀ W1, Wx W W1 → ∃ I : Nat → St → Wd → Prop, I 0 σ W1 ∧ (∀ n σ' W', I n σ' W' → Ex W1.s W'.s) ∧
      (∀ (n : Nat) d σ' W' v, ds[n]? = some d → I n σ' W' → Dp X.K W'.s v d →
        wSs X body { D with nx := fun σ2 H2 => ∃ W2 : Wd, W2.h = H2 ∧ I (n + 1) σ2 W2, ct := fun σ2 H2 => ∃ W2 : Wd, W2.h = H2 ∧ I (n + 1) σ2 W2, bk := wSs X ss D } (σ'.set i (some v)) W'.h) ∧
      (∀ σ' W', I ds.length σ' W' → wSs X ss D σ' W'.h))
    (hf : ∀ env x, foldedSetIterable iter env x = pure x := by intro _ _; rfl) : wSs X (.For (.Name x p) iter body [] pos :: ss) D σ W.h := by
  refine ss_cons (wS_of (ps_for sf.own sf.calm pi_w (pg_name (i := i) sf.nd (by rw [sf.N]; exact hN) (by rw [sf.sc]; exact loc_of hl) (.inl (sf.fn _))) pss_w (hf _)) ?_)
  refine hi X sf.toCf σ W _ hs fun J W1 e1 y => ?_
  obtain ⟨I, h0, hx, ht, hd⟩ := h W1 e1
  refine ⟨fun n m σ H => m = ds.length - n ∧ n ≤ ds.length ∧ ∃ W' : Wd, W'.h = H ∧ I n σ W', ⟨ds.length, by omega, by omega, W1, rfl, h0⟩, ?_⟩
  rintro n m σ' H ⟨rfl, hn, W', rfl, hI⟩
  have x1 := hx n σ' W' hI
  by_cases hlt : n < ds.length
  · obtain ⟨d, hdi⟩ : ∃ d, ds[n]? = some d := ⟨ds[n], List.getElem?_eq_getElem hlt⟩
    refine .inr ⟨y.go n _ d (x1.trans W'.sub) hdi, fun σ2 H2 => ∃ W2 : Wd, W2.h = H2 ∧ I (n + 1) σ2 W2, fun σ2 H2 hq => ⟨ds.length - (n + 1), by omega, rfl, hlt, hq⟩, fun v H' hy => ?_⟩
    obtain ⟨rfl, hv⟩ := y.yl n W' v H' d x1 hdi hy
    exact ht n d σ' W' v hdi hI hv
  · have en : n = ds.length := by omega
    subst en
    exact .inl ⟨y.stop _ _ (x1.trans W'.sub) (Nat.le_refl _), hd σ' W' hI⟩
/-- while: J the invariant, mu the measure, t the test's answer -/
theorem st_while (sf : Sf c X) (J : Nat → St → Wd → Prop) (m0 : Nat) (h0 : J m0 σ W)
    (h : ∀ m σ' W', J m σ' W' → ∃ (Γ : Gm) (k : Bool), SlOk X.K W'.s σ' Γ ∧ EvT c Γ e k ∧ ∀ W2, Wx W' W2 → if k = true then
        wSs X body { D with nx := fun σ2 H2 => ∃ m2 W3, m2 < m ∧ Wd.h W3 = H2 ∧ J m2 σ2 W3, ct := fun σ2 H2 => ∃ m2 W3, m2 < m ∧ Wd.h W3 = H2 ∧ J m2 σ2 W3, bk := wSs X ss D } σ' W2.h
      else wSs X ss D σ' W2.h) : wSs X (.While e body [] pos :: ss) D σ W.h := by
  refine ss_cons (wS_of (ps_while sf.own pt_w pss_w) ?_)
  refine ⟨fun m σ H => ∃ W : Wd, W.h = H ∧ J m σ W, ⟨m0, W, rfl, h0⟩, ?_⟩
  rintro m σ' H ⟨W', rfl, hJ⟩
  obtain ⟨Γ, k, hs, ht, hk⟩ := h m σ' W' hJ
  refine ht X sf.toCf σ' W' _ hs fun W2 e2 => ?_
  have q := hk W2 e2
  cases k with
  | true =>
    rw [if_pos rfl] at q ⊢
    exact ⟨fun σ2 H2 => ∃ m2 W3, m2 < m ∧ Wd.h W3 = H2 ∧ J m2 σ2 W3, fun σ2 H2 ⟨m2, W3, a, b, c⟩ => ⟨m2, a, W3, b, c⟩, q⟩
  | false =>
    rw [if_neg Bool.false_ne_true] at q ⊢
    exact q
end

/-! ### a def -/
/-- the def st stands behind the top under its name -/
def DefOk (g : Gb) (x : Str) (st : Stmt) : Prop := ∃ f fd, FunD g.K x x (defArgs st) (defBody st) (defScope st) [] [] f fd ∧ g.mg x = some (.ref f)
/-- how its parameters bind -/
def BindOk (x : Str) (st : Stmt) (ps : List Str) : Prop := ∀ (kV doc pm : Value) (an : Option Addr) (cdv ct : Value) (us : List Value), us.length = ps.length → bindArgs (PySem.W.fnOf x x (defArgs st) (defBody st) (defScope st) .none kV doc pm an cdv ct) ⟨us, []⟩ = pure (ps.zip us)
theorem fn_core {g : Gb} {x : Str} {st : Stmt} {N ps : List Str} {k : Nat} {R : List PyData → PyData → Prop} {f : Addr} {fd : FuncData} (F : FunD g.K x x (defArgs st) (defBody st) (defScope st) [] [] f fd) (S : FnScope N ps (defScope st))
    (len : ∀ ds d, R ds d → ds.length = ps.length)
    (body : ∀ X, Sf ⟨g, N, defScope st, k⟩ X → ∀ (ds : List PyData) (d : PyData) (σ : St) (W : Wd) (Q : VK), R ds d → SlOk X.K W.s σ (ds.map some ++ List.replicate (N.length - ds.length) none) → (∀ v W', Wx W W' → Dp X.K W'.s v d → Q v W'.h) →
      wSs X (defBody st) { nx := fun _ H' => Q .non H', rt := Q } σ W.h) : FnOk g.prog g.w g.K g.mg g.base CX0 (k + 1) f fd ps (pSp g.K R) := by
  have hlen : ps.length ≤ N.length := by
    have q := S.pre
    have e := congrArg List.length q
    rw [List.length_take] at e
    omega
  refine F.ok S (fun vs H Q E h => ?_) (fun cdv A outer s H vs Q E hr h => ?_)
  · obtain ⟨W, ds, d, _, h1, h2, _⟩ := h
    rw [dpa_len h1]
    exact len ds d h2
  · obtain ⟨W, ds, d, rfl, h1, h2, h3⟩ := h
    refine ⟨_, pss_w, ?_⟩
    exact body _ ⟨⟨rfl, rfl, rfl, rfl, rfl, rfl, rfl, rfl, hr, S.nd⟩, passes_of rfl, fun _ => rfl, rfl, rfl⟩ ds d _ W Q h2 (SlOk.start h1 (by rw [len ds d h2]; exact hlen)) h3
theorem fnc_of {g : Gb} {x : Str} {st : Stmt} {N ps : List Str} {k : Nat} {R : List PyData → PyData → Prop} (DF : DefOk g x st) (S : FnScope N ps (defScope st)) (hb : BindOk x st ps)
    (len : ∀ ds d, R ds d → ds.length = ps.length)
    (body : ∀ X, Sf ⟨g, N, defScope st, k⟩ X → ∀ (ds : List PyData) (d : PyData) (σ : St) (W : Wd) (Q : VK), R ds d → SlOk X.K W.s σ (ds.map some ++ List.replicate (N.length - ds.length) none) → (∀ v W', Wx W W' → Dp X.K W'.s v d → Q v W'.h) →
      wSs X (defBody st) { nx := fun _ H' => Q .non H', rt := Q } σ W.h) : Fnc g x (k + 1) R := by
  obtain ⟨f, fd, F, hm⟩ := DF
  exact ⟨f, fd, ps, fn_core F S len body, hm, F.kp, F.bindsN hb⟩
/-! ### the end of a law -/
def Rlaw : List PyData → PyData → Prop := fun ds d => ∃ ns : List Int, ds = [pL ns] ∧ ns.length ≤ 63 ∧ d = .bool true
/-- the law's def keeps the law -/
def LawOk (g : Gb) (st : Stmt) (k : Nat) : Prop := ∀ f fd, FunD g.K "law" "law" (defArgs st) (defBody st) (defScope st) [] [] f fd → FnOk g.prog g.w g.K g.mg g.base CX0 k f fd ["script"] (pSp g.K Rlaw)
theorem law_of {g : Gb} {st : Stmt} {N : List Str} {k : Nat} (S : FnScope N ["script"] (defScope st))
    (body : ∀ X, Sf ⟨g, N, defScope st, k⟩ X → ∀ (ns : List Int) (σ : St) (W : Wd) (Q : VK), ns.length ≤ 63 → SlOk X.K W.s σ (some (pL ns) :: List.replicate (N.length - 1) none) → (∀ v W', Wx W W' → Dp X.K W'.s v (.bool true) → Q v W'.h) →
      wSs X (defBody st) { nx := fun _ H' => Q .non H', rt := Q } σ W.h) : LawOk g st (k + 1) := fun f fd F =>
  fn_core F S (fun ds d h => by obtain ⟨ns, rfl, _⟩ := h; rfl) fun X sf ds d σ W Q hR hs q => by
    obtain ⟨ns, rfl, hl, rfl⟩ := hR
    exact body X sf ns σ W Q hl hs q
theorem law_end {P : Program} {w : World} {K : PySem.W.Frag} {h : Heap} {mg : Str → Option Value} {fa : Addr} {k : Nat} {st : Stmt} (F : ∀ base : Heap, LawOk ⟨P, w, K, mg, base⟩ st k) (DF : DefOk ⟨P, w, K, mg, h⟩ "law" st) (hb : BindOk "law" st ["script"]) (KX : K.In h) (hmg : mg ("law" : Str) = some (.ref fa)) :
    ∃ (K : PySem.W.Frag) (fd : FuncData) (sp : Sp), K.In h ∧ (∀ (s : Shared) (u : Value), BindsTo s fd ⟨[u], []⟩ [("script", u)]) ∧
        (∀ (H : Hp) (a : Addr) (ns : List Int), ns.length ≤ 63 → Only H → SqL K H a (ns.map V.int) → sp [.ref a] H (fun v _ => v = .bl true) fun _ _ _ => False) ∧
        ∀ base : Heap, K.In base → base.Ns mainGlobals mg → FnOk P w K mg base CX0 k fa fd ["script"] sp := by
  obtain ⟨f, fd, FD, hf⟩ := DF
  have e := hmg.symm.trans hf
  cases e
  have b := FunD.bindsA (ps := ["script"]) FD hb
  refine ⟨K, fd, pSp K Rlaw, KX, fun s u => b s [u] rfl, fun H a ns hl _ hS => ?_, fun base _ _ => F base _ _ FD⟩
  exact ⟨Wd.all H, [pL ns], .bool true, rfl, .cons (.lst hS (dpa_of_ints ns)) .nil, ⟨ns, rfl, hl, rfl⟩, fun v W' _ hv => dp_bool_inv hv⟩
end CS
namespace CS
open PySem PySem.Spec PyProof.Rows L2
/-! ### isinstance by data -/
def isInt : PyData → Bool
  | .int _ => true
  | .bool _ => true
  | _ => false
def isBool : PyData → Bool
  | .bool _ => true
  | _ => false
def isTup : PyData → Bool
  | .tuple _ => true
  | _ => false
def isStr : PyData → Bool
  | .str _ => true
  | _ => false
theorem kit_int : ∀ (d : PyData) (K : PySem.W.Frag), PySem.W.kitOne K (.type (tyD d)) (.type "int") = some (isInt d)
  | .none, _ => kit_ty (a := "NoneType") (b := "int") (r := false) (by decide +kernel)
  | .bool _, _ => kit_ty (a := "bool") (b := "int") (r := true) (by decide +kernel)
  | .int _, _ => kit_ty (a := "int") (b := "int") (r := true) (by decide +kernel)
  | .str _, _ => kit_ty (a := "str") (b := "int") (r := false) (by decide +kernel)
  | .list _, _ => kit_ty (a := "list") (b := "int") (r := false) (by decide +kernel)
  | .tuple _, _ => kit_ty (a := "tuple") (b := "int") (r := false) (by decide +kernel)
  | .dict _, _ => kit_ty (a := "dict") (b := "int") (r := false) (by decide +kernel)
theorem kit_bool : ∀ (d : PyData) (K : PySem.W.Frag), PySem.W.kitOne K (.type (tyD d)) (.type "bool") = some (isBool d)
  | .none, _ => kit_ty (a := "NoneType") (b := "bool") (r := false) (by decide +kernel)
  | .bool _, _ => kit_ty (a := "bool") (b := "bool") (r := true) (by decide +kernel)
  | .int _, _ => kit_ty (a := "int") (b := "bool") (r := false) (by decide +kernel)
  | .str _, _ => kit_ty (a := "str") (b := "bool") (r := false) (by decide +kernel)
  | .list _, _ => kit_ty (a := "list") (b := "bool") (r := false) (by decide +kernel)
  | .tuple _, _ => kit_ty (a := "tuple") (b := "bool") (r := false) (by decide +kernel)
  | .dict _, _ => kit_ty (a := "dict") (b := "bool") (r := false) (by decide +kernel)
theorem kit_tup : ∀ (d : PyData) (K : PySem.W.Frag), PySem.W.kitOne K (.type (tyD d)) (.type "tuple") = some (isTup d)
  | .none, _ => kit_ty (a := "NoneType") (b := "tuple") (r := false) (by decide +kernel)
  | .bool _, _ => kit_ty (a := "bool") (b := "tuple") (r := false) (by decide +kernel)
  | .int _, _ => kit_ty (a := "int") (b := "tuple") (r := false) (by decide +kernel)
  | .str _, _ => kit_ty (a := "str") (b := "tuple") (r := false) (by decide +kernel)
  | .list _, _ => kit_ty (a := "list") (b := "tuple") (r := false) (by decide +kernel)
  | .tuple _, _ => kit_ty (a := "tuple") (b := "tuple") (r := true) (by decide +kernel)
  | .dict _, _ => kit_ty (a := "dict") (b := "tuple") (r := false) (by decide +kernel)
theorem kit_str : ∀ (d : PyData) (K : PySem.W.Frag), PySem.W.kitOne K (.type (tyD d)) (.type "str") = some (isStr d)
  | .none, _ => kit_ty (a := "NoneType") (b := "str") (r := false) (by decide +kernel)
  | .bool _, _ => kit_ty (a := "bool") (b := "str") (r := false) (by decide +kernel)
  | .int _, _ => kit_ty (a := "int") (b := "str") (r := false) (by decide +kernel)
  | .str _, _ => kit_ty (a := "str") (b := "str") (r := true) (by decide +kernel)
  | .list _, _ => kit_ty (a := "list") (b := "str") (r := false) (by decide +kernel)
  | .tuple _, _ => kit_ty (a := "tuple") (b := "str") (r := false) (by decide +kernel)
  | .dict _, _ => kit_ty (a := "dict") (b := "str") (r := false) (by decide +kernel)
theorem boot_int' : bootBuiltins "int" = some (.type "int") := by decide +kernel
theorem boot_bool' : bootBuiltins "bool" = some (.type "bool") := by decide +kernel
theorem boot_tup' : bootBuiltins "tuple" = some (.type "tuple") := by decide +kernel
theorem boot_str' : bootBuiltins "str" = some (.type "str") := by decide +kernel
section
variable {c : Cfg} {Γ : Gm} {a b : Expr} {es : List Expr} {d : PyData} {pos p p2 : Pos}
theorem ev_andF (ha : Ev c Γ a (.bool false)) : Ev c Γ (.BoolOp .And (a :: b :: es) pos) (.bool false) := ev_and (j := false) ha fun h => by cases h
theorem ev_orT (ha : Ev c Γ a (.bool true)) : Ev c Γ (.BoolOp .Or (a :: b :: es) pos) (.bool true) := ev_or (j := false) ha fun h => by cases h
theorem ew_andF (ha : EvT c Γ a false) : EvW c Γ (.BoolOp .And (a :: b :: es) pos) false := ew_and (j := false) ha fun h => by cases h
theorem ew_orT (ha : EvT c Γ a true) : EvW c Γ (.BoolOp .Or (a :: b :: es) pos) true := ew_or (j := false) ha fun h => by cases h
theorem ev_isInt (ha : Ev c Γ a d) (hm : c.mg "isinstance" = none) (hg : glB c.sc "isinstance" = true) (hm2 : c.mg "int" = none) (hg2 : glB c.sc "int" = true)
    (he : ∀ env, starEach [a, .Name "int" p2] env = (false, eval a env) :: starEach [.Name "int" p2] env := by intro _; rfl) : Ev c Γ (.Call (.Name "isinstance" p) [a, .Name "int" p2] [] pos) (.bool (isInt d)) := ev_isi ha hm hg hm2 hg2 boot_int' (kit_int d) (he := he)
theorem ev_isBool (ha : Ev c Γ a d) (hm : c.mg "isinstance" = none) (hg : glB c.sc "isinstance" = true) (hm2 : c.mg "bool" = none) (hg2 : glB c.sc "bool" = true)
    (he : ∀ env, starEach [a, .Name "bool" p2] env = (false, eval a env) :: starEach [.Name "bool" p2] env := by intro _; rfl) : Ev c Γ (.Call (.Name "isinstance" p) [a, .Name "bool" p2] [] pos) (.bool (isBool d)) := ev_isi ha hm hg hm2 hg2 boot_bool' (kit_bool d) (he := he)
theorem ev_isTup (ha : Ev c Γ a d) (hm : c.mg "isinstance" = none) (hg : glB c.sc "isinstance" = true) (hm2 : c.mg "tuple" = none) (hg2 : glB c.sc "tuple" = true)
    (he : ∀ env, starEach [a, .Name "tuple" p2] env = (false, eval a env) :: starEach [.Name "tuple" p2] env := by intro _; rfl) : Ev c Γ (.Call (.Name "isinstance" p) [a, .Name "tuple" p2] [] pos) (.bool (isTup d)) := ev_isi ha hm hg hm2 hg2 boot_tup' (kit_tup d) (he := he)
theorem ev_isStr (ha : Ev c Γ a d) (hm : c.mg "isinstance" = none) (hg : glB c.sc "isinstance" = true) (hm2 : c.mg "str" = none) (hg2 : glB c.sc "str" = true)
    (he : ∀ env, starEach [a, .Name "str" p2] env = (false, eval a env) :: starEach [.Name "str" p2] env := by intro _; rfl) : Ev c Γ (.Call (.Name "isinstance" p) [a, .Name "str" p2] [] pos) (.bool (isStr d)) := ev_isi ha hm hg hm2 hg2 boot_str' (kit_str d) (he := he)
end
end CS

set_option maxRecDepth 100000
set_option maxHeartbeats 4000000
namespace CS
open PySem PySem.Spec PyProof.Rows L2

/-! ### defs that may raise -/
inductive Oc where
  | ok (d : PyData)
  | er (x : Str)
def xEnd (g : Gb) (W : Wd) (Q : VK) (E : Value → Option Addr → Hp → Prop) : Oc → Prop
  | .ok d => ∀ v W', Wx W W' → Dp g.K W'.s v d → Q v W'.h
  | .er x => ∀ C W', g.mg x = some (.ref C) → Wx W W' → E (.ref C) none W'.h
def xSp (g : Gb) (R : List PyData → Oc → Prop) : Sp := fun vs H Q E => ∃ (W : Wd) (ds : List PyData) (o : Oc), W.h = H ∧ DpAll g.K W.s vs ds ∧ R ds o ∧ xEnd g W Q E o
structure Fnx (g : Gb) (x : Str) (j : Nat) (R : List PyData → Oc → Prop) : Prop where
  ex : ∃ f fd ps, FnOk g.prog g.w g.K g.mg g.base (L2.CX g.prog g.w) j f fd ps (xSp g R) ∧ g.mg x = some (.ref f) ∧ PySem.W.keepIn g.K (.ref f) = true ∧ Binds g.K fd ps []
/-- e raises an exception of the class that the module calls x -/
def Er (c : Cfg) (Γ : Gm) (e : Expr) (x : Str) : Prop :=
  ∀ X, Cf c X → ∀ Wr : WX, Takes X Wr → ∀ (σ : St) (W : Wd) (Q : VK), SlOk X.K W.s σ Γ → (∀ C W', c.mg x = some (.ref C) → Wx W W' → Wr (.ref C) none σ W'.h) → wE X e σ W.h Q
section
variable {c : Cfg} {Γ : Gm} {e a b : Expr} {d da db dc : PyData} {es : List Expr} {ds : List PyData} {pos p p2 : Pos} {x y : Str}
theorem ev_callX {j : Nat} {R : List PyData → Oc → Prop} (F : Fnx c.toGb x j R) (ha : EvA c Γ (e :: es) ds) (hR : R ds (.ok d)) (hj : j ≤ c.k) (hg : glB c.sc x = true)
    (hdb : (x == ("__debug__" : Str)) = false := by decide) (he : ∀ env, starEach (e :: es) env = (false, eval e env) :: starEach es env := by intro _; rfl) (hpl : ∀ env, (backTo pos (starEach es env)).any (·.1) = false := by intro _; rfl) :
    Ev c Γ (.Call (.Name x p) (e :: es) [] pos) d := fun X cf σ W Q s q => by
  obtain ⟨f, fd, ps, hF, hm, hk, hb⟩ := F.ex
  have hF' : FnOk X.prog X.w X.K X.mg X.base (L2.CX X.prog X.w) j f fd ps (xSp c.toGb R) := by rw [cf.prog, cf.w, cf.K, cf.mg, cf.base]; exact hF
  refine wE_of (pe_call hF' (cf.room.mono hj) (gl_of cf hg) (by rw [cf.mg]; exact hm) (by rw [cf.K]; exact hk) (by rw [cf.K]; exact hb) .nil passL pa_w hdb (he _) (hpl _)) ?_
  refine ha X cf σ W _ s fun vs W1 e1 r1 => ?_
  refine ⟨W1, ds, .ok d, rfl, by rw [List.append_nil, ← cf.K]; exact r1, hR, fun v W2 e2 r2 => q v W2 (e1.trans e2) (by rw [cf.K]; exact r2)⟩
theorem er_call {j : Nat} {R : List PyData → Oc → Prop} (F : Fnx c.toGb x j R) (ha : EvA c Γ (e :: es) ds) (hR : R ds (.er y)) (hj : j ≤ c.k) (hg : glB c.sc x = true)
    (hdb : (x == ("__debug__" : Str)) = false := by decide) (he : ∀ env, starEach (e :: es) env = (false, eval e env) :: starEach es env := by intro _; rfl) (hpl : ∀ env, (backTo pos (starEach es env)).any (·.1) = false := by intro _; rfl) :
    Er c Γ (.Call (.Name x p) (e :: es) [] pos) y := fun X cf Wr tk σ W Q s q => by
  obtain ⟨f, fd, ps, hF, hm, hk, hb⟩ := F.ex
  have hF' : FnOk X.prog X.w X.K X.mg X.base (L2.CX X.prog X.w) j f fd ps (xSp c.toGb R) := by rw [cf.prog, cf.w, cf.K, cf.mg, cf.base]; exact hF
  refine wE_of (pe_callS (E := WE Wr) hF' (cf.room.mono hj) (gl_of cf hg) (by rw [cf.mg]; exact hm) (by rw [cf.K]; exact hk) (by rw [cf.K]; exact hb) (fun σ => passAt tk σ) pa_w hdb (he _) (hpl _)) ?_
  refine ha X cf σ W _ s fun vs W1 e1 r1 => ?_
  exact ⟨W1, ds, .er y, rfl, by rw [← cf.K]; exact r1, hR, fun C W2 hC e2 => q C W2 hC (e1.trans e2)⟩
end

/-! ### statements that raise -/
section
variable {c : Cfg} {X : Cx} {Γ : Gm} {e a b tg iter : Expr} {d da db dc : PyData} {es : List Expr} {ds : List PyData} {pos p p2 p3 : Pos} {x y : Str} {st : Stmt} {ss body orelse : List Stmt} {D : Ends} {σ : St} {W : Wd} {Wr : WX}
theorem st_exprE (sf : Sf c X) (tk : Takes X Wr) (hs : SlOk X.K W.s σ Γ) (he : Er c Γ e y) (h : ∀ C W', c.mg y = some (.ref C) → Wx W W' → Wr (.ref C) none σ W'.h) (hw : ∀ env, swapsWith e none pos.line env = pure false := by intro _; rfl) : wSs X (.Expr e pos :: ss) D σ W.h :=
  ss_cons (wS_of (ps_expr pe_w (hw _)) (he X sf.toCf Wr tk σ W _ hs h))
theorem st_retE (sf : Sf c X) (tk : Takes X Wr) (hs : SlOk X.K W.s σ Γ) (he : Er c Γ e y) (h : ∀ C W', c.mg y = some (.ref C) → Wx W W' → Wr (.ref C) none σ W'.h) : wSs X (.Return (some e) pos :: ss) D σ W.h :=
  ss_cons (wS_of (ps_ret pe_w) (he X sf.toCf Wr tk σ W _ hs h))
theorem st_setE (sf : Sf c X) (tk : Takes X Wr) (hs : SlOk X.K W.s σ Γ) (i : Nat) (he : Er c Γ e y) (hN : c.N[i]? = some x) (hl : locB c.sc x = true) (h : ∀ C W', c.mg y = some (.ref C) → Wx W W' → Wr (.ref C) none σ W'.h)
    (hw : ∀ env, swapsWith e (some (.Name x p)) pos.line env = pure false := by intro _; rfl) : wSs X (.Assign [.Name x p] e pos :: ss) D σ W.h :=
  ss_cons (wS_of (ps_set (i := i) sf.nd (by rw [sf.N]; exact hN) (by rw [sf.sc]; exact loc_of hl) pe_w (hw _) (.inl (sf.fn _))) (he X sf.toCf Wr tk σ W _ hs h))
/-- a class of the package's exceptions -/
structure Xc (g : Gb) (x : Str) (C : Addr) : Prop where
  gC : g.mg x = some (.ref C)
  xC : PySem.W.excIn g.K C [.type "ValueError", .type "Exception", .type "BaseException", .type "object"] "ValueError.__new__" = true
  kC : PySem.W.keepIn g.K (.ref C) = true
  bC : PySem.W.subIn g.K (.ref C) (.type "BaseException") = some true
  tC : PySem.W.typeIn g.K (.ref C) = some (.type "type")
theorem st_raise {m : Str} {j : Nat} {C : Addr} (sf : Sf c X) (tk : Takes X Wr) (xc : Xc c.toGb x C) (hg : glB c.sc x = true) (h : Wr (.ref C) none σ W.h) (hdb : (x == ("__debug__" : Str)) = false := by decide) :
    wSs X (.Raise (some (.Call (.Name x p) [.Constant (.str m) j p2] [] p3)) none pos :: ss) D σ W.h :=
  ss_cons (wS_of (ps_raise sf.calm tk (pmk_own PySem.F.excBase_ValueError (by rw [sf.K]; exact xc.xC) (by rw [sf.mg]; exact xc.gC) (by rw [sf.K]; exact xc.kC) (raises_own (by rw [sf.K]; exact xc.bC) (by rw [sf.K]; exact xc.tC)) (gl_of sf.toCf hg) hdb)) h)
end
/-! ### a def that may raise -/
theorem fnx_of {g : Gb} {x : Str} {st : Stmt} {N ps : List Str} {k : Nat} {R : List PyData → Oc → Prop} (DF : DefOk g x st) (S : FnScope N ps (defScope st)) (hb : BindOk x st ps)
    (len : ∀ ds d, R ds d → ds.length = ps.length)
    (body : ∀ X, Sf ⟨g, N, defScope st, k⟩ X → ∀ E : XK, Takes X (fun cls d _ H => E cls d H) → ∀ (ds : List PyData) (o : Oc) (σ : St) (W : Wd) (Q : VK), R ds o → SlOk X.K W.s σ (ds.map some ++ List.replicate (N.length - ds.length) none) → xEnd g W Q E o →
      wSs X (defBody st) { nx := fun _ H' => Q .non H', rt := Q } σ W.h) : Fnx g x (k + 1) R := by
  obtain ⟨f, fd, F, hm⟩ := DF
  refine ⟨f, fd, ps, ?_, hm, F.kp, F.bindsN hb⟩
  have hlen : ps.length ≤ N.length := by
    have q := S.pre
    have e := congrArg List.length q
    rw [List.length_take] at e
    omega
  refine F.ok S (fun vs H Q E h => ?_) (fun cdv A outer s H vs Q E hr h => ?_)
  · obtain ⟨W, ds, d, _, h1, h2, _⟩ := h
    rw [dpa_len h1]
    exact len ds d h2
  · obtain ⟨W, ds, d, rfl, h1, h2, h3⟩ := h
    refine ⟨_, pss_w, ?_⟩
    exact body _ ⟨⟨rfl, rfl, rfl, rfl, rfl, rfl, rfl, rfl, hr, S.nd⟩, passes_of rfl, fun _ => rfl, rfl, rfl⟩ E (takes_of rfl rfl rfl rfl) ds d _ W Q h2 (SlOk.start h1 (by rw [len ds d h2]; exact hlen)) h3
end CS

set_option maxRecDepth 100000
set_option maxHeartbeats 4000000
namespace CS
open PySem PySem.Spec PyProof.Rows L2

/-! ### an owned list -/
structure OwL (K : PySem.W.Frag) (W : Wd) (q : Addr) (ds : List PyData) : Prop where
  n : W.s q = none
  at_ : ∃ vs, W.h q = some (.lst vs) ∧ DpAll K W.s vs ds
theorem OwL.ex {K : PySem.W.Frag} {W W1 : Wd} {q : Addr} {ds : List PyData} (h : OwL K W q ds) (e : Wx W W1) : OwL K W1 q ds := by
  obtain ⟨vs, h1, h2⟩ := h.at_
  exact ⟨e.av _ _ h1 h.n, vs, e.h _ _ h1, dpa_ex e.s h2⟩
/-- shown, it is a list as others -/
theorem OwL.show_ {K : PySem.W.Frag} {W0 W : Wd} {q : Addr} {ds : List PyData} (h : OwL K W q ds) (x0 : Wx W0 W) (n0 : W0.h q = none) : ∃ W' : Wd, W'.h = W.h ∧ Wx W0 W' ∧ Ex W.s W'.s ∧ Dp K W'.s (.ref q) (.list ds) := by
  obtain ⟨vs, h1, h2⟩ := h.at_
  exact ⟨W.shown q _ h1, rfl, x0.shown n0 h.n, Ex.new h.n, dp_shownL h.n h2⟩
section
variable {c : Cfg} {X : Cx} {Γ : Gm} {e a b tg iter : Expr} {d da db dc : PyData} {es : List Expr} {ds xs : List PyData} {pos p p2 p3 : Pos} {x y : Str} {st : Stmt} {ss body orelse : List Stmt} {D : Ends} {σ : St} {W W0 : Wd} {q : Addr}
/-- x = [] -/
theorem st_newL (sf : Sf c X) (hs : SlOk X.K W.s σ Γ) (i : Nat) (hN : c.N[i]? = some x) (hl : locB c.sc x = true)
    (h : ∀ q W2, W.h q = none → OwL X.K W2 q [] → Wx W W2 → SlOk X.K W2.s (σ.set i (some (.ref q))) (Γ.set i none) → wSs X ss D (σ.set i (some (.ref q))) W2.h) : wSs X (.Assign [.Name x p] (.List [] p2) pos :: ss) D σ W.h := by
  refine ss_cons (wS_of (ps_set (i := i) sf.nd (by rw [sf.N]; exact hN) (by rw [sf.sc]; exact loc_of hl) (pe_lst pa_nil) rfl (.inl (sf.fn _))) ?_)
  refine ⟨Nat.zero_le _, fun q hq => ?_⟩
  exact h q (W.own q (.lst []) (W.free hq)) hq ⟨W.free hq, [], upd_same, .nil⟩ (Wx.refl.own hq) (hs.setAny i)
/-- x.append(e) -/
theorem st_app (sf : Sf c X) (hs : SlOk X.K W.s σ Γ) (i : Nat) (hi : σ[i]? = some (some (.ref q))) (ho : OwL X.K W q ds) (x0 : Wx W0 W) (n0 : W0.h q = none) (he : Ev c Γ e d) (hN : c.N[i]? = some x) (hv : visB c.sc x = true) (hl : ds.length < 100000)
    (h : ∀ W2, Wx W0 W2 → Ex W.s W2.s → OwL X.K W2 q (ds ++ [d]) → SlOk X.K W2.s σ Γ → wSs X ss D σ W2.h)
    (hline : (p2.endLine == p3.line) = true := by rfl) (hsE : ∀ env, starEach [e] env = [(false, eval e env)] := by intro _; rfl) (hw : ∀ env, swapsWith (.Call (.Attribute (.Name x p) "append" p2) [e] [] p3) none pos.line env = pure false := by intro _; rfl)
    (hb : ∀ env, attributeBase (.Name x p) "append" env (eval (.Name x p) env) = eval (.Name x p) env := by intro _; rfl) (hd : (x == ("__debug__" : Str)) = false := by decide) (hcd : (x == ("__classdict__" : Str)) = false := by decide)
    (hfew : ∀ env, ((backTo p3 (starEach [e] env)).all (fun x => !x.1) && (backToKw p3 (keywordEach [] env)).all (fun x => x.1.isSome) && decide ([e].length + ([] : List Keyword).length + (if ([] : List Keyword).isEmpty then 0 else 1) < 30)) = true := by intro _; rfl) :
    wSs X (.Expr (.Call (.Attribute (.Name x p) "append" p2) [e] [] p3) pos :: ss) D σ W.h := by
  refine ss_cons (wS_of (ps_expr (pe_bm PySem.F.plainAttrs_list PySem.F.slot_list_append PySem.F.type_list_append mt_append (pe_var (i := i) (by rw [sf.N]; exact hN) (by rw [sf.sc]; exact vis_of hv) hd hcd) (pa_cons pe_w pa_nil (hsE _)) (hb _) (hfew _) hline (hsE _) rfl) (hw _)) ?_)
  obtain ⟨vs, h1, h2⟩ := ho.at_
  refine ⟨_, hi, .inl ⟨rfl, _, SqL.of h1⟩, ?_⟩
  refine he X sf.toCf σ W _ hs fun v W1 e1 r1 => ?_
  have n1 : W1.s q = none := e1.av _ _ h1 ho.n
  refine ⟨q, vs, v, rfl, rfl, e1.h _ _ h1, ?_, ?_⟩
  · rw [dpa_len h2]
    exact Nat.lt_of_lt_of_le hl (by decide)
  · exact h (W1.own q (.lst (vs ++ [v])) n1) ((x0.trans e1).own n0) e1.s ⟨n1, _, upd_same, dpa_app (dpa_ex e1.s h2) (.cons r1 .nil)⟩ (hs.ex e1.s)
/-- x.extend(e), e a new list -/
theorem st_ext (sf : Sf c X) (hs : SlOk X.K W.s σ Γ) (i : Nat) (hi : σ[i]? = some (some (.ref q))) (ho : OwL X.K W q ds) (x0 : Wx W0 W) (n0 : W0.h q = none) (he : EvL c Γ e xs) (hN : c.N[i]? = some x) (hv : visB c.sc x = true) (hl : ds.length + xs.length ≤ 100000)
    (h : ∀ W2, Wx W0 W2 → Ex W.s W2.s → OwL X.K W2 q (ds ++ xs) → SlOk X.K W2.s σ Γ → wSs X ss D σ W2.h)
    (hline : (p2.endLine == p3.line) = true := by rfl) (hsE : ∀ env, starEach [e] env = [(false, eval e env)] := by intro _; rfl) (hw : ∀ env, swapsWith (.Call (.Attribute (.Name x p) "extend" p2) [e] [] p3) none pos.line env = pure false := by intro _; rfl)
    (hb : ∀ env, attributeBase (.Name x p) "extend" env (eval (.Name x p) env) = eval (.Name x p) env := by intro _; rfl) (hd : (x == ("__debug__" : Str)) = false := by decide) (hcd : (x == ("__classdict__" : Str)) = false := by decide)
    (hfew : ∀ env, ((backTo p3 (starEach [e] env)).all (fun x => !x.1) && (backToKw p3 (keywordEach [] env)).all (fun x => x.1.isSome) && decide ([e].length + ([] : List Keyword).length + (if ([] : List Keyword).isEmpty then 0 else 1) < 30)) = true := by intro _; rfl) :
    wSs X (.Expr (.Call (.Attribute (.Name x p) "extend" p2) [e] [] p3) pos :: ss) D σ W.h := by
  refine ss_cons (wS_of (ps_expr (pe_bm PySem.F.plainAttrs_list PySem.F.slot_list_extend PySem.F.type_list_extend mt_extend (pe_var (i := i) (by rw [sf.N]; exact hN) (by rw [sf.sc]; exact vis_of hv) hd hcd) (pa_cons pe_w pa_nil (hsE _)) (hb _) (hfew _) hline (hsE _) rfl) (hw _)) ?_)
  obtain ⟨vs, h1, h2⟩ := ho.at_
  refine ⟨_, hi, .inl ⟨rfl, _, SqL.of h1⟩, ?_⟩
  refine he X sf.toCf σ W _ hs fun b zs W1 e1 nb hb r1 => ?_
  have n1 : W1.s q = none := e1.av _ _ h1 ho.n
  refine ⟨q, b, vs, zs, rfl, rfl, e1.h _ _ h1, W1.sub _ _ hb, ?_, ?_⟩
  · rw [dpa_len h2, dpa_len r1]
    exact Nat.le_trans hl (by decide)
  · exact h (W1.own q (.lst (vs ++ zs)) n1) ((x0.trans e1).own n0) e1.s ⟨n1, _, upd_same, dpa_app (dpa_ex e1.s h2) r1⟩ (hs.ex e1.s)
/-- x = y, y an owned list: it is shown, x holds it -/
theorem st_move (sf : Sf c X) (hs : SlOk X.K W.s σ Γ) (i j : Nat) (hj : σ[j]? = some (some (.ref q))) (ho : OwL X.K W q ds) (x0 : Wx W0 W) (n0 : W0.h q = none) (hN : c.N[i]? = some x) (hl : locB c.sc x = true) (hN2 : c.N[j]? = some y) (hv : visB c.sc y = true)
    (h : ∀ W2, Wx W0 W2 → Ex W.s W2.s → SlOk X.K W2.s (σ.set i (some (.ref q))) (Γ.set i (some (.list ds))) → wSs X ss D (σ.set i (some (.ref q))) W2.h)
    (hd : (y == ("__debug__" : Str)) = false := by decide) (hcd : (y == ("__classdict__" : Str)) = false := by decide) : wSs X (.Assign [.Name x p] (.Name y p2) pos :: ss) D σ W.h := by
  refine ss_cons (wS_of (ps_set (i := i) sf.nd (by rw [sf.N]; exact hN) (by rw [sf.sc]; exact loc_of hl) (pe_var (i := j) (by rw [sf.N]; exact hN2) (by rw [sf.sc]; exact vis_of hv) hd hcd) rfl (.inl (sf.fn _))) ?_)
  refine ⟨_, hj, ?_⟩
  obtain ⟨W2, e2, x2, s2, d2⟩ := ho.show_ x0 n0
  have := h W2 x2 s2 ((hs.ex s2).set i d2)
  rw [e2] at this
  exact this
/-- return x, x an owned list -/
theorem st_retL (sf : Sf c X) (j : Nat) (hj : σ[j]? = some (some (.ref q))) (ho : OwL X.K W q ds) (x0 : Wx W0 W) (n0 : W0.h q = none) (hN2 : c.N[j]? = some y) (hv : visB c.sc y = true)
    (h : ∀ v W2, Wx W0 W2 → Dp X.K W2.s v (.list ds) → D.rt v W2.h)
    (hd : (y == ("__debug__" : Str)) = false := by decide) (hcd : (y == ("__classdict__" : Str)) = false := by decide) : wSs X (.Return (some (.Name y p2)) pos :: ss) D σ W.h := by
  refine ss_cons (wS_of (ps_ret (pe_var (i := j) (by rw [sf.N]; exact hN2) (by rw [sf.sc]; exact vis_of hv) hd hcd)) ?_)
  refine ⟨_, hj, ?_⟩
  obtain ⟨W2, e2, x2, s2, d2⟩ := ho.show_ x0 n0
  have := h _ W2 x2 d2
  rw [e2] at this
  exact this
end
end CS
namespace CS
open PySem PySem.Spec PyProof.Rows L2
section
variable {c : Cfg} {Γ : Gm} {pos : Pos} {x : Str}
/-- a constant of the module -/
theorem ev_globI {i : Int} (hm : ∃ t, c.mg x = some (.int i t)) (hg : glB c.sc x = true) (hd : (x == ("__debug__" : Str)) = false := by decide) : Ev c Γ (.Name x pos) (.int i) := fun X cf σ W Q s q => by
  obtain ⟨t, hm⟩ := hm
  exact wE_of (pe_glob (v := .int i) (gl_of cf hg) (by rw [cf.mg]; exact hm) ⟨t, rfl⟩ hd) (q _ W Wx.refl (.int i))
theorem ev_globS {z : Str} (hm : ∃ t, c.mg x = some (.str z t)) (hg : glB c.sc x = true) (hd : (x == ("__debug__" : Str)) = false := by decide) : Ev c Γ (.Name x pos) (.str z) := fun X cf σ W Q s q => by
  obtain ⟨t, hm⟩ := hm
  exact wE_of (pe_glob (v := .str z) (gl_of cf hg) (by rw [cf.mg]; exact hm) ⟨t, rfl⟩ hd) (q _ W Wx.refl (.str z))
end
end CS

set_option maxRecDepth 100000
set_option maxHeartbeats 4000000
namespace CS
open PySem PySem.Spec PyProof.Rows L2
section
variable {c : Cfg} {Γ : Gm} {a b : Expr} {d : PyData} {pos : Pos}
/-- not e, by truth -/
theorem ev_notT (ha : Ev c Γ a d) (hs : ∀ x, d = .str x → x.length ≤ sizeLine := by intro x h; cases h) : Ev c Γ (.UnaryOp .Not a pos) (.bool (!trB d)) := fun X cf σ W Q s q => by
  refine wE_of (pe_notT pe_w) ?_
  exact ha X cf σ W _ s fun x W1 e1 r1 => ⟨_, tru_dp (W1.dp r1) hs, q _ W1 e1 (.bl _)⟩
theorem SlOk.nodict {K : PySem.W.Frag} {H : Hp} {σ : St} {Γ : Gm} {kvs : List (PyData × PyData)} (h : SlOk K H σ Γ) (i : Nat) (hi : Γ[i]? = some (some (.dict kvs))) : False := by
  obtain ⟨v, _, h2⟩ := h.at_ i _ hi
  cases h2
end
/-! ### forgetting slots -/
def Sub : Gm → Gm → Prop
  | [], [] => True
  | none :: a, _ :: b => Sub a b
  | some d :: a, x :: b => x = some d ∧ Sub a b
  | _, _ => False
theorem Sub.len : ∀ {a b : Gm}, Sub a b → a.length = b.length
  | [], [], _ => rfl
  | none :: a, _ :: b, h => congrArg (· + 1) (Sub.len (a := a) (b := b) h)
  | some d :: a, x :: b, h => congrArg (· + 1) (Sub.len (a := a) (b := b) h.2)
  | [], _ :: _, h => h.elim
  | none :: _, [], h => h.elim
  | some _ :: _, [], h => h.elim
theorem Sub.get : ∀ {a b : Gm} {i : Nat} {d : PyData}, Sub a b → a[i]? = some (some d) → b[i]? = some (some d)
  | [], _, _, _, _, h => by simp at h
  | none :: a, _ :: b, 0, _, _, h => by cases h
  | none :: a, _ :: b, i + 1, _, s, h => Sub.get (a := a) (b := b) (i := i) s h
  | some d :: a, x :: b, 0, _, s, h => by
    have e : some d = some _ := Option.some.inj h
    rw [← e]
    show some x = some (some d)
    rw [s.1]
  | some d :: a, x :: b, i + 1, _, s, h => Sub.get (a := a) (b := b) (i := i) s.2 h
  | none :: _, [], _, _, s, _ => s.elim
  | some _ :: _, [], _, _, s, _ => s.elim
theorem SlOk.to {K : PySem.W.Frag} {H : Hp} {σ : St} {Γ Γ' : Gm} (h : SlOk K H σ Γ) (s : Sub Γ' Γ) : SlOk K H σ Γ' := h.weak s.len fun _ _ g => s.get g
theorem EvL.cast {c : Cfg} {Γ : Gm} {e : Expr} {ds ds' : List PyData} (h : EvL c Γ e ds) (q : ds = ds') : EvL c Γ e ds' := q ▸ h
theorem filter_yes {α : Type} (l : List α) : l.filter (fun _ => true) = l := List.filter_eq_self.mpr fun _ _ => rfl
theorem map_get {α β : Type} {f : α → β} {l : List α} {i : Nat} {d : β} (h : (l.map f)[i]? = some d) : ∃ x, l[i]? = some x ∧ d = f x := by
  rw [List.getElem?_map] at h
  cases q : l[i]? with
  | none => rw [q] at h; cases h
  | some x => rw [q] at h; exact ⟨x, rfl, (Option.some.inj h).symm⟩
theorem atI_lastI {xs : List Int} {l : Int} (h : xs.getLast? = some l) : atI (iL xs) (-1) = some (.int l) := by
  obtain ⟨ys, rfl⟩ := List.getLast?_eq_some_iff.mp h
  show atI ((ys ++ [l]).map PyData.int) (-1) = _
  rw [List.map_append]
  exact atI_last _ _
theorem trB_pT (xs : List Int) : trB (pT xs) = !xs.isEmpty := by cases xs <;> rfl
end CS

set_option maxRecDepth 100000
set_option maxHeartbeats 4000000
namespace CS
open PySem PySem.Spec PyProof.Rows L2
/-! ### data that == takes -/
def Shp (n : Nat) (d : PyData) : Prop := d.canLay0 = true ∧ d.depth ≤ n
theorem shp_none {n : Nat} : Shp n .none := ⟨rfl, Nat.zero_le _⟩
theorem shp_int {n : Nat} {i : Int} : Shp n (.int i) := ⟨rfl, Nat.zero_le _⟩
theorem shp_bool {n : Nat} {b : Bool} : Shp n (.bool b) := ⟨rfl, Nat.zero_le _⟩
theorem shpA {n : Nat} : ∀ {xs : List PyData}, (∀ x ∈ xs, Shp n x) → PyData.canLayAll0 xs = true ∧ PyData.depthAll xs ≤ n
  | [], _ => ⟨rfl, Nat.zero_le _⟩
  | x :: xs, h => by
    obtain ⟨h1, h2⟩ := h x List.mem_cons_self
    obtain ⟨h3, h4⟩ := shpA fun y hy => h y (List.mem_cons_of_mem _ hy)
    refine ⟨?_, ?_⟩
    · show (x.canLay0 && PyData.canLayAll0 xs) = true
      rw [h1, h3]; rfl
    · show max x.depth (PyData.depthAll xs) ≤ n
      omega
theorem shp_list {n : Nat} {xs : List PyData} (h : ∀ x ∈ xs, Shp n x) : Shp (n + 1) (.list xs) := ⟨(shpA h).1, Nat.succ_le_succ (shpA h).2⟩
theorem shp_tup {n : Nat} {xs : List PyData} (h : ∀ x ∈ xs, Shp n x) : Shp (n + 1) (.tuple xs) := ⟨(shpA h).1, Nat.succ_le_succ (shpA h).2⟩
theorem Shp.mono {n m : Nat} {d : PyData} (h : Shp n d) (l : n ≤ m) : Shp m d := ⟨h.1, Nat.le_trans h.2 l⟩
theorem Shp.ok {n : Nat} {d : PyData} (h : Shp n d) (l : n ≤ 64 := by decide) : SeqAt.shaped d = true := by
  unfold SeqAt.shaped
  rw [h.1, decide_eq_true (Nat.le_trans h.2 l)]
  rfl
theorem shp_iL {n : Nat} (ns : List Int) : ∀ x ∈ iL ns, Shp n x := fun x hx => by
  obtain ⟨z, _, rfl⟩ := List.mem_map.mp hx
  exact shp_int
theorem shp_pT {n : Nat} (ns : List Int) : Shp (n + 1) (pT ns) := shp_tup (shp_iL ns)
theorem shp_pL {n : Nat} (ns : List Int) : Shp (n + 1) (pL ns) := shp_list (shp_iL ns)
theorem shp_lT {n : Nat} (xss : List (List Int)) : Shp (n + 2) (.list (xss.map pT)) := shp_list fun x hx => by
  obtain ⟨z, _, rfl⟩ := List.mem_map.mp hx
  exact shp_pT z
theorem sh_pT (ns : List Int) : SeqAt.shaped (pT ns) = true := (shp_pT (n := 0) ns).ok
theorem sh_pL (ns : List Int) : SeqAt.shaped (pL ns) = true := (shp_pL (n := 0) ns).ok
theorem sh_lT (xss : List (List Int)) : SeqAt.shaped (.list (xss.map pT)) = true := (shp_lT (n := 0) xss).ok
theorem sh_nilT : SeqAt.shaped (.tuple []) = true := sh_pT []
theorem sh_nilL : SeqAt.shaped (.list []) = true := sh_pL []
/-! ### == of data -/
theorem eqv_int (i j : Int) : PyData.eqv (.int i) (.int j) = decide (i = j) := by show (i == j) = _; rw [Bool.beq_eq_decide_eq]
theorem eqvAll_map {α : Type} [DecidableEq α] {f : α → PyData} (h : ∀ x y, PyData.eqv (f x) (f y) = decide (x = y)) : ∀ a b : List α, PyData.eqvAll (a.map f) (b.map f) = decide (a = b)
  | [], [] => rfl
  | [], _ :: _ => rfl
  | _ :: _, [] => rfl
  | x :: a, y :: b => by
    show (PyData.eqv (f x) (f y) && PyData.eqvAll (a.map f) (b.map f)) = _
    rw [h, eqvAll_map h a b]
    by_cases e1 : x = y <;> by_cases e2 : a = b <;> simp [e1, e2]
theorem eqv_pT (a b : List Int) : PyData.eqv (pT a) (pT b) = decide (a = b) := eqvAll_map eqv_int a b
theorem eqv_pL (a b : List Int) : PyData.eqv (pL a) (pL b) = decide (a = b) := eqvAll_map eqv_int a b
theorem eqv_lT (a b : List (List Int)) : PyData.eqv (.list (a.map pT)) (.list (b.map pT)) = decide (a = b) := eqvAll_map eqv_pT a b
theorem eqv_str (x y : Str) : PyData.eqv (.str x) (.str y) = decide (x = y) := by show (x == y) = _; rw [Bool.beq_eq_decide_eq]
theorem eqv_bool (x y : Bool) : PyData.eqv (.bool x) (.bool y) = decide (x = y) := by show (x == y) = _; rw [Bool.beq_eq_decide_eq]
theorem eqv_self {n : Nat} {d : PyData} (h : Shp n d) : PyData.eqv d d = true := SeqAt.eqv_refl d h.1
section
variable {c : Cfg} {Γ : Gm} {a b : Expr} {pos : Pos}
theorem ev_eqT {x y : List Int} (ha : Ev c Γ a (pT x)) (hb : Ev c Γ b (pT y)) : Ev c Γ (.Compare a [.Eq] [b] pos) (.bool (decide (x = y))) := (ev_eq ha hb (sh_pT x) (sh_pT y)).cast (by rw [eqv_pT])
theorem ev_neT {x y : List Int} (ha : Ev c Γ a (pT x)) (hb : Ev c Γ b (pT y)) : Ev c Γ (.Compare a [.NotEq] [b] pos) (.bool (!decide (x = y))) := (ev_ne ha hb (sh_pT x) (sh_pT y)).cast (by rw [eqv_pT])
theorem et_eqT {x y : List Int} (ha : Ev c Γ a (pT x)) (hb : Ev c Γ b (pT y)) : EvT c Γ (.Compare a [.Eq] [b] pos) (decide (x = y)) := (et_eq ha hb (sh_pT x) (sh_pT y)).cast (by rw [eqv_pT])
theorem et_neT {x y : List Int} (ha : Ev c Γ a (pT x)) (hb : Ev c Γ b (pT y)) : EvT c Γ (.Compare a [.NotEq] [b] pos) (!decide (x = y)) := (et_ne ha hb (sh_pT x) (sh_pT y)).cast (by rw [eqv_pT])
theorem ev_eqL {x y : List Int} (ha : Ev c Γ a (pL x)) (hb : Ev c Γ b (pL y)) : Ev c Γ (.Compare a [.Eq] [b] pos) (.bool (decide (x = y))) := (ev_eq ha hb (sh_pL x) (sh_pL y)).cast (by rw [eqv_pL])
theorem ev_neL {x y : List Int} (ha : Ev c Γ a (pL x)) (hb : Ev c Γ b (pL y)) : Ev c Γ (.Compare a [.NotEq] [b] pos) (.bool (!decide (x = y))) := (ev_ne ha hb (sh_pL x) (sh_pL y)).cast (by rw [eqv_pL])
theorem et_eqL {x y : List Int} (ha : Ev c Γ a (pL x)) (hb : Ev c Γ b (pL y)) : EvT c Γ (.Compare a [.Eq] [b] pos) (decide (x = y)) := (et_eq ha hb (sh_pL x) (sh_pL y)).cast (by rw [eqv_pL])
theorem et_neL {x y : List Int} (ha : Ev c Γ a (pL x)) (hb : Ev c Γ b (pL y)) : EvT c Γ (.Compare a [.NotEq] [b] pos) (!decide (x = y)) := (et_ne ha hb (sh_pL x) (sh_pL y)).cast (by rw [eqv_pL])
end
/-! ### data read back -/
def unI : PyData → Int
  | .int z => z
  | _ => 0
def unT : PyData → List Int
  | .tuple xs => xs.map unI
  | .list xs => xs.map unI
  | _ => []
theorem un_iL (p : List Int) : (iL p).map unI = p := by
  show (p.map PyData.int).map unI = p
  rw [List.map_map]
  exact List.map_id p
theorem unT_pT (p : List Int) : unT (pT p) = p := un_iL p
theorem unT_pL (p : List Int) : unT (pL p) = p := un_iL p
/-- a comprehension over encoded items -/
theorem comp_map {α β : Type} {enc : α → PyData} {enc' : β → PyData} {P : PyData → Bool} {f : PyData → PyData} {p : α → Bool} {g : α → β} {l : List α} (hP : ∀ a ∈ l, P (enc a) = p a) (hf : ∀ a ∈ l, p a = true → f (enc a) = enc' (g a)) : ((l.map enc).filter P).map f = ((l.filter p).map g).map enc' := by
  rw [List.filter_map, List.map_map, List.map_map]
  have e : l.filter (P ∘ enc) = l.filter p := List.filter_congr hP
  rw [e]
  refine List.map_congr_left fun a ha => ?_
  rw [List.mem_filter] at ha
  exact hf a ha.1 ha.2
theorem comp_all {α β : Type} {enc : α → PyData} {enc' : β → PyData} {f : PyData → PyData} {g : α → β} {l : List α} (hf : ∀ a ∈ l, f (enc a) = enc' (g a)) : ((l.map enc).filter fun _ => true).map f = (l.map g).map enc' := by
  rw [filter_yes, List.map_map, List.map_map]
  exact List.map_congr_left hf
theorem comp_sel {α : Type} {enc : α → PyData} {P : PyData → Bool} {p : α → Bool} {l : List α} (hP : ∀ a ∈ l, P (enc a) = p a) : ((l.map enc).filter P).map id = (l.filter p).map enc := by
  rw [List.map_id, List.filter_map]
  exact congrArg (List.map enc) (List.filter_congr hP)
end CS

set_option maxRecDepth 100000
set_option maxHeartbeats 4000000
namespace CS
open PySem PySem.Spec PyProof.Rows L2
/-! ### try with several clauses 'except x as n' -/
abbrev Ts := Addr → Value → Option Addr → TS
/-- the ends of a suite behind which slot i is emptied -/
def gone (i : Nat) (D : Ends) : Ends := { nx := fun τ G => D.nx (τ.set i none) G, rt := D.rt, bk := fun τ G => D.bk (τ.set i none) G, ct := fun τ G => D.ct (τ.set i none) G }
/-- what the clauses wish, one behind another -/
def wTry (K : PySem.W.Frag) (i : Nat) (Wo : WX) (D : Ends) : List (Value × Ts) → WX
  | [] => Wo
  | (c, ts) :: r => fun cl dd τ G => ∃ b, PySem.W.exmOne K cl c = some b ∧ (b = true → ∀ a, G a = none → ts a cl dd (gone i D) (τ.set i (some (.ref a))) G) ∧ (b = false → wTry K i Wo D r cl dd τ G)
inductive HdAs (X : Cx) (n : Str) : List ExceptHandler → List (Value × Ts) → Prop
  | nil : HdAs X n [] []
  | cons {x : Str} {c : Value} {ts : Ts} {b0 : Stmt} {su : List Stmt} {np ps : Pos} {hds : List ExceptHandler} {l : List (Value × Ts)} (hc : Names X x c)
      (hsu : ∀ (a : Addr) (oe : Obj) (cl : Value) (dd : Option Addr) (pn : List (Addr × Obj)), Zc cl dd oe → (∃ fs, oe.data = .fields fs) → PSs (X.suite a ((a, oe) :: pn)) (b0 :: su) (ts a cl dd)) (r : HdAs X n hds l) :
      HdAs X n (.ExceptHandler (some (.Name x np)) (some n) (b0 :: su) ps :: hds) ((c, ts) :: l)
theorem ps_tryAs {X : Cx} {n : Str} {i : Nat} {body : List Stmt} {h0 : ExceptHandler} {hds : List ExceptHandler} {l : List (Value × Ts)} {pos : Pos} {tb : WX → TS} {Wo : WX}
    (hst : X.stack = X.env :: X.outer) (hfm : X.env.frame = some X.env.locals) (hnd : X.N.Nodup) (hix : X.N[i]? = some n) (hloc : X.env.kindOf n = some .local) (tk : Takes X Wo)
    (hbd : ∀ (Wr : WX) (pn : List (Addr × Obj)) (xe : Value → Shared → Prop), Takes (X.tr pn xe) Wr → PassesOwn (model X.prog X.w) X.A X.env xe → PSs (X.tr pn xe) body (tb Wr))
    (hh : HdAs X n (h0 :: hds) l) : PS X (.Try body (h0 :: hds) [] [] pos) (fun D τ G => tb (wTry X.K i Wo D l) D τ G) := by
  constructor
  intro pins s0 τ0 G0 D I0 hw0
  have okX := I0.ok
  have frs0 : X.A.frames = some (X.env :: X.outer) := okX.frames.trans (by rw [hst])
  refine wpAny_Try_except (wpAny_mono ((hbd (wTry X.K i Wo D l) (X.pn ++ pins) (fun e t1 => wpAny (model X.prog X.w) X.A (noteFrame e X.env) (fun _ t2 => wpAny (model X.prog X.w) X.A (setFlight e none) (fun _ t3 => wpAny (model X.prog X.w) X.A (handleBy e X.env (h0 :: hds)) (SP X pins D) X.xe t3) X.xe t2) X.xe t1) (fun u t1 thrown => ?_) PassesOwn.looking).run [] s0 τ0 G0 D (I0.toTry _) hw0) (fun fl t1 ended => ?_) (fun _ _ z => z))
  · obtain ⟨a, B, sI, pins', τ, G, cl, dd, rfl, J', nb, up, sky, na, os, ag, w⟩ := thrown
    have J : Inv X pins τ G sI := J'.ofTry okX
    have sky1 : Sky B (X.env :: X.outer) a (Zc cl dd) X.env.locals t1.heap := hst ▸ sky
    show wpAny (model X.prog X.w) X.A (noteFrame (.ref a) X.env) _ _ _
    refine Sky.land Zc.steady frs0 hfm sky1 fun g3 f3 u3 => ?_
    have J3 : Inv X pins τ G { t1 with heap := g3 } := J.landed nb f3.1 (up.trans u3) os ag
    obtain ⟨o3, v3, ho3, hz3, hd3⟩ := f3.there
    have offFrames : a ∉ frs (X.env :: X.outer) := fun hm => by
      obtain ⟨_, o', e', hnf⟩ := f3.2.2.1.mem hm
      rw [ho3] at e'
      cases e'
      exact hnf _ hd3
    have neL : a ≠ X.env.locals := fun z => offFrames (List.mem_filterMap.mpr ⟨X.env, List.mem_cons_self, by rw [hfm, z]⟩)
    have neF : a ∉ X.fs := fun hm => by
      obtain ⟨ev, he, q⟩ := List.mem_filterMap.mp hm
      exact offFrames (List.mem_filterMap.mpr ⟨ev, List.mem_cons_of_mem _ he, q⟩)
    have S3 := J3.suite ho3 hd3 na neL neF
    have walk : ∀ {hs' : List ExceptHandler} {l' : List (Value × Ts)}, HdAs X n hs' l' → wTry X.K i Wo D l' cl dd τ G → wpAny (model X.prog X.w) X.A (handleBy (.ref a) X.env hs') (SP X pins D) X.xe { t1 with heap := g3 } := by
      intro hs' l' hk
      induction hk with
      | nil =>
        intro w
        refine wpAny_handleBy_nil ?_
        obtain ⟨_, _, _, oe, vs, Tr, oT, ts', he, hz, hd, h1, hr⟩ := id f3
        unfold PySem.passOn
        refine wpAny_bind (wpAny_field he hd h1 ?_)
        rw [if_neg (show ¬ ((Value.ref Tr == Value.none) = true) by simp)]
        have on : wpAny (model X.prog X.w) X.A (setFlight (.ref a) X.env.frame) (fun _ t4 => wpAny (model X.prog X.w) X.A (throw (.ref a) : Sem Flow) (SP X pins D) X.xe t4) X.xe { t1 with heap := g3 } := by
          rw [hfm]
          exact HandSPX.setFlight_upZ f3 fun g4 hh4 u4 => wpAny_throw (tk _ _ ⟨a, B, sI, pins, τ, G, cl, dd, rfl, J, nb, (up.trans u3).trans u4, .inr (.inr (by rw [hst]; exact hh4)), na, os, ag, w⟩)
        first
          | exact wpAny_bind (wpAny_pure (wpAny_bind on))
          | exact wpAny_bind on
      | @cons x c ts b0 su np ps hds2 l2 hc hsu r ih =>
        intro w
        obtain ⟨b, hb1, yes, no⟩ := w
        refine wpAny_handleBy_cons (codeAny_handlers_test ?_) (fun q => by cases q)
        have LT : PySem.W.Looks (model X.prog X.w) g3 (typeOf (.ref a)) cl := fun A Q E s k q => wpAny_typeOf_ref (k _ _ ho3) (by rw [hz3.1]; exact q)
        have LM := PySem.W.exm_one (M := model X.prog X.w) J3.kIn LT hb1
        have named : ∀ {Q E : Value → Shared → Prop}, Q c { t1 with heap := g3 } → wpAny (model X.prog X.w) (X.A.mark (some (.ref a))) (eval (.Name x np) X.env) Q E { t1 with heap := g3 } := fun {Q E} q => by
          rcases hc with ⟨hg, hdbg, hm | ⟨hm, hv, hnn⟩⟩
          · exact ld_glob (X := X.suite a ((a, o3) :: (X.pn ++ pins))) S3 hg hm q hdbg
          · exact ld_blt (X := X.suite a ((a, o3) :: (X.pn ++ pins))) S3 hg hm hv q hnn hdbg
        refine named (LM.here ?_)
        cases b with
        | false => exact ih (no rfl)
        | true =>
          refine codeAny_handlers_suite_as (HandSPX.lands_againZ f3 fun g4 f4 u4 => ?_)
          have J4 : Inv X pins τ G { t1 with heap := g4 } := J.landed nb f4.1 ((up.trans u3).trans u4) os ag
          obtain ⟨o4, v4, ho4, hz4, hd4⟩ := f4.there
          have S4 := J4.suite ho4 hd4 na neL neF
          refine store_ok (X := X.suite a ((a, o4) :: (X.pn ++ pins))) (v := .ref a) S4 hnd hix (.inl hloc) rfl (fun t5 S5 => ?_) (.inr hloc)
          refine wpAny_mono ((hsu a o4 cl dd (X.pn ++ pins) hz4 ⟨_, hd4⟩).run [] t5 _ G _ S5 (yes rfl a na)) (fun fl t6 hsp => ?_) (fun _ _ z => z.elim)
          have last : ∀ {τ6 : St} {G6 : Hp} {Q : Shared → Prop}, Inv (X.suite a ((a, o4) :: (X.pn ++ pins))) [] τ6 G6 t6 → (∀ t7, Inv X pins (τ6.set i none) G6 t7 → Q t7) → wpAny (model X.prog X.w) X.A (do bindName X.env n .none; unbindBehindTheSuite X.env n ps) (fun _ t7 => Q t7) X.xe t6 :=
            fun S6 hq => gone_ok (S6.unsuite okX) hnd hix hloc hq
          cases fl with
          | ret u => obtain ⟨v6, τ6, G6, S6, r6, q6⟩ := hsp; exact last S6 fun t7 J7 => ⟨_, _, _, J7, r6, q6⟩
          | next => obtain ⟨τ6, G6, S6, q6⟩ := hsp; exact last S6 fun t7 J7 => ⟨_, _, J7, q6⟩
          | brk => obtain ⟨τ6, G6, S6, q6⟩ := hsp; exact last S6 fun t7 J7 => ⟨_, _, J7, q6⟩
          | cont => obtain ⟨τ6, G6, S6, q6⟩ := hsp; exact last S6 fun t7 J7 => ⟨_, _, J7, q6⟩
    exact walk hh w
  · cases fl with
    | ret u => obtain ⟨v, τ, G, J', r, q⟩ := ended; exact ⟨v, τ, G, J'.ofTry okX, r, q⟩
    | next => obtain ⟨τ, G, J', q⟩ := ended; exact wpAny_execs_nil ⟨τ, G, J'.ofTry okX, q⟩
    | brk => obtain ⟨τ, G, J', q⟩ := ended; exact ⟨τ, G, J'.ofTry okX, q⟩
    | cont => obtain ⟨τ, G, J', q⟩ := ended; exact ⟨τ, G, J'.ofTry okX, q⟩
end CS

set_option maxRecDepth 100000
set_option maxHeartbeats 4000000
namespace CS
open PySem PySem.Spec PyProof.Rows L2
/-! ### the package's exception classes, each under ClockError alone -/
def subC (x y : Str) : Bool := decide (y = x) || decide (y = "ClockError")
structure Kx (g : Gb) (cs : List Str) : Prop where
  exm : ∀ x ∈ cs, ∀ y ∈ cs, ∀ C E, g.mg x = some (.ref C) → g.mg y = some (.ref E) → PySem.W.exmOne g.K (.ref C) (.ref E) = some (subC x y)
  kit : ∀ x ∈ cs, ∀ y ∈ cs, ∀ C E, g.mg x = some (.ref C) → g.mg y = some (.ref E) → PySem.W.kitOne g.K (.ref C) (.ref E) = some (subC x y)
  exc : ∀ x ∈ cs, ∀ C, g.mg x = some (.ref C) → ExcC g.K C
  kve : ∀ x ∈ cs, ∀ C, g.mg x = some (.ref C) → PySem.W.kitOne g.K (.ref C) (.type "ValueError") = some true
def excB (K : PySem.W.Frag) (D : Addr) : Bool :=
  decide (PySem.W.findIn K (.ref D) "__getattribute__" = some (some (.builtin "BaseException.__getattribute__"))) && (decide (PySem.W.findIn K (.ref D) "__getattr__" = some none) && (decide (PySem.W.subIn K (.ref D) (.type "BaseException") = some true) && (PySem.W.hasDictIn K D &&
    (decide (PySem.W.findIn K (.ref D) "__class__" = some (some (.builtin "object.__class__"))) && (decide (PySem.W.specialIn K (.builtin "object.__class__") "__get__" = some (some (.builtin "getset_descriptor.__get__"))) && (decide (PySem.W.takesIn K (.builtin "object.__class__") = some true) && decide (PySem.W.mroIn K D (.type "object") = some true)))))))
theorem excB_ok {K : PySem.W.Frag} {D : Addr} (h : excB K D = true) : ExcC K D := by
  unfold excB at h
  simp only [Bool.and_eq_true, decide_eq_true_eq] at h
  obtain ⟨h1, h2, h3, h4, h5, h6, h7, h8⟩ := h
  exact ⟨h1, h2, h3, h4, h5, h6, h7, h8⟩
def kxB (cs : List Str) (K : PySem.W.Frag) : Bool := cs.all fun x => excB K (He.ga K x) && (decide (PySem.W.kitOne K (.ref (He.ga K x)) (.type "ValueError") = some true) && cs.all fun y =>
  decide (PySem.W.exmOne K (.ref (He.ga K x)) (.ref (He.ga K y)) = some (subC x y)) && decide (PySem.W.kitOne K (.ref (He.ga K x)) (.ref (He.ga K y)) = some (subC x y)))
theorem kx_of {g : Gb} {cs : List Str} (h : kxB cs g.K = true) (hg : ∀ x ∈ cs, g.mg x = some (.ref (He.ga g.K x))) : Kx g cs := by
  unfold kxB at h
  simp only [List.all_eq_true, Bool.and_eq_true, decide_eq_true_eq] at h
  refine ⟨fun x hx y hy C E hC hE => ?_, fun x hx y hy C E hC hE => ?_, fun x hx C hC => ?_, fun x hx C hC => ?_⟩
  · have e1 := (hg x hx).symm.trans hC
    have e2 := (hg y hy).symm.trans hE
    cases e1; cases e2
    exact ((h x hx).2.2 y hy).1
  · have e1 := (hg x hx).symm.trans hC
    have e2 := (hg y hy).symm.trans hE
    cases e1; cases e2
    exact ((h x hx).2.2 y hy).2
  · have e1 := (hg x hx).symm.trans hC
    cases e1
    exact excB_ok (h x hx).1
  · have e1 := (hg x hx).symm.trans hC
    cases e1
    exact (h x hx).2.1
/-! ### return s1 if isinstance(e, ClockError) and not isinstance(e, Y) else s2 -/
def suStr (g : Gb) (cs : List Str) (i : Nat) (y : Str) (s1 : Str) : Ts := fun a cl dd D τ G => ∃ x C, x ∈ cs ∧ g.mg x = some (.ref C) ∧ cl = .ref C ∧ dd = none ∧ y ∈ cs ∧ subC x y = false ∧ τ[i]? = some (some (.ref a)) ∧ D.rt (.str s1) G
section
variable {c : Cfg} {X : Cx}
theorem su_str {cs : List Str} {n y s1 s2 : Str} {i : Nat} {a : Addr} {oe : Obj} {cl : Value} {dd : Option Addr} {pn : List (Addr × Obj)} {q1 q2 q3 q4 q5 q6 q7 q8 q9 q10 q11 q12 q13 q14 : Pos} {j1 j2 : Nat} (sf : Sf c X) (kx : Kx c.toGb cs) (hck : ("ClockError" : Str) ∈ cs) (hi : c.N[i]? = some n) (hv : visB c.sc n = true)
    (hm : c.mg "isinstance" = none) (hg : glB c.sc "isinstance" = true) (hgc : glB c.sc "ClockError" = true) (hgy : glB c.sc y = true) (hb : ∃ Cb, c.mg "ClockError" = some (.ref Cb)) (hy : ∃ Cy, c.mg y = some (.ref Cy)) (hz : Zc cl dd oe) (hf : ∃ fs, oe.data = .fields fs)
    (hnd : (n == ("__debug__" : Str)) = false := by decide) (hncd : (n == ("__classdict__" : Str)) = false := by decide) (hyd : (y == ("__debug__" : Str)) = false := by decide) :
    PSs (X.suite a ((a, oe) :: pn)) [.Return (some (.IfExp (.BoolOp .And [.Call (.Name "isinstance" q1) [.Name n q2, .Name "ClockError" q3] [] q4, .UnaryOp .Not (.Call (.Name "isinstance" q5) [.Name n q6, .Name y q7] [] q8) q9] q10) (.Constant (.str s1) j1 q11) (.Constant (.str s2) j2 q12) q13)) q14] (suStr c.toGb cs i y s1 a cl dd) := by
  constructor
  rintro pins s τ G D I ⟨x, C, hx, hC, rfl, rfl, hyc, hsub, hτ, hr⟩
  obtain ⟨Cb, hCb⟩ := hb
  obtain ⟨Cy, hCy⟩ := hy
  have ex : ExcC X.K C := by rw [sf.K]; exact kx.exc x hx C hC
  have k1 : PySem.W.kitOne X.K (.ref C) (.ref Cb) = some true := by
    rw [sf.K, kx.kit x hx _ hck C Cb hC hCb]
    unfold subC
    simp
  have k2 : PySem.W.kitOne X.K (.ref C) (.ref Cy) = some false := by rw [sf.K, kx.kit x hx y hyc C Cy hC hCy, hsub]
  have pe : ∀ p : Pos, PE (X.suite a ((a, oe) :: pn)) (.Name n p) (tVar i) := fun p => pe_var (X := X.suite a ((a, oe) :: pn)) (i := i) (by show X.N[i]? = _; rw [sf.N]; exact hi) (by show Vis X.env.scope n; rw [sf.sc]; exact vis_of hv) hnd hncd
  have pc : ∀ p : Pos, PE (X.suite a ((a, oe) :: pn)) (.Name "ClockError" p) (tC (.ref Cb)) := fun p => pe_glob (X := X.suite a ((a, oe) :: pn)) (v := .ref Cb) (gl_of sf.toCf hgc) (by show X.mg _ = _; rw [sf.mg]; exact hCb) rfl
  have py : ∀ p : Pos, PE (X.suite a ((a, oe) :: pn)) (.Name y p) (tC (.ref Cy)) := fun p => pe_glob (X := X.suite a ((a, oe) :: pn)) (v := .ref Cy) (gl_of sf.toCf hgy) (by show X.mg _ = _; rw [sf.mg]; exact hCy) rfl hyd
  refine (pss_one (ps_ret (pe_ifExp (PW.pt (pw_and (pt_val (pe_callB (call_isE ex hz hf) (gl_of sf.toCf hg) (by show X.mg _ = _; rw [sf.mg]; exact hm) (by decide +kernel) (pa_cons (pe _) (pa_cons (pc _) pa_nil))))
    (pw_and1 (pt_not (pt_val (pe_callB (call_isE ex hz hf) (gl_of sf.toCf hg) (by show X.mg _ = _; rw [sf.mg]; exact hm) (by decide +kernel) (pa_cons (pe _) (pa_cons (py _) pa_nil)))))))) pe_str pe_str))).run pins s τ G D I ?_
  exact ⟨_, hτ, .ref Cb, .ref Cb, true, rfl, fun u r => r, k1, true, rfl, ⟨_, hτ, .ref Cy, .ref Cy, false, rfl, fun u r => r, k2, false, rfl, hr⟩⟩
/-- try: body, except ..: with the slot i for the exceptions -/
theorem st_try {Wo : WX} {n : Str} {i : Nat} {body ss : List Stmt} {h0 : ExceptHandler} {hds : List ExceptHandler} {l : List (Value × Ts)} {pos : Pos} {D : Ends} {σ : St} {W : Wd} (sf : Sf c X) (tk : Takes X Wo) (hh : HdAs X n (h0 :: hds) l) (hN : c.N[i]? = some n) (hl : c.sc.names.lookup n = some .local)
    (h : ∀ X', Sf c X' → X'.K = X.K → Takes X' (wTry X.K i Wo { D with nx := wSs X ss D } l) → wSs X' body { D with nx := wSs X ss D } σ W.h) : wSs X (.Try body (h0 :: hds) [] [] pos :: ss) D σ W.h := by
  refine ss_cons (wS_of (ps_tryAs (i := i) (tb := fun Wr D σ H => ∀ pn xe, Takes (X.tr pn xe) Wr → PassesOwn (model X.prog X.w) X.A X.env xe → wSs (X.tr pn xe) body D σ H) sf.stk sf.fr sf.nd (by rw [sf.N]; exact hN) (by show X.env.scope.names.lookup n = _; rw [sf.sc]; exact hl) tk
    (fun Wr pn xe t p => ⟨fun pins s τ G D I hw => hw pn xe t p pins s I⟩) hh) ?_)
  intro pn xe t p
  exact h (X.tr pn xe) ⟨⟨sf.prog, sf.w, sf.K, sf.mg, sf.base, sf.N, sf.sc, sf.calm, sf.room, sf.nd⟩, p, sf.fn, sf.stk, sf.fr⟩ rfl t
theorem names_of (sf : Sf c X) {x : Str} {C : Addr} (hC : c.mg x = some (.ref C)) (hg : glB c.sc x = true) (hd : (x == ("__debug__" : Str)) = false := by decide) : Names X x (.ref C) := ⟨gl_of sf.toCf hg, hd, .inl (by rw [sf.mg]; exact hC)⟩
end
end CS

set_option maxRecDepth 100000
set_option maxHeartbeats 4000000
namespace CS
open PySem PySem.Spec PyProof.Rows L2
/-! ### tuple * int, list * int -/
theorem tuple_mul1 (l : Addr) (items : Array Value) (n : Nat) (dd : Option Addr) (sl : Array (Option Value)) (u : Tok) :
    Meets (Builtin.«tuple.__mul__» ⟨[.ref l, .int 1 u], []⟩) (fun _ R s => s.heap.get? l = some { cls := .type "tuple", dict := dd, data := .seq items n, slots := sl } ∧ R (.ok (.ret (Value.ref l))) s) :=
  .of_wp fun prog w A R s h => by
    obtain ⟨hp, g, d, tk, os⟩ := s
    obtain ⟨hl, h⟩ := h
    have f1 := AutoSeq1.idx_int
    wp_walk using wpAny_loadPart' hl
    exact ⟨_, rfl, h⟩
theorem op_mulT1 {X : Cx} : OpR X (binaryOp .Mult) (fun x y H Q => ∃ l xs, x = .ref l ∧ y = .int 1 ∧ SqT X.K H l xs ∧ Q (.ref l) H) := by
  intro pins s τ G x y v u Q I rx ry h
  obtain ⟨l, xs, rfl, rfl, hT, q⟩ := h
  cases rx
  obtain ⟨t, rfl⟩ := ry
  obtain ⟨its, r, ⟨⟨cls, dd, data, sl⟩, ho, hc, n, hd⟩, _⟩ := I.tuple hT
  simp only at hc hd
  subst hc hd
  exact wpAny_binaryOp_repeat_ref (T := "tuple") (U := "int") (by decide) ⟨_, ho, rfl⟩ (fun s' => typeIs_int s' 1 t) noFill_tuple_mul F.fills_int_mul F.slot_int_rmul repeat_tuple F.slot_int_index.lookup
    (call_meets F.slot_int_rmul (typeIs_int s 1 t) F.entry_int_rmul (F.args_int_rmul_2 _ _) (int_rmul_tuple 1 t l its.toArray n dd sl)
      ⟨ho, rfl, ⟨_, ho, rfl⟩, call_meets F.slot_tuple_mul ⟨_, ho, rfl⟩ F.entry_tuple_mul (F.args_tuple_mul_2 _ _) (tuple_mul1 l its.toArray n dd sl t) ⟨ho, ⟨.ref l, G, I, rfl, q⟩⟩⟩)
section
variable {c : Cfg} {Γ : Gm} {a b : Expr} {es : List Expr} {ds xs : List PyData} {pos p : Pos}
theorem dpa_rep {K : PySem.W.Frag} {H : Hp} {vs : List V} (h : DpAll K H vs xs) : ∀ k : Nat, DpAll K H (List.replicate k vs).flatten (List.replicate k xs).flatten
  | 0 => .nil
  | k + 1 => by
    rw [List.replicate_succ, List.replicate_succ, List.flatten_cons, List.flatten_cons]
    exact dpa_app h (dpa_rep h k)
theorem ev_mulT {k : Int} (ha : Ev c Γ a (.tuple xs)) (hb : Ev c Γ b (.int k)) (h1 : 1 ≤ k) (h2 : k ≤ 1000) (hn : xs ≠ []) (hl : xs.length ≤ 1000) : Ev c Γ (.BinOp a .Mult b pos) (.tuple (List.replicate k.toNat xs).flatten) := by
  by_cases h : k = 1
  · subst h
    refine ev_op ha hb fun X _ => ⟨_, op_mulT1, fun x y W Q hx hy q => ?_⟩
    obtain ⟨p1, us, rfl, h3, h4⟩ := dp_tup_inv hx
    refine ⟨p1, us, rfl, dp_int_inv hy, W.st h3, q _ W Wx.refl ?_⟩
    rw [show (List.replicate (1 : Int).toNat xs).flatten = xs by simp]
    exact hx
  · refine ev_op ha hb fun X _ => ⟨_, op_repF, fun x y W Q hx hy q => ?_⟩
    obtain ⟨p1, us, rfl, h3, h4⟩ := dp_tup_inv hx
    have hlen := dpa_len h4
    refine ⟨p1, k, us, rfl, dp_int_inv hy, W.st h3, fun e => hn ?_, by omega, h2, by omega, fun p o hp ho => ?_⟩
    · subst e
      cases h4
      rfl
    · exact q _ (W.new p _) (Wx.new hp) (.tup (PlT.of ho) (dpa_rep (dpa_ex (Wx.new hp).s h4) _))
theorem el_list (ha : EvA c Γ es ds) (hl : ds.length ≤ 100000) : EvL c Γ (.List es pos) ds := fun X cf σ W Q s q => by
  refine wE_of (pe_lst pa_w) ?_
  refine ha X cf σ W _ s fun vs W1 e1 r1 => ⟨?_, fun p hp => ?_⟩
  · rw [dpa_len r1]
    exact Nat.le_trans hl (by decide)
  · exact q p vs (W1.new p _) (e1.trans (Wx.new hp)) (e1.h.back hp) upd_same (dpa_ex (Wx.new hp).s r1)
theorem ev_mulL {k : Int} (ha : EvL c Γ a xs) (hb : Ev c Γ b (.int k)) (h1 : 0 ≤ k) (h2 : k ≤ 1000) (hl : xs.length * k.toNat ≤ 100000) : Ev c Γ (.BinOp a .Mult b pos) (.list (List.replicate k.toNat xs).flatten) := fun X cf σ W Q s q => by
  refine wE_of (pe_op op_rep pe_w pe_w) ?_
  refine ha X cf σ W _ s fun p vs W1 e1 n1 h1' r1 => ?_
  refine hb X cf σ W1 _ (s.ex e1.s) fun y W2 e2 r2 => ?_
  refine ⟨p, k, vs, rfl, dp_int_inv r2, W2.sub _ _ (e2.s _ _ h1'), by omega, by omega, ?_, fun l hl => ?_⟩
  · rw [dpa_len r1]
    exact Nat.le_trans hl (by decide)
  · exact q _ (W2.new l _) ((e1.trans e2).trans (Wx.new hl)) (.lst (SqL.of upd_same) (dpa_rep (dpa_ex (e2.trans (Wx.new hl)).s r1) _))
end
end CS

set_option maxRecDepth 100000
set_option maxHeartbeats 4000000
/-! What the defs compute. -/
namespace CS
open PySem PySem.Spec PyProof.Rows L2
def inR : PyData → Int → Int → Bool
  | .int i, lo, hi => decide (lo ≤ i) && decide (i ≤ hi)
  | _, _, _ => false
def Rin : List PyData → PyData → Prop := fun ds d => ∃ v lo hi, ds = [v, .int lo, .int hi] ∧ d = .bool (inR v lo hi)
def RcheckHours : List PyData → Oc → Prop := fun ds o => ∃ v, ds = [v] ∧ o = if inR v 2 12 = true then .ok .none else .er "InvalidHours"
def isRowD (n : Int) : PyData → Bool
  | .tuple xs => decide (xs.length ≤ 11) && (xs.filter fun x => !inR x 0 (n - 1)).isEmpty
  | _ => false
def RisRowOf : List PyData → PyData → Prop := fun ds d => ∃ n v, ds = [.int n, v] ∧ d = .bool (isRowD n v)
/-- hours and a row checked -/
def ckRow : PyData → PyData → Oc
  | .int n, r => if inR (.int n) 2 12 = true then (if isRowD n r = true then .ok .none else .er "InvalidRow") else .er "InvalidHours"
  | _, _ => .er "InvalidHours"
def RcheckRow : List PyData → Oc → Prop := fun ds o => ∃ h r, ds = [h, r] ∧ o = ckRow h r
/-! parts -/
def rng (lo hi : Int) : List Int := rgD lo (hi - lo).toNat
def startOf (one : List Int) : Int := match one.getLast? with
  | some l => l + 1
  | none => 0
def partsMore (c : Int) (found : List (List Int)) : List (List Int) := found.flatMap fun one => (rng (startOf one) c).map fun p => one ++ [p]
def parts (c : Int) : Nat → List (List Int)
  | 0 => [[]]
  | m + 1 => partsMore c (parts c m)
abbrev lT (xss : List (List Int)) : PyData := .list (xss.map pT)
def Rparts : List PyData → PyData → Prop := fun ds d => ∃ (n m : Nat), n ≤ 11 ∧ m ≤ 12 ∧ ds = [.int n, .int m] ∧ d = lT (parts n m)
def atP (row : List Int) (places : List Int) : List Int := places.map fun p => row.getD p.toNat 0
def psum (n : Int) (row places : List Int) : Int := (atP row places).sum % n
def RpartSum : List PyData → PyData → Prop := fun ds d => ∃ (n : Int) (row places : List Int), 0 < n ∧ (∀ p ∈ places, 0 ≤ p ∧ p < row.length) ∧ places.length ≤ 12 ∧ ds = [.int n, pT row, pT places] ∧ d = .int (psum n row places)
theorem partsMore_take {c : Int} {l : List (List Int)} {i : Nat} {x : List Int} (h : l[i]? = some x) : partsMore c (l.take (i + 1)) = partsMore c (l.take i) ++ (rng (startOf x) c).map fun p => x ++ [p] := by
  unfold partsMore
  rw [take_succ' h, List.flatMap_append]
  simp
theorem rng_len (lo hi : Int) : (rng lo hi).length = (hi - lo).toNat := rgD_len _ _
theorem mem_rng {lo hi z : Int} : z ∈ rng lo hi ↔ lo ≤ z ∧ z < hi := by
  unfold rng rgD
  rw [List.mem_map]
  constructor
  · rintro ⟨i, hi, rfl⟩
    rw [List.mem_range] at hi
    omega
  · rintro ⟨h1, h2⟩
    exact ⟨(z - lo).toNat, by rw [List.mem_range]; omega, by omega⟩
/-- the parts are places below c, ascending -/
theorem parts_mem {c : Int} : ∀ {m : Nat} {p : List Int}, p ∈ parts c m → p.length = m ∧ p.Pairwise (· < ·) ∧ ∀ z ∈ p, 0 ≤ z ∧ z < c
  | 0, p, h => by
    have e : p = [] := by simpa [parts] using h
    subst e
    exact ⟨rfl, .nil, fun z hz => by cases hz⟩
  | m + 1, p, h => by
    unfold parts partsMore at h
    rw [List.mem_flatMap] at h
    obtain ⟨one, h1, h2⟩ := h
    rw [List.mem_map] at h2
    obtain ⟨z, h3, rfl⟩ := h2
    obtain ⟨i1, i2, i3⟩ := parts_mem h1
    rw [mem_rng] at h3
    have lo : ∀ y ∈ one, y < z := fun y hy => by
      unfold startOf at h3
      cases q : one.getLast? with
      | none => rw [List.getLast?_eq_none_iff] at q; subst q; cases hy
      | some l =>
        rw [q] at h3
        obtain ⟨ys, rfl⟩ := List.getLast?_eq_some_iff.mp q
        rcases List.mem_append.mp hy with h | h
        · have := (List.pairwise_append.mp i2).2.2 y h l (List.mem_singleton.mpr rfl)
          have h4 : l + 1 ≤ z := h3.1
          omega
        · have := List.mem_singleton.mp h
          have h4 : l + 1 ≤ z := h3.1
          omega
    have z0 : 0 ≤ z := by
      unfold startOf at h3
      cases q : one.getLast? with
      | none => rw [q] at h3; exact h3.1
      | some l =>
        rw [q] at h3
        obtain ⟨ys, rfl⟩ := List.getLast?_eq_some_iff.mp q
        have := (i3 l (List.mem_append_right _ (List.mem_singleton.mpr rfl))).1
        have h4 : l + 1 ≤ z := h3.1
        omega
    refine ⟨by simp [i1], ?_, fun y hy => ?_⟩
    · rw [List.pairwise_append]
      exact ⟨i2, List.pairwise_singleton _ _, fun a ha b hb => by rw [List.mem_singleton.mp hb]; exact lo a ha⟩
    · rcases List.mem_append.mp hy with h | h
      · exact i3 y h
      · rw [List.mem_singleton.mp h]
        exact ⟨z0, h3.2⟩
theorem startOf_nn {one : List Int} (h : ∀ z ∈ one, 0 ≤ z) : 0 ≤ startOf one := by
  unfold startOf
  cases q : one.getLast? with
  | none => exact Int.le_refl _
  | some l =>
    obtain ⟨ys, rfl⟩ := List.getLast?_eq_some_iff.mp q
    have := h l (List.mem_append_right _ (List.mem_singleton.mpr rfl))
    show 0 ≤ l + 1
    omega
theorem rgD_cons (lo : Int) (n : Nat) : rgD lo (n + 1) = lo :: rgD (lo + 1) n := by
  unfold rgD
  rw [List.range_succ_eq_map, List.map_cons, List.map_map]
  refine congr (congrArg List.cons (by simp)) (List.map_congr_left fun i _ => ?_)
  show lo + ((i + 1 : Nat) : Int) = lo + 1 + (i : Nat)
  omega
theorem startOf_app (one : List Int) (p : Int) : startOf (one ++ [p]) = p + 1 := by
  unfold startOf
  rw [List.getLast?_append]
  rfl
def wt (c : Int) (p : List Int) : Nat := 2 ^ (c - startOf p).toNat
theorem wt_rng (c : Int) (one : List Int) : ∀ (n : Nat) (s : Int), (c - s).toNat = n → (((rgD s n).map fun p => wt c (one ++ [p])).sum) ≤ 2 ^ n
  | 0, s, _ => Nat.zero_le _
  | n + 1, s, h => by
    rw [rgD_cons, List.map_cons, List.sum_cons]
    have ih := wt_rng c one n (s + 1) (by omega)
    have e : wt c (one ++ [s]) = 2 ^ n := by
      unfold wt
      rw [startOf_app]
      congr 1
      omega
    rw [e, Nat.pow_succ]
    omega
theorem wt_more (c : Int) : ∀ l : List (List Int), ((partsMore c l).map (wt c)).sum ≤ (l.map (wt c)).sum
  | [] => Nat.le_refl _
  | x :: r => by
    have ih := wt_more c r
    have e : partsMore c (x :: r) = ((rng (startOf x) c).map fun p => x ++ [p]) ++ partsMore c r := by unfold partsMore; rw [List.flatMap_cons]
    rw [e, List.map_append, List.sum_append, List.map_map, List.map_cons, List.sum_cons]
    have h := wt_rng c x (c - startOf x).toNat (startOf x) rfl
    have h2 : ((rng (startOf x) c).map (wt c ∘ fun p => x ++ [p])).sum ≤ wt c x := h
    omega
theorem wt_parts (c : Nat) : ∀ m : Nat, ((parts c m).map (wt c)).sum ≤ 2 ^ c
  | 0 => by
    show wt c [] + 0 ≤ 2 ^ c
    show 2 ^ ((c : Int) - 0).toNat + 0 ≤ 2 ^ c
    rw [show ((c : Int) - 0).toNat = c by omega]
    omega
  | m + 1 => Nat.le_trans (wt_more c (parts c m)) (wt_parts c m)
theorem len_le_wt (c : Int) : ∀ l : List (List Int), l.length ≤ (l.map (wt c)).sum
  | [] => Nat.le_refl _
  | x :: r => by
    have ih := len_le_wt c r
    rw [List.map_cons, List.sum_cons, List.length_cons]
    have : 1 ≤ wt c x := Nat.one_le_two_pow
    omega
/-- there are at most 2 ^ c of them -/
theorem parts_len (c m : Nat) : (parts c m).length ≤ 2 ^ c := Nat.le_trans (len_le_wt c _) (wt_parts c m)
theorem more_take_len (c : Int) (l : List (List Int)) (i : Nat) : (partsMore c (l.take i)).length ≤ (partsMore c l).length := by
  have e : partsMore c l = partsMore c (l.take i) ++ partsMore c (l.drop i) := by
    unfold partsMore
    rw [← List.flatMap_append, List.take_append_drop]
  rw [e, List.length_append]
  omega
/-! ### the script and its draws -/
def cellAt (ns : List Int) (k : Int) : Int := ns.getD k.toNat 0
def Rcell : List PyData → PyData → Prop := fun ds d => ∃ (ns : List Int) (k : Int), ds = [pL ns, .int k] ∧ d = .int (cellAt ns k) ∧ 0 ≤ k
def rowTurn (ns : List Int) (at_ : Int) (s : Int × List Int) (time : Nat) : Int × List Int :=
  if cellAt ns at_ < 10 ^ (18 : Int).toNat then
    ((s.1 * 48271 + 131 * (0 + (time : Int)) + 7 + cellAt ns ((at_ + 1 + (0 + (time : Int))) % 20)) % 2147483647, s.2 ++ [(s.1 * 48271 + 131 * (0 + (time : Int)) + 7 + cellAt ns ((at_ + 1 + (0 + (time : Int))) % 20)) % 2147483647 / 11 % 1000])
  else (s.1 / 1000, s.2 ++ [s.1 % 1000])
def rowTo (ns : List Int) (at_ : Int) : Nat → Int × List Int
  | 0 => (cellAt ns at_, [])
  | n + 1 => rowTurn ns at_ (rowTo ns at_ n) n
def rowOf (ns : List Int) (at_ : Int) : List Int := (rowTo ns at_ 60).2
theorem rowTo_ok (ns : List Int) (at_ : Int) : ∀ n : Nat, (rowTo ns at_ n).2.length = n ∧ ∀ z ∈ (rowTo ns at_ n).2, 0 ≤ z ∧ z < 1000
  | 0 => ⟨rfl, fun z hz => by cases hz⟩
  | n + 1 => by
    obtain ⟨h1, h2⟩ := rowTo_ok ns at_ n
    show (rowTurn ns at_ (rowTo ns at_ n) n).2.length = n + 1 ∧ ∀ z ∈ (rowTurn ns at_ (rowTo ns at_ n) n).2, 0 ≤ z ∧ z < 1000
    unfold rowTurn
    split
    · refine ⟨by simp [h1], fun z hz => ?_⟩
      rcases List.mem_append.mp hz with h | h
      · exact h2 z h
      · rw [List.mem_singleton.mp h]
        exact ⟨Int.emod_nonneg _ (by decide), Int.emod_lt_of_pos _ (by decide)⟩
    · refine ⟨by simp [h1], fun z hz => ?_⟩
      rcases List.mem_append.mp hz with h | h
      · exact h2 z h
      · rw [List.mem_singleton.mp h]
        exact ⟨Int.emod_nonneg _ (by decide), Int.emod_lt_of_pos _ (by decide)⟩
theorem rowOf_len (ns : List Int) (at_ : Int) : (rowOf ns at_).length = 60 := (rowTo_ok ns at_ 60).1
theorem rowOf_mem {ns : List Int} {at_ z : Int} (h : z ∈ rowOf ns at_) : 0 ≤ z ∧ z < 1000 := (rowTo_ok ns at_ 60).2 z h
def Rrow : List PyData → PyData → Prop := fun ds d => ∃ (ns : List Int) (k : Int), ds = [pL ns, .int k] ∧ d = pL (rowOf ns k) ∧ 0 ≤ k
/-- a draw -/
def dr (l : List Int) (i : Nat) : Int := l.getD i 0
theorem dr_at {l : List Int} {i : Nat} (h : i < l.length) : atI (iL l) (i : Int) = some (.int (dr l i)) := by
  refine atI_nat ?_
  rw [List.getElem?_map, List.getElem?_eq_getElem h]
  unfold dr
  rw [List.getD_eq_getElem?_getD, List.getElem?_eq_getElem h]
  rfl
theorem dr_ok {ns : List Int} {k : Int} {i : Nat} (h : i < 60) : 0 ≤ dr (rowOf ns k) i ∧ dr (rowOf ns k) i < 1000 := by
  have hl : i < (rowOf ns k).length := by rw [rowOf_len]; exact h
  unfold dr
  rw [List.getD_eq_getElem?_getD, List.getElem?_eq_getElem hl]
  exact rowOf_mem (List.getElem_mem hl)
/-! ### full parts -/
theorem inR_int {v : PyData} {lo hi : Int} (h : inR v lo hi = true) : ∃ n, v = .int n ∧ lo ≤ n ∧ n ≤ hi := by
  cases v with
  | int n =>
    have h' : (decide (lo ≤ n) && decide (n ≤ hi)) = true := h
    simp only [Bool.and_eq_true, decide_eq_true_eq] at h'
    exact ⟨n, rfl, h'.1, h'.2⟩
  | _ => cases h
/-- a valid row of n hours -/
structure Row (n : Int) (row : List Int) : Prop where
  len : row.length ≤ 11
  mem : ∀ x ∈ row, 0 ≤ x ∧ x < n
theorem ints_of : ∀ {n : Int} {xs : List PyData}, (xs.filter fun x => !inR x 0 (n - 1)).isEmpty = true → ∃ row : List Int, xs = iL row ∧ ∀ x ∈ row, 0 ≤ x ∧ x < n
  | n, [], _ => ⟨[], rfl, fun x hx => by cases hx⟩
  | n, x :: xs, h => by
    by_cases hx : inR x 0 (n - 1) = true
    · rw [List.filter_cons_of_neg (by rw [hx]; decide)] at h
      obtain ⟨row, rfl, hr⟩ := ints_of h
      obtain ⟨z, rfl, h1, h2⟩ := inR_int hx
      exact ⟨z :: row, rfl, fun y hy => by
        rcases List.mem_cons.mp hy with rfl | hy
        · omega
        · exact hr y hy⟩
    · rw [List.filter_cons_of_pos (by simp [hx])] at h
      cases h
theorem isRowD_iff {n : Int} {d : PyData} : isRowD n d = true ↔ ∃ row, d = pT row ∧ Row n row := by
  constructor
  · intro h
    cases d with
    | tuple xs =>
      have h' : (decide (xs.length ≤ 11) && (xs.filter fun x => !inR x 0 (n - 1)).isEmpty) = true := h
      rw [Bool.and_eq_true, decide_eq_true_eq] at h'
      obtain ⟨row, rfl, hr⟩ := ints_of h'.2
      exact ⟨row, rfl, by simpa using h'.1, hr⟩
    | _ => cases h
  · rintro ⟨row, rfl, h1, h2⟩
    show (decide ((iL row).length ≤ 11) && ((iL row).filter fun x => !inR x 0 (n - 1)).isEmpty) = true
    rw [Bool.and_eq_true, decide_eq_true_eq]
    refine ⟨by simpa using h1, ?_⟩
    rw [List.isEmpty_iff, List.filter_eq_nil_iff]
    intro x hx
    obtain ⟨z, hz, rfl⟩ := List.mem_map.mp hx
    have := h2 z hz
    show ¬ (!(decide (0 ≤ z) && decide (z ≤ n - 1))) = true
    rw [decide_eq_true this.1, decide_eq_true (by omega)]
    decide
/-- what check_row says -/
theorem ckRow_cases (h r : PyData) : (∃ n row, h = .int n ∧ 2 ≤ n ∧ n ≤ 12 ∧ r = pT row ∧ Row n row ∧ ckRow h r = .ok .none) ∨ ∃ x, ckRow h r = .er x ∧ (x = "InvalidHours" ∨ x = "InvalidRow") := by
  cases h with
  | int n =>
    by_cases h1 : inR (.int n) 2 12 = true
    · by_cases h2 : isRowD n r = true
      · obtain ⟨m, e, h3, h4⟩ := inR_int h1
        cases e
        obtain ⟨row, rfl, hr⟩ := isRowD_iff.mp h2
        exact .inl ⟨n, row, rfl, h3, h4, rfl, hr, by show (if _ then _ else _) = _; rw [if_pos h1, if_pos h2]⟩
      · exact .inr ⟨_, by show (if _ then _ else _) = _; rw [if_pos h1, if_neg h2], .inr rfl⟩
    · exact .inr ⟨_, by show (if _ then _ else _) = _; rw [if_neg h1], .inl rfl⟩
  | _ => exact .inr ⟨_, rfl, .inl rfl⟩
theorem ckRow_ok {n : Int} {row : List Int} (h1 : 2 ≤ n) (h2 : n ≤ 12) (h : Row n row) : ckRow (.int n) (pT row) = .ok .none := by
  show (if inR (.int n) 2 12 = true then (if isRowD n (pT row) = true then Oc.ok .none else .er "InvalidRow") else .er "InvalidHours") = _
  rw [if_pos (by show (decide (2 ≤ n) && decide (n ≤ 12)) = true; rw [decide_eq_true h1, decide_eq_true h2]; rfl), if_pos (isRowD_iff.mpr ⟨row, rfl, h⟩)]
def fullPart (n : Int) (row : List Int) : Option (List Int) := (parts row.length n.toNat).find? fun p => decide (psum n row p = 0)
def fullOc (n : Int) (row : List Int) : Oc := match fullPart n row with
  | some p => .ok (pT p)
  | none => .er "NoZeroPart"
def RfullPart : List PyData → Oc → Prop := fun ds o => ∃ (n : Int) (row : List Int), ds = [.int n, pT row] ∧ o = fullOc n row ∧ 2 ≤ n ∧ n ≤ 12 ∧ Row n row
/-- the string, or the part -/
def fullD (n : Int) (row : List Int) : PyData := match fullPart n row with
  | some p => pT p
  | none => .str "none"
def RlawFull : List PyData → PyData → Prop := fun ds d => ∃ (n : Int) (row : List Int), ds = [.int n, pT row] ∧ d = fullD n row ∧ 2 ≤ n ∧ n ≤ 12 ∧ Row n row
theorem find_take {α : Type} {p : α → Bool} {l : List α} {i : Nat} {x : α} (h : l[i]? = some x) (h0 : (l.take i).find? p = none) (hx : p x = true) : l.find? p = some x := by
  have e : l = l.take i ++ x :: l.drop (i + 1) := by
    obtain ⟨hi, rfl⟩ := List.getElem?_eq_some_iff.mp h
    rw [← List.drop_eq_getElem_cons hi, List.take_append_drop]
  rw [e, List.find?_append, h0, Option.none_or, List.find?_cons_of_pos hx]
theorem find_take0 {α : Type} {p : α → Bool} {l : List α} {i : Nat} {x : α} (h : l[i]? = some x) (h0 : (l.take i).find? p = none) (hx : p x = false) : (l.take (i + 1)).find? p = none := by
  rw [take_succ' h, List.find?_append, h0, Option.none_or, List.find?_cons_of_neg (by rw [hx]; decide)]
  rfl
end CS

set_option maxRecDepth 100000
set_option maxHeartbeats 4000000
/-! The mathematics: places and sublists. -/
namespace CS
/-! ### every ascending tuple of places is a part -/
theorem mem_parts {c : Int} : ∀ {m : Nat} {p : List Int}, p.length = m → p.Pairwise (· < ·) → (∀ z ∈ p, 0 ≤ z ∧ z < c) → p ∈ parts c m
  | 0, p, h, _, _ => by
    have e : p = [] := List.eq_nil_of_length_eq_zero h
    subst e
    exact List.mem_singleton.mpr rfl
  | m + 1, p, h, hp, hz => by
    have hne : p ≠ [] := fun e => by subst e; cases h
    obtain ⟨q, l, rfl⟩ : ∃ q l, p = q ++ [l] := ⟨p.dropLast, p.getLast hne, (List.dropLast_concat_getLast hne).symm⟩
    have hq := List.pairwise_append.mp hp
    have ih := mem_parts (m := m) (p := q) (by simpa using h) hq.1 fun z hz' => hz z (List.mem_append_left _ hz')
    show q ++ [l] ∈ partsMore c (parts c m)
    unfold partsMore
    rw [List.mem_flatMap]
    refine ⟨q, ih, List.mem_map.mpr ⟨l, ?_, rfl⟩⟩
    rw [mem_rng]
    have hl := hz l (List.mem_append_right _ (List.mem_singleton.mpr rfl))
    refine ⟨?_, hl.2⟩
    unfold startOf
    cases e : q.getLast? with
    | none => exact hl.1
    | some y =>
      obtain ⟨ys, rfl⟩ := List.getLast?_eq_some_iff.mp e
      have := hq.2.2 y (List.mem_append_right _ (List.mem_singleton.mpr rfl)) l (List.mem_singleton.mpr rfl)
      show y + 1 ≤ l
      omega
/-! ### places and sublists -/
theorem atP_succ (x : Int) (r : List Int) (p : List Int) (h : ∀ z ∈ p, 1 ≤ z) : atP (x :: r) p = atP r (p.map (· - 1)) := by
  unfold atP
  rw [List.map_map]
  refine List.map_congr_left fun z hz => ?_
  have := h z hz
  show (x :: r).getD z.toNat 0 = r.getD (z - 1).toNat 0
  rw [show z.toNat = (z - 1).toNat + 1 by omega]
  rfl
theorem atP_sub : ∀ (row p : List Int), p.Pairwise (· < ·) → (∀ z ∈ p, 0 ≤ z ∧ z < row.length) → (atP row p).Sublist row
  | [], p, _, hz => by
    cases p with
    | nil => exact .slnil
    | cons z r =>
      have := hz z List.mem_cons_self
      have h2 : z < (0 : Nat) := this.2
      omega
  | x :: r, p, hp, hz => by
    have key : ∀ p : List Int, p.Pairwise (· < ·) → (∀ z ∈ p, 1 ≤ z ∧ z < (x :: r).length) → (atP r (p.map (· - 1))).Sublist r := fun p hp hz => by
      refine atP_sub r _ ?_ ?_
      · rw [List.pairwise_map]
        exact hp.imp fun {a b} h => by omega
      · intro z hz'
        obtain ⟨y, hy, rfl⟩ := List.mem_map.mp hz'
        have := hz y hy
        rw [List.length_cons] at this
        omega
    cases p with
    | nil => exact List.nil_sublist _
    | cons z q =>
      have hzq := List.pairwise_cons.mp hp
      by_cases h0 : z = 0
      · subst h0
        have h1 : ∀ y ∈ q, 1 ≤ y := fun y hy => by have := hzq.1 y hy; omega
        have e : atP (x :: r) (0 :: q) = x :: atP r (q.map (· - 1)) := by
          rw [← atP_succ x r q h1]
          rfl
        rw [e]
        exact (key q hzq.2 fun y hy => ⟨h1 y hy, (hz y (List.mem_cons_of_mem _ hy)).2⟩).cons_cons x
      · have h1 : ∀ y ∈ z :: q, 1 ≤ y := fun y hy => by
          have hz0 := (hz z List.mem_cons_self).1
          rcases List.mem_cons.mp hy with rfl | hy
          · omega
          · have := hzq.1 y hy
            omega
        rw [atP_succ x r _ h1]
        exact (key _ hp fun y hy => ⟨h1 y hy, (hz y hy).2⟩).cons x
theorem sub_atP : ∀ {row sub : List Int}, sub.Sublist row → ∃ p : List Int, p.Pairwise (· < ·) ∧ (∀ z ∈ p, 0 ≤ z ∧ z < row.length) ∧ atP row p = sub := by
  intro row sub h
  induction h with
  | slnil => exact ⟨[], .nil, fun z hz => (List.not_mem_nil hz).elim, rfl⟩
  | @cons l₁ l₂ x h ih =>
    obtain ⟨p, h1, h2, h3⟩ := ih
    refine ⟨p.map (· + 1), ?_, fun z hz => ?_, ?_⟩
    · rw [List.pairwise_map]
      exact h1.imp fun {a b} h => by omega
    · obtain ⟨y, hy, rfl⟩ := List.mem_map.mp hz
      have := h2 y hy
      rw [List.length_cons]
      omega
    · rw [atP_succ x l₂ _ fun z hz => by
        obtain ⟨y, hy, rfl⟩ := List.mem_map.mp hz
        have := h2 y hy
        omega]
      rw [List.map_map, show ((fun x : Int => x - 1) ∘ fun x : Int => x + 1) = id by funext z; show z + 1 - 1 = z; omega, List.map_id]
      exact h3
  | @cons_cons l₁ l₂ x h ih =>
    obtain ⟨p, h1, h2, h3⟩ := ih
    refine ⟨0 :: p.map (· + 1), ?_, fun z hz => ?_, ?_⟩
    · rw [List.pairwise_cons, List.pairwise_map]
      refine ⟨fun z hz => ?_, h1.imp fun {a b} h => by omega⟩
      obtain ⟨y, hy, rfl⟩ := List.mem_map.mp hz
      have := h2 y hy
      omega
    · rw [List.length_cons]
      rcases List.mem_cons.mp hz with rfl | hz
      · omega
      · obtain ⟨y, hy, rfl⟩ := List.mem_map.mp hz
        have := h2 y hy
        omega
    · have e := atP_succ x l₂ (p.map (· + 1)) fun z hz => by
        obtain ⟨y, hy, rfl⟩ := List.mem_map.mp hz
        have := h2 y hy
        omega
      rw [List.map_map, show ((fun x : Int => x - 1) ∘ fun x : Int => x + 1) = id by funext z; show z + 1 - 1 = z; omega, List.map_id, h3] at e
      show x :: atP (x :: l₂) (p.map (· + 1)) = x :: l₁
      rw [e]
theorem atP_len (row p : List Int) : (atP row p).length = p.length := by unfold atP; rw [List.length_map]
/-! ### masks -/
/-- the bits of m moved on by x on a clock of n -/
def rot (n x m : Nat) : Nat := ((m <<< x) ||| (m >>> (n - x))) % 2 ^ n
theorem rot_bit {n x m s : Nat} (hx : x < n) (hm : m < 2 ^ n) (h : (rot n x m).testBit s = true) : ∃ t, m.testBit t = true ∧ t < n ∧ (t + x) % n = s := by
  unfold rot at h
  rw [Nat.testBit_mod_two_pow] at h
  simp only [Bool.and_eq_true, decide_eq_true_eq, Nat.testBit_or, Bool.or_eq_true, Nat.testBit_shiftLeft, Nat.testBit_shiftRight] at h
  obtain ⟨hs, h | h⟩ := h
  · refine ⟨s - x, h.2, by omega, ?_⟩
    rw [show s - x + x = s by omega, Nat.mod_eq_of_lt hs]
  · have hlt : n - x + s < n := by
      cases Nat.lt_or_ge (n - x + s) n with
      | inl h => exact h
      | inr hge => rw [Nat.testBit_lt_two_pow (Nat.lt_of_lt_of_le hm (Nat.pow_le_pow_right (by decide) hge))] at h; cases h
    refine ⟨n - x + s, h, hlt, ?_⟩
    rw [show n - x + s + x = s + n by omega, Nat.add_mod_right, Nat.mod_eq_of_lt hs]
theorem rot_lt {n x m : Nat} : rot n x m < 2 ^ n := Nat.mod_lt _ (Nat.two_pow_pos n)
/-! ### parts with just as many remainders as hours -/
def stepL (n x : Nat) (prev : Nat) : List Nat → List Nat
  | [] => []
  | m :: r => (m ||| prev) :: stepL n x (rot n x m) r
def chkFull (n : Nat) : Nat → Nat → List Nat → Bool
  | 0, _, st => (st.getD n 0).testBit 0
  | L + 1, lo, st => (st.getD n 0).testBit 0 || (List.range n).all fun x => decide (x < lo) || chkFull n L x (stepL n x 0 st)
/-- what a state knows of a list: bit s of the k-th mask tells a sublist of k numbers with the sum s -/
structure Knows (n : Nat) (l : List Nat) (st : List Nat) : Prop where
  lt : ∀ k, st.getD k 0 < 2 ^ n
  bit : ∀ k s, (st.getD k 0).testBit s = true → ∃ sub : List Nat, sub.Sublist l ∧ sub.length = k ∧ sub.sum % n = s
theorem stepL_get {n x : Nat} : ∀ (st : List Nat) (prev k : Nat), (stepL n x prev st).getD k 0 = if k < st.length then st.getD k 0 ||| (if k = 0 then prev else rot n x (st.getD (k - 1) 0)) else 0
  | [], prev, k => by simp [stepL]
  | m :: r, prev, 0 => by simp [stepL]
  | m :: r, prev, k + 1 => by
    show (stepL n x (rot n x m) r).getD k 0 = _
    rw [stepL_get r (rot n x m) k]
    cases k with
    | zero => simp
    | succ j => simp
theorem knows_step {n x : Nat} {l st : List Nat} (hx : x < n) (K : Knows n l st) : Knows n (l ++ [x]) (stepL n x 0 st) := by
  refine ⟨fun k => ?_, fun k s h => ?_⟩
  · rw [stepL_get]
    split
    · refine Nat.or_lt_two_pow (K.lt k) ?_
      split
      · exact Nat.two_pow_pos n
      · exact rot_lt
    · exact Nat.two_pow_pos n
  · rw [stepL_get] at h
    split at h
    · rw [Nat.testBit_or, Bool.or_eq_true] at h
      rcases h with h | h
      · obtain ⟨sub, h1, h2, h3⟩ := K.bit k s h
        exact ⟨sub, h1.trans (List.sublist_append_left _ _), h2, h3⟩
      · split at h
        · rw [Nat.zero_testBit] at h; cases h
        · rename_i h0
          obtain ⟨t, h1, h2, h3⟩ := rot_bit hx (K.lt _) h
          obtain ⟨sub, h4, h5, h6⟩ := K.bit _ t h1
          refine ⟨sub ++ [x], h4.append (List.Sublist.refl [x]), by rw [List.length_append, h5]; show k - 1 + 1 = k; omega, ?_⟩
          rw [List.sum_append]
          show (sub.sum + (x + 0)) % n = s
          rw [Nat.add_zero, Nat.add_mod, h6, ← h3]
          rw [Nat.add_mod t x n, Nat.mod_eq_of_lt h2]
    · rw [Nat.zero_testBit] at h; cases h
theorem chkFull_ok {n : Nat} : ∀ {L lo : Nat} {st l : List Nat}, chkFull n L lo st = true → Knows n l st → ∀ r : List Nat, r.length = L → r.Pairwise (· ≤ ·) → (∀ x ∈ r, lo ≤ x ∧ x < n) → ∃ sub : List Nat, sub.Sublist (l ++ r) ∧ sub.length = n ∧ sub.sum % n = 0
  | 0, lo, st, l, h, K, r, hl, _, _ => by
    obtain ⟨sub, h1, h2, h3⟩ := K.bit n 0 h
    exact ⟨sub, h1.trans (List.sublist_append_left _ _), h2, h3⟩
  | L + 1, lo, st, l, h, K, r, hl, hp, hr => by
    have h' : ((st.getD n 0).testBit 0 || (List.range n).all fun x => decide (x < lo) || chkFull n L x (stepL n x 0 st)) = true := h
    rw [Bool.or_eq_true] at h'
    rcases h' with h' | h'
    · obtain ⟨sub, h1, h2, h3⟩ := K.bit n 0 h'
      exact ⟨sub, h1.trans (List.sublist_append_left _ _), h2, h3⟩
    · cases r with
      | nil => cases hl
      | cons x r =>
        have hx := hr x List.mem_cons_self
        have hc := List.all_eq_true.mp h' x (List.mem_range.mpr hx.2)
        rw [Bool.or_eq_true, decide_eq_true_eq] at hc
        rcases hc with hc | hc
        · omega
        · have hpc := List.pairwise_cons.mp hp
          have := chkFull_ok (l := l ++ [x]) hc (knows_step hx.2 K) r (by simpa using hl) hpc.2 fun y hy => ⟨hpc.1 y hy, (hr y (List.mem_cons_of_mem _ hy)).2⟩
          rw [List.append_assoc] at this
          exact this
theorem knows_start (n : Nat) (hn : 0 < n) (m : Nat) : Knows n [] (1 :: List.replicate m 0) := by
  refine ⟨fun k => ?_, fun k s h => ?_⟩
  · cases k with
    | zero => exact Nat.one_lt_two_pow (by omega)
    | succ k =>
      show (List.replicate m 0).getD k 0 < 2 ^ n
      rw [List.getD_eq_getElem?_getD, List.getElem?_replicate]
      split <;> exact Nat.two_pow_pos n
  · cases k with
    | zero =>
      have h1 : Nat.testBit 1 s = true := h
      have hs : s = 0 := by
        cases s with
        | zero => rfl
        | succ s => rw [Nat.testBit_one_eq_true_iff_self_eq_zero] at h1; omega
      subst hs
      exact ⟨[], List.Sublist.refl _, rfl, Nat.zero_mod n⟩
    | succ k =>
      have h1 : Nat.testBit ((List.replicate m 0).getD k 0) s = true := h
      rw [List.getD_eq_getElem?_getD, List.getElem?_replicate] at h1
      split at h1
      · rw [show (some 0 : Option Nat).getD 0 = 0 from rfl, Nat.zero_testBit] at h1; cases h1
      · rw [show (none : Option Nat).getD 0 = 0 from rfl, Nat.zero_testBit] at h1; cases h1
theorem chk2 : chkFull 2 3 0 (1 :: List.replicate 2 0) = true := by decide +kernel
theorem chk3 : chkFull 3 5 0 (1 :: List.replicate 3 0) = true := by decide +kernel
theorem chk4 : chkFull 4 7 0 (1 :: List.replicate 4 0) = true := by decide +kernel
theorem chk5 : chkFull 5 9 0 (1 :: List.replicate 5 0) = true := by decide +kernel
theorem chk6 : chkFull 6 11 0 (1 :: List.replicate 6 0) = true := by decide +kernel
theorem egz_sorted {n : Nat} (h2 : 2 ≤ n) (h6 : n ≤ 6) : chkFull n (2 * n - 1) 0 (1 :: List.replicate n 0) = true := by
  have : n = 2 ∨ n = 3 ∨ n = 4 ∨ n = 5 ∨ n = 6 := by omega
  rcases this with rfl | rfl | rfl | rfl | rfl
  · exact chk2
  · exact chk3
  · exact chk4
  · exact chk5
  · exact chk6
theorem egz {n : Nat} (h2 : 2 ≤ n) (h6 : n ≤ 6) {row : List Nat} (hl : 2 * n - 1 ≤ row.length) (hr : ∀ x ∈ row, x < n) : ∃ sub : List Nat, sub.Sublist row ∧ sub.length = n ∧ sub.sum % n = 0 := by
  have hp : ((row.take (2 * n - 1)).mergeSort (fun a b => decide (a ≤ b))).Perm (row.take (2 * n - 1)) := List.mergeSort_perm _ _
  have hs : ((row.take (2 * n - 1)).mergeSort (fun a b => decide (a ≤ b))).Pairwise (· ≤ ·) := by
    have := List.pairwise_mergeSort (le := fun a b : Nat => decide (a ≤ b)) (fun a b c h1 h2 => by simp at *; omega) (fun a b => by simp; omega) (row.take (2 * n - 1))
    exact this.imp fun {a b} h => by simpa using h
  obtain ⟨sub, h1, h3, h4⟩ := chkFull_ok (egz_sorted h2 h6) (knows_start n (by omega) n) _ (by rw [hp.length_eq, List.length_take]; omega) hs fun x hx => ⟨Nat.zero_le _, hr x (List.mem_of_mem_take (hp.mem_iff.mp hx))⟩
  rw [List.nil_append] at h1
  obtain ⟨sub', h5, h6'⟩ := List.exists_perm_sublist h1 hp
  exact ⟨sub', h6'.trans (List.take_sublist _ _), by rw [h5.length_eq, h3], by rw [h5.sum_nat]; exact h4⟩
end CS

set_option maxRecDepth 100000
set_option maxHeartbeats 4000000
namespace CS
open PySem PySem.Spec PyProof.Rows L2
/-! ### set(xs), xs a list of hzs -/
abbrev emS (w : World) : Obj := { cls := .type "set", dict := none, data := .set #[] 0 (.fresh 0 0 (!w.params.followText "set-order")) }
section
variable {P : Program} {w : World} {A : Around} {E : Value → Shared → Prop} {s : Shared}
theorem set_ofL {l : Addr} {vs : Array Value} (zs : List Int) {Q : Value → Shared → Prop} (calm : A.handled = none) (isl : s.heap.IsList l vs) (hzs : IntsAre vs.toList zs) (small : zs.length + 1 < scanBound)
    (go : ∀ (h' : Heap) (tk c : Nat), SetR w h' s.heap.objs.size (fun j => decide (j ∈ zs)) c → c ≤ zs.length → (∀ b o, s.heap.get? b = some o → h'.get? b = some o) → Q (.ref s.heap.objs.size) { s with heap := h', toks := tk }) :
    wpAny (model P w) A (call (.type "set") [.ref l]) Q E s := by
  have size : vs.size = zs.length := by rw [← Array.length_toList]; exact IntsAre.length hzs
  obtain ⟨_, _, m1⟩ := F.called_set.mro
  have m2 := F.called_set.made
  have m3 := F.called_set.sub
  refine wpAny_call (codeAny_of_tree (show wpAny _ _ (callAny (.type "set") _) _ _ _ from ?_))
  refine wpAny_pure ⟨Code.quiet_builtin _ (by decide +kernel), codeAny_builtin F.entry_type_call (show wpAny _ _ _ _ _ _ from ?_)⟩
  rw [Around.under_plain (weight_type_call_type "set" [.ref l] []) rfl]
  have m4 := F.called_set.notType
  have m5 := F.called_set.canCreate
  have m6 := F.typeCall_set_1 (.ref l)
  repeat (any_goals (first | wp_step | assumption))
  refine codeAny_mono (code_set_led1 (.ref l) (E := E) (Q₁ := fun v s₁ => v = .ref s.heap.objs.size ∧ s₁ = { s with heap := s.heap.push (emS w) }) ⟨rfl, rfl⟩) fun r s₁ hr => ?_
  rcases r with e | (_ | _ | _ | v)
  case error => exact hr
  case ok.next => exact hr.elim
  case ok.brk => exact hr.elim
  case ok.cont => exact hr.elim
  obtain ⟨rfl, rfl⟩ := hr
  have gS : (s.heap.push (emS w)).get? s.heap.objs.size = some (emS w) := Heap.get?_push_size _ rfl
  have tS : Shared.TypeIs { s with heap := s.heap.push (emS w) } (.ref s.heap.objs.size) "set" := ⟨_, gS, rfl⟩
  have m7 := F.called_set.init.lookup
  have m8 := F.called_set.init.bind (.ref s.heap.objs.size)
  repeat (any_goals (first | wp_step | assumption))
  refine codeAny_mono (codeAny_call_builtin (R := wants (fun v s₂ => v = .none ∧ ∃ h' tk c, s₂ = { s with heap := h', toks := tk } ∧ SetR w h' s.heap.objs.size (fun j => decide (j ∈ zs)) c ∧ c ≤ zs.length ∧ (∀ b o, s.heap.get? b = some o → h'.get? b = some o)) E) F.called_set.init.plain F.entry_set_init (check_set_init_1 tS ?_)) fun r₂ s₂ hr₂ => ?_
  · obtain ⟨⟨k1, k2, k3, k4⟩, gl, cl, cn, dl⟩ := isl
    simp only at cl dl
    subst cl dl
    have gl' : (s.heap.push (emS w)).get? l = some { cls := .type "list", dict := k2, data := .seq vs cn, slots := k4 } := Heap.get?_push_of_some _ gl
    have n1 := F.sub_list_set
    have n2 := F.sub_list_frozenset
    have n3 : (Value.type "list" == Value.type "dict") = false := by decide
    have il : (s.heap.push (emS w)).IsList l vs := ⟨_, gl', rfl, cn, rfl⟩
    unfold Builtin.«set.__init__» noKeywords Builtin.Frozenset.updateFrom
    generalize hy : pyIter = py
    wp_walk
    subst hy
    refine wpAny_pyIter_list il (wpAny_bind (wpAny_runValue ?_))
    have ltl : l < s.heap.objs.size := Heap.lt_size gl
    have calm3 : A.in1.in1.in1.handled = none := by simp [calm]
    have sz : (s.heap.push (emS w)).objs.size = s.heap.objs.size + 1 := Heap.size_push ..
    have ne1 : l ≠ (s.heap.push (emS w)).objs.size := by rw [sz]; exact Nat.ne_of_lt (Nat.lt_succ_of_lt ltl)
    have ne2 : s.heap.objs.size ∉ [(s.heap.push (emS w)).objs.size, l] := by
      rw [sz]
      intro z
      rcases List.mem_cons.mp z with z | z
      · exact absurd z (Nat.ne_of_lt (Nat.lt_succ_self _))
      · exact absurd (List.mem_singleton.mp z) (Nat.ne_of_gt ltl)
    have vals : ∀ (i : Nat) (v : Value), vs[i]? = some v → ∃ k t, zs[i]? = some k ∧ v = .int k t := fun i v hv => by
      have lt : i < zs.length := by rw [← size]; exact (Array.getElem?_eq_some_iff.mp hv).1
      obtain ⟨t, e⟩ := IntsAre.int_at hzs i v (by rw [Array.getElem?_toList]; exact hv)
      refine ⟨zs[i], t, List.getElem?_eq_getElem lt, ?_⟩
      rw [e, List.getD_eq_getElem?_getD, List.getElem?_eq_getElem lt]; rfl
    refine set_update_ints ((Walks.list calm3 _ l ne1 vs).toS) s.heap.objs.size ne2 zs size small vals (vs.size - 0) 0 _ (by omega) (Nat.zero_le _) ⟨⟨_, Heap.get?_push_size _ rfl, rfl, rfl⟩, (il.push _)⟩ ⟨0, Nat.le_refl 0, setR_new_at (Heap.get?_push_of_some _ gS)⟩ fun s' c' hm hc' hS' => ?_
    obtain ⟨h', g2, d', tk', os'⟩ := s'
    obtain rfl : g2 = s.gens := hm.gens
    obtain rfl : d' = s.drawn := hm.drawn
    obtain rfl : os' = s.os := hm.os
    refine wpAny_pure (show wpAny _ _ (ret Value.none) _ _ _ from ?_)
    rw [size] at hc'
    refine wpAny_pure ⟨rfl, h', tk', c', rfl, hS', hc', fun b o e => ?_⟩
    have lb : b < s.heap.objs.size := Heap.lt_size e
    refine hm.heap b o (fun z => ?_) (Heap.get?_push_of_some _ (Heap.get?_push_of_some _ e))
    rcases List.mem_cons.mp z with z | z
    · exact absurd z (Nat.ne_of_lt lb)
    · have z := List.mem_singleton.mp z
      rw [sz] at z
      exact absurd z (Nat.ne_of_lt (Nat.lt_succ_of_lt lb))
  · rcases r₂ with e | (_ | _ | _ | v)
    case error => exact hr₂
    case ok.next => exact hr₂.elim
    case ok.brk => exact hr₂.elim
    case ok.cont => exact hr₂.elim
    obtain ⟨rfl, h', tk, c', rfl, hS', hc', hk'⟩ := hr₂
    repeat (any_goals (first | wp_step | assumption))
    exact go _ _ _ hS' hc' hk'
end
end CS

set_option maxRecDepth 100000
set_option maxHeartbeats 4000000
namespace CS
open PySem PySem.Spec PyProof.Rows L2
/-! ### ascending lists -/
def insI (x : Int) : List Int → List Int
  | [] => [x]
  | y :: r => if x < y then x :: y :: r else if x = y then y :: r else y :: insI x r
def asc (l : List Int) : List Int := l.foldr insI []
theorem mem_insI {x z : Int} : ∀ {l : List Int}, z ∈ insI x l ↔ z = x ∨ z ∈ l
  | [] => by simp [insI]
  | y :: r => by
    unfold insI
    split
    · simp
    · split
      · rename_i h; subst h; simp
      · rw [List.mem_cons, mem_insI (l := r), List.mem_cons]
        constructor
        · rintro (h | h | h) <;> simp [h]
        · rintro (h | h | h) <;> simp [h]
theorem insI_up {x : Int} : ∀ {l : List Int}, l.Pairwise (· < ·) → (insI x l).Pairwise (· < ·)
  | [], _ => by simp [insI]
  | y :: r, h => by
    obtain ⟨h1, h2⟩ := List.pairwise_cons.mp h
    unfold insI
    split
    · rename_i hx
      refine List.pairwise_cons.mpr ⟨fun z hz => ?_, h⟩
      rcases List.mem_cons.mp hz with rfl | hz
      · exact hx
      · have := h1 z hz; omega
    · split
      · exact h
      · refine List.pairwise_cons.mpr ⟨fun z hz => ?_, insI_up h2⟩
        rcases mem_insI.mp hz with rfl | hz
        · omega
        · exact h1 z hz
theorem mem_asc {z : Int} : ∀ {l : List Int}, z ∈ asc l ↔ z ∈ l
  | [] => by simp [asc]
  | y :: r => by
    show z ∈ insI y (asc r) ↔ _
    rw [mem_insI, mem_asc (l := r), List.mem_cons]
theorem asc_up : ∀ (l : List Int), (asc l).Pairwise (· < ·)
  | [] => .nil
  | y :: r => insI_up (asc_up r)
theorem up_eq : ∀ {l m : List Int}, l.Pairwise (· < ·) → m.Pairwise (· < ·) → (∀ z, z ∈ l ↔ z ∈ m) → l = m
  | [], [], _, _, _ => rfl
  | [], b :: m, _, _, h => by have := (h b).mpr List.mem_cons_self; cases this
  | a :: l, [], _, _, h => by have := (h a).mp List.mem_cons_self; cases this
  | a :: l, b :: m, hl, hm, h => by
    obtain ⟨l1, l2⟩ := List.pairwise_cons.mp hl
    obtain ⟨m1, m2⟩ := List.pairwise_cons.mp hm
    have e : a = b := by
      rcases List.mem_cons.mp ((h a).mp List.mem_cons_self) with e | e
      · exact e
      · rcases List.mem_cons.mp ((h b).mpr List.mem_cons_self) with e2 | e2
        · exact e2.symm
        · have := l1 b e2; have := m1 a e; omega
    subst e
    congr 1
    refine up_eq l2 m2 fun z => ?_
    have hz := h z
    rw [List.mem_cons, List.mem_cons] at hz
    constructor
    · intro q
      rcases hz.mp (.inr q) with rfl | r
      · have := l1 z q; omega
      · exact r
    · intro q
      rcases hz.mpr (.inr q) with rfl | r
      · have := m1 z q; omega
      · exact r
theorem asc_eq {l m : List Int} (hm : m.Pairwise (· < ·)) (h : ∀ z, z ∈ m ↔ z ∈ l) : m = asc l := up_eq hm (asc_up l) fun z => by rw [h, mem_asc]
theorem asc_same {l m : List Int} (h : ∀ z, z ∈ m ↔ z ∈ l) : asc m = asc l := asc_eq (asc_up m) fun z => by rw [mem_asc, h]
/-- between lo and hi there are at most so many -/
theorem up_len {lo hi : Int} : ∀ {l : List Int}, l.Pairwise (· < ·) → (∀ z ∈ l, lo ≤ z ∧ z < hi) → (l.length : Int) ≤ max (hi - lo) 0
  | [], _, _ => by simp; omega
  | a :: r, h, hb => by
    obtain ⟨h1, h2⟩ := List.pairwise_cons.mp h
    have ha := hb a List.mem_cons_self
    have := up_len (lo := a + 1) (hi := hi) h2 fun z hz => ⟨by have := h1 z hz; omega, (hb z (List.mem_cons_of_mem _ hz)).2⟩
    rw [List.length_cons]
    omega
theorem insI_len {x : Int} : ∀ {l : List Int}, x ∉ l → (insI x l).length = l.length + 1
  | [], _ => rfl
  | y :: r, h => by
    unfold insI
    split
    · rfl
    · split
      · rename_i e; exact absurd (by rw [e]; exact List.mem_cons_self) h
      · rw [List.length_cons, insI_len fun z => h (List.mem_cons_of_mem _ z)]; rfl
theorem asc_len : ∀ {l : List Int}, l.Nodup → (asc l).length = l.length
  | [], _ => rfl
  | y :: r, h => by
    obtain ⟨h1, h2⟩ := List.nodup_cons.mp h
    show (insI y (asc r)).length = _
    rw [insI_len fun z => h1 (mem_asc.mp z), asc_len h2]; rfl
theorem nodup_len {lo hi : Int} {l : List Int} (h : l.Nodup) (hb : ∀ z ∈ l, lo ≤ z ∧ z < hi) : (l.length : Int) ≤ max (hi - lo) 0 := by
  have h1 := asc_len h
  have h2 := up_len (asc_up l) fun z hz => hb z (mem_asc.mp hz)
  omega

/-! ### sorted(set(xs)) -/
def rSetL (K : PySem.W.Frag) (w : World) : List V → Hp → VK → Prop := fun vs H Q => ∃ (a : Addr) (ns : List Int), vs = [.ref a] ∧ SqL K H a (ns.map V.int) ∧ ns.length < 1000 ∧
  ∀ p c, H p = none → c ≤ ns.length → Q (.ref p) (upd H p (SetO w p (fun j => decide (j ∈ ns)) c))
theorem cr_setL {X : Cx} (hc : X.calm = true) : CallR X (.type "set") (rSetL X.K X.w) := by
  intro pins s σ H vs us Q I r h
  obtain ⟨a, ns, rfl, hs, hl, q⟩ := h
  obtain ⟨its, rv, pl, hz⟩ := I.list hs
  rw [Vals.ref1 r]
  refine set_ofL ns (I.ok.hd hc) pl.isList (by simpa using rv.ints) (by unfold scanBound; omega) fun h' tk c R hcn hk => ?_
  have hn : H s.heap.objs.size = none := I.hok.fresh (Nat.le_refl _)
  exact ⟨.ref _, _, I.laid (t' := tk) hk (Nat.le_refl _) (setO_new R), rfl, q _ c hn hcn⟩
section
variable {c : Cfg} {Γ : Gm} {e a b : Expr} {d : PyData} {pos p p2 pos2 : Pos} {ns : List Int}
theorem ev_sortedSet (ha : Ev c Γ a (pL ns)) (hl : ns.length < 64) (hm : c.mg "sorted" = none) (hg : glB c.sc "sorted" = true) (hm2 : c.mg "set" = none) (hg2 : glB c.sc "set" = true)
    (he : ∀ env, starEach [a] env = [(false, eval a env)] := by intro _; rfl) : Ev c Γ (.Call (.Name "sorted" p) [.Call (.Name "set" p2) [a] [] pos2] [] pos) (pL (asc ns)) := fun X cf σ W Q s q => by
  refine wE_of (pe_callB (cr_sortedSet cf.calm) (gl_of cf hg) (by rw [cf.mg]; exact hm) (by decide +kernel) (pa_cons (pe_callTy (cr_setL cf.calm) (gl_of cf hg2) (by rw [cf.mg]; exact hm2) (by decide +kernel) (pa_cons pe_w pa_nil (he _)) (by decide) (by decide) (he _) rfl) pa_nil rfl) (by decide) (by decide) rfl rfl) ?_
  refine ha X cf σ W _ s fun v W1 e1 r1 => ?_
  obtain ⟨u, rfl, h1⟩ := dp_pL_inv r1
  refine ⟨u, ns, rfl, W1.sl h1, by omega, fun q1 n hq hn => ?_⟩
  have x2 := Wx.new (o := SetO X.w q1 (fun j => decide (j ∈ ns)) n) hq
  refine ⟨q1, _, n, rfl, upd_same, by omega, fun ys p hy hm _ hp => ?_⟩
  have ey : ys = asc ns := asc_eq hy fun z => by rw [hm, decide_eq_true_eq]
  subst ey
  have x3 := Wx.new (W := W1.new q1 (SetO X.w q1 (fun j => decide (j ∈ ns)) n)) (o := .lst ((asc ns).map V.int)) hp
  exact q _ _ ((e1.trans x2).trans x3) (.lst (SqL.of upd_same) (dpa_of_ints _))
/-- xs sorted, all kept -/
def insL (x : Int) : List Int → List Int
  | [] => [x]
  | y :: r => if x ≤ y then x :: y :: r else y :: insL x r
def srt (l : List Int) : List Int := l.foldr insL []
theorem insL_perm (x : Int) : ∀ l : List Int, (insL x l).Perm (x :: l)
  | [] => .refl _
  | y :: r => by
    unfold insL
    split
    · exact .refl _
    · exact ((insL_perm x r).cons y).trans (.swap _ _ _)
theorem srt_perm : ∀ l : List Int, (srt l).Perm l
  | [] => .refl _
  | y :: r => (insL_perm y (srt r)).trans ((srt_perm r).cons y)
theorem insL_up {x : Int} : ∀ {l : List Int}, l.Pairwise (· ≤ ·) → (insL x l).Pairwise (· ≤ ·)
  | [], _ => by simp [insL]
  | y :: r, h => by
    obtain ⟨h1, h2⟩ := List.pairwise_cons.mp h
    unfold insL
    split
    · rename_i hx
      refine List.pairwise_cons.mpr ⟨fun z hz => ?_, h⟩
      rcases List.mem_cons.mp hz with rfl | hz
      · exact hx
      · have := h1 z hz; omega
    · refine List.pairwise_cons.mpr ⟨fun z hz => ?_, insL_up h2⟩
      rcases List.mem_cons.mp ((insL_perm x r).mem_iff.mp hz) with rfl | hz
      · omega
      · exact h1 z hz
theorem srt_up : ∀ l : List Int, (srt l).Pairwise (· ≤ ·)
  | [] => .nil
  | y :: r => insL_up (srt_up r)
theorem le_eq : ∀ {l m : List Int}, l.Pairwise (· ≤ ·) → m.Pairwise (· ≤ ·) → l.Perm m → l = m := fun h1 h2 hp => hp.eq_of_pairwise (fun a b _ _ x y => by omega) h1 h2
theorem srt_eq {l m : List Int} (h : m.Perm l) (hm : m.Pairwise (· ≤ ·)) : m = srt l := le_eq hm (srt_up l) (h.trans (srt_perm l).symm)
theorem srt_same {l m : List Int} (h : m.Perm l) : srt m = srt l := srt_eq ((srt_perm m).trans h) (srt_up m)
theorem srt_id {l : List Int} (h : l.Pairwise (· ≤ ·)) : srt l = l := (srt_eq (.refl _) h).symm
theorem mem_srt {l : List Int} {z : Int} : z ∈ srt l ↔ z ∈ l := (srt_perm l).mem_iff
theorem srt_len (l : List Int) : (srt l).length = l.length := (srt_perm l).length_eq
theorem ev_sortedL (ha : Ev c Γ a (pL ns)) (hm : c.mg "sorted" = none) (hg : glB c.sc "sorted" = true) (he : ∀ env, starEach [a] env = [(false, eval a env)] := by intro _; rfl) : Ev c Γ (.Call (.Name "sorted" p) [a] [] pos) (pL (srt ns)) :=
  ev_blt hm (by decide +kernel) (ea_cons ha ea_nil he) (fun X cf => ⟨_, cr_sortedI, fun vs W Q h q => by
    obtain ⟨v, rfl, h1⟩ := dpa1 h
    obtain ⟨u, rfl, h2⟩ := dp_pL_inv h1
    refine ⟨u, ns, rfl, W.sl h2, fun ys p hp hy hq => ?_⟩
    have ey : ys = srt ns := srt_eq hp hy
    subst ey
    exact q _ _ (Wx.new hq) (.lst (SqL.of upd_same) (dpa_of_ints _))⟩) hg (he := he)
end

/-! ### an owned dict of ints -/
def kvT (ks : List Int) : List (Key × V) := ks.map fun k => (Sum.inl k, V.bl true)
def addK (ks : List Int) (k : Int) : List Int := if k ∈ ks then ks else ks ++ [k]
theorem putK_kvT (ks : List Int) (k : Int) : putK (kvT ks) (Sum.inl k) (.bl true) = kvT (addK ks k) := by
  unfold putK addK
  have e : ((kvT ks).any fun kv => decide (kv.1 = Sum.inl k)) = decide (k ∈ ks) := by
    rw [Bool.eq_iff_iff, decide_eq_true_eq, List.any_eq_true]
    constructor
    · rintro ⟨x, hx, h⟩
      obtain ⟨j, hj, rfl⟩ := List.mem_map.mp hx
      have h := of_decide_eq_true h
      cases h
      exact hj
    · intro h
      exact ⟨_, List.mem_map.mpr ⟨k, h, rfl⟩, decide_eq_true rfl⟩
  rw [e]
  by_cases h : k ∈ ks
  · rw [if_pos (decide_eq_true h), if_pos h]
    unfold kvT
    rw [List.map_map]
    refine List.map_congr_left fun j _ => ?_
    show (if (Sum.inl j : Key) = Sum.inl k then (Sum.inl j, V.bl true) else (Sum.inl j, V.bl true)) = _
    split <;> rfl
  · rw [if_neg (by simpa using h), if_neg h]
    unfold kvT
    rw [List.map_append]; rfl
structure OwD (W : Wd) (q : Addr) (ks : List Int) : Prop where
  n : W.s q = none
  at_ : W.h q = some (.dK (kvT ks))
theorem OwD.ex {W W1 : Wd} {q : Addr} {ks : List Int} (h : OwD W q ks) (e : Wx W W1) : OwD W1 q ks := ⟨e.av _ _ h.at_ h.n, e.h _ _ h.at_⟩
section
variable {c : Cfg} {X : Cx} {Γ : Gm} {e a b tg iter elt : Expr} {d da db dc : PyData} {es ifs : List Expr} {ds xs : List PyData} {pos p p2 p3 p4 : Pos} {x y : Str} {st : Stmt} {ss body orelse : List Stmt} {D : Ends} {σ : St} {W W0 : Wd} {q : Addr} {ks : List Int}
/-- x = {} -/
theorem st_newD (sf : Sf c X) (hs : SlOk X.K W.s σ Γ) (i : Nat) (hN : c.N[i]? = some x) (hl : locB c.sc x = true)
    (h : ∀ q W2, W.h q = none → OwD W2 q [] → Wx W W2 → SlOk X.K W2.s (σ.set i (some (.ref q))) (Γ.set i none) → wSs X ss D (σ.set i (some (.ref q))) W2.h) : wSs X (.Assign [.Name x p] (.Dict [] [] p2) pos :: ss) D σ W.h := by
  refine ss_cons (wS_of (ps_set (i := i) sf.nd (by rw [sf.N]; exact hN) (by rw [sf.sc]; exact loc_of hl) pe_dnewK rfl (.inl (sf.fn _))) ?_)
  intro q hq
  exact h q (W.own q (.dK []) (W.free hq)) hq ⟨W.free hq, upd_same⟩ (Wx.refl.own hq) (hs.setAny i)
/-- x[e] = True -/
theorem st_dput {j : Nat} {k : Int} (sf : Sf c X) (hs : SlOk X.K W.s σ Γ) (i : Nat) (hi : σ[i]? = some (some (.ref q))) (ho : OwD W q ks) (x0 : Wx W0 W) (n0 : W0.h q = none) (he : Ev c Γ e (.int k)) (hN : c.N[i]? = some x) (hv : visB c.sc x = true) (hl : ks.length < 100000)
    (h : ∀ W2, Wx W0 W2 → Ex W.s W2.s → OwD W2 q (addK ks k) → SlOk X.K W2.s σ Γ → wSs X ss D σ W2.h)
    (hw : ∀ env, swapsWith (.Constant (.bool true) j p3) (some (.Subscript (.Name x p) e p2)) pos.line env = pure false := by intro _; rfl)
    (hd : (x == ("__debug__" : Str)) = false := by decide) (hcd : (x == ("__classdict__" : Str)) = false := by decide) : wSs X (.Assign [.Subscript (.Name x p) e p2] (.Constant (.bool true) j p3) pos :: ss) D σ W.h := by
  refine ss_cons (wS_of (ps_dput (by have := sf.room.units; omega) (pe_var (i := i) (by rw [sf.N]; exact hN) (by rw [sf.sc]; exact vis_of hv) hd hcd) pe_w pe_bl (hw _)) ?_)
  refine ⟨_, hi, ?_⟩
  refine he X sf.toCf σ W _ hs fun v W1 e1 r1 => ?_
  cases dp_int_inv r1
  have o1 := ho.ex e1
  refine ⟨q, _, rfl, DPut.k (k := Sum.inl k) o1.at_ (by unfold kvT; rw [List.length_map]; exact Nat.lt_of_lt_of_le hl (by decide)), ?_⟩
  rw [putK_kvT]
  exact h (W1.own q _ o1.n) ((x0.trans e1).own n0) e1.s ⟨o1.n, upd_same⟩ (hs.ex e1.s)
/-- [elt for tg in x], x an owned dict; x0: what is seen of it -/
theorem lc_dict {scope : Scope} {own : List (Str × Nat)} {P : PyData → Bool} {f : PyData → PyData} {bind : PyData → Gm} {Q : VK} (cf : Cf c X) (hs : SlOk X.K W.s σ Γ) (i : Nat) (hi : σ[i]? = some (some (.ref q))) (ho : OwD W q ks) (hN : c.N[i]? = some x) (hv : visB c.sc x = true) (hl : ks.length ≤ 100000) (hb : blkC c.N c.sc scope own = true)
    (hg : ∀ d ∈ iL ks, TgOk (c.blk scope) scope tg (own.map (·.2)) (wipeG Γ (own.map (·.2))) d (bind d))
    (ht : ∀ d ∈ iL ks, EvTs (c.blk scope) (bind d) ifs (P d)) (he : ∀ d ∈ iL ks, P d = true → Ev (c.blk scope) (bind d) elt (f d))
    (h : ∀ p xs W', Wx W W' → W.h p = none → W'.s p = some (.lst xs) → DpAll X.K W'.s xs (((iL ks).filter P).map f) → Q (.ref p) W'.h)
    (hd : (x == ("__debug__" : Str)) = false := by decide) (hcd : (x == ("__classdict__" : Str)) = false := by decide) : wE X (.ListComp elt [⟨tg, .Name x p, ifs, 0⟩] scope pos) σ W.h Q := by
  refine wE_of (pe_lock (pe_lc (own := own) (wi := iKeys (tVar i)) (g := gBlk X scope tg) (tt := tBlk X scope ifs) (te := eBlk X scope elt)
    cf.calm cf.nd (pi_keys (pe_var (i := i) (by rw [cf.N]; exact hN) (by rw [cf.sc]; exact vis_of hv) hd hcd)) (blkOk_by (by rw [cf.N, cf.sc]; exact hb)) (fun s H0 C cl fp => ⟨fun pins s' σ H v u Q I r h => h s H0 C cl fp pins s' u I r⟩)
    (fun s H0 C cl fp => ⟨fun pins s' σ H Q I h => h s H0 C cl fp pins s' I⟩) (fun s H0 C cl fp => ⟨fun pins s' σ H Q I h => h s H0 C cl fp pins s' I⟩) (fun _ => rfl))) ?_
  refine ⟨q, _, ho.at_, trivial, fun od => ?_⟩
  have key := lc_read (W := W.own q (.frz od (.dK (kvT ks))) ho.n) (wi := iKeys (tVar i)) (ds := iL ks) (own := own) (P := P) (f := f) (bind := bind) (Q := fun v H' => H' q = some (.frz od (.dK (kvT ks))) ∧ Q v (upd H' q (.dK (kvT ks)))) (by rw [List.length_map]; exact hl) hg ht he X cf σ
  refine key hs (fun R hR => ?_) fun p xs W2 x2 n2 h2 d2 => ?_
  · refine ⟨_, hi, q, od, rfl, .inl ⟨kvT ks, upd_same, ?_⟩⟩
    refine hR _ (W.own q (.frz od (.dK (kvT ks))) ho.n) Wx.refl ⟨fun j W3 d x3 g => ?_, fun j W3 z H' d x3 g y => ?_, fun j W3 x3 g => ?_⟩
    · refine ⟨x3.h _ _ upd_same, ?_⟩
      obtain ⟨g1, _⟩ := List.getElem?_eq_some_iff.mp g
      unfold kvT
      rw [List.length_map] at g1 ⊢
      exact g1
    · obtain ⟨rfl, k, v, g2, rfl⟩ := y
      refine ⟨W3, rfl, Wx.refl, ?_⟩
      unfold kvT at g2
      rw [List.getElem?_map] at g2 g
      cases hk : ks[j]? with
      | none => rw [hk] at g; cases g
      | some z =>
        rw [hk] at g g2
        cases g2
        cases g
        exact .int z
    · refine ⟨x3.h _ _ upd_same, ?_⟩
      unfold kvT
      rw [List.length_map] at g ⊢
      exact Nat.le_of_eq g
  · have hq2 : W2.h q = some (.frz od (.dK (kvT ks))) := x2.h _ _ upd_same
    have nq2 : W2.s q = none := x2.av _ _ upd_same ho.n
    have np : p ≠ q := fun z => by
      subst z
      rw [nq2] at h2
      cases h2
    refine ⟨hq2, h p xs (W2.own q _ nq2) ⟨x2.s, fun a u g => ?_, fun a u g m => ?_⟩ ?_ h2 d2⟩
    · show upd W2.h q _ a = some u
      by_cases ea : a = q
      · subst ea
        rw [ho.at_] at g
        rw [upd_same]
        exact g
      · rw [upd_ne ea]
        exact x2.h a u (by show upd W.h q _ a = some u; rw [upd_ne ea]; exact g)
    · by_cases ea : a = q
      · subst ea
        exact nq2
      · exact x2.av a u (by show upd W.h q _ a = some u; rw [upd_ne ea]; exact g) m
    · have : upd W.h q (.frz od (.dK (kvT ks))) p = none := n2
      rw [upd_ne np] at this
      exact this
/-- sorted(x), x an owned dict -/
theorem sorted_dict {Q : VK} (cf : Cf c X) (i : Nat) (hi : σ[i]? = some (some (.ref q))) (ho : OwD W q ks) (nd : ks.Nodup) (hN : c.N[i]? = some x) (hv : visB c.sc x = true) (hl : ks.length < 64) (hm : c.mg "sorted" = none) (hg : glB c.sc "sorted" = true)
    (h : ∀ v W', Wx W W' → Dp X.K W'.s v (pL (asc ks)) → Q v W'.h)
    (hd : (x == ("__debug__" : Str)) = false := by decide) (hcd : (x == ("__classdict__" : Str)) = false := by decide) : wE X (.Call (.Name "sorted" p) [.Name x p2] [] pos) σ W.h Q := by
  refine wE_of (pe_callB (call_sortedDI cf.calm) (gl_of cf hg) (by rw [cf.mg]; exact hm) (by decide +kernel) (pa_cons (pe_var (i := i) (by rw [cf.N]; exact hN) (by rw [cf.sc]; exact vis_of hv) hd hcd) pa_nil rfl) (by decide) (by decide) rfl rfl) ?_
  refine ⟨_, hi, q, _, ks, rfl, .inl ho.at_, ?_, hl, fun ys p hp hy hq => ?_⟩
  · unfold kvT; rw [List.map_map]; rfl
  · have up : ys.Pairwise (· < ·) := by
      have n2 : ys.Nodup := hp.nodup_iff.mpr nd
      rw [List.pairwise_iff_getElem] at hy ⊢
      intro i j hi hj hij
      have := hy i j hi hj hij
      have := List.pairwise_iff_getElem.mp n2 i j hi hj hij
      omega
    have ey : ys = asc ks := asc_eq up fun z => hp.mem_iff
    subst ey
    exact h _ _ (Wx.new hq) (.lst (SqL.of upd_same) (dpa_of_ints _))
/-- x = e, e read here -/
theorem st_setAt (sf : Sf c X) (hs : SlOk X.K W.s σ Γ) (i : Nat) (he : ∀ Q : VK, (∀ v W', Wx W W' → Dp X.K W'.s v d → Q v W'.h) → wE X e σ W.h Q) (hN : c.N[i]? = some x) (hl : locB c.sc x = true)
    (h : ∀ v W', Wx W W' → Dp X.K W'.s v d → SlOk X.K W'.s (σ.set i (some v)) (Γ.set i (some d)) → wSs X ss D (σ.set i (some v)) W'.h)
    (hw : ∀ env, swapsWith e (some (.Name x p)) pos.line env = pure false := by intro _; rfl) : wSs X (.Assign [.Name x p] e pos :: ss) D σ W.h := by
  refine ss_cons (wS_of (ps_set (i := i) sf.nd (by rw [sf.N]; exact hN) (by rw [sf.sc]; exact loc_of hl) pe_w (hw _) (.inl (sf.fn _))) ?_)
  exact he _ fun v W1 e1 r1 => h v W1 e1 r1 ((hs.ex e1.s).set i r1)
theorem st_retAt (he : ∀ Q : VK, (∀ v W', Wx W W' → Dp X.K W'.s v d → Q v W'.h) → wE X e σ W.h Q) (h : ∀ v W', Wx W W' → Dp X.K W'.s v d → D.rt v W'.h) : wSs X (.Return (some e) pos :: ss) D σ W.h := by
  refine ss_cons (wS_of (ps_ret pe_w) ?_)
  exact he _ fun v W1 e1 r1 => h v W1 e1 r1
/-- a + b, lists, b read here -/
theorem catAt {xs ys : List PyData} {Q : VK} (cf : Cf c X) (hs : SlOk X.K W.s σ Γ) (ha : Ev c Γ a (.list xs)) (hb : ∀ W1, Wx W W1 → ∀ Q : VK, (∀ v W', Wx W1 W' → Dp X.K W'.s v (.list ys) → Q v W'.h) → wE X b σ W1.h Q) (hl : xs.length + ys.length ≤ 100000)
    (h : ∀ v W', Wx W W' → Dp X.K W'.s v (.list (xs ++ ys)) → Q v W'.h) : wE X (.BinOp a .Add b pos) σ W.h Q := by
  refine wE_of (pe_op op_catL pe_w pe_w) ?_
  refine ha X cf σ W _ hs fun u W1 e1 r1 => ?_
  refine hb W1 e1 _ fun v W2 e2 r2 => ?_
  obtain ⟨p1, us, rfl, h1, h2⟩ := dp_list_inv (dp_ex e2.s r1)
  obtain ⟨p2, ws, rfl, h3, h4⟩ := dp_list_inv r2
  have l1 := dpa_len h2
  have l2 := dpa_len h4
  refine ⟨p1, p2, us, ws, rfl, rfl, W2.sl h1, W2.sl h3, Nat.le_trans (by omega) (show 100000 ≤ sizeLine by decide), fun p hp => ?_⟩
  exact h _ (W2.new p _) ((e1.trans e2).trans (Wx.new hp)) (.lst (SqL.of upd_same) (dpa_app (dpa_ex (Wx.new hp).s h2) (dpa_ex (Wx.new hp).s h4)))
end
end CS

set_option maxRecDepth 100000
set_option maxHeartbeats 4000000
namespace CS
open PySem PySem.Spec PyProof.Rows L2
/-! ### reached remainders -/
def Rem (n : Int) (row : List Int) : Prop := ∀ x ∈ row, 0 ≤ x ∧ x < n
def rchStep (n : Int) (f : List Int) (x : Int) : List Int := asc (f ++ [x] ++ f.map fun s => (s + x) % n)
def rch (n : Int) (row : List Int) : List Int := row.foldl (rchStep n) []
theorem rch_snoc (n : Int) (row : List Int) (x : Int) : rch n (row ++ [x]) = rchStep n (rch n row) x := by
  unfold rch
  rw [List.foldl_append]
  rfl
theorem rch_take {n : Int} {row : List Int} {i : Nat} {x : Int} (h : row[i]? = some x) : rch n (row.take (i + 1)) = rchStep n (rch n (row.take i)) x := by
  rw [take_succ' h, rch_snoc]
theorem mem_rchStep {n : Int} {f : List Int} {x z : Int} : z ∈ rchStep n f x ↔ z ∈ f ∨ z = x ∨ ∃ s ∈ f, (s + x) % n = z := by
  unfold rchStep
  rw [mem_asc, List.mem_append, List.mem_append, List.mem_singleton, List.mem_map, or_assoc]
theorem rev_ind {α : Type} {P : List α → Prop} (h0 : P []) (h1 : ∀ l x, P l → P (l ++ [x])) : ∀ l, P l := by
  intro l
  rw [← List.reverse_reverse l]
  induction l.reverse with
  | nil => exact h0
  | cons a r ih => rw [List.reverse_cons]; exact h1 _ _ ih
theorem Rem.app {n : Int} {l m : List Int} : Rem n (l ++ m) ↔ Rem n l ∧ Rem n m := by
  unfold Rem
  constructor
  · intro h
    exact ⟨fun x hx => h x (List.mem_append_left _ hx), fun x hx => h x (List.mem_append_right _ hx)⟩
  · rintro ⟨h1, h2⟩ x hx
    rcases List.mem_append.mp hx with hx | hx
    · exact h1 x hx
    · exact h2 x hx
theorem Rem.sub {n : Int} {l m : List Int} (h : Rem n m) (s : ∀ x ∈ l, x ∈ m) : Rem n l := fun x hx => h x (s x hx)
theorem Rem.take {n : Int} {l : List Int} (h : Rem n l) (i : Nat) : Rem n (l.take i) := h.sub fun x hx => List.mem_of_mem_take hx
theorem rch_rem {n : Int} (hn : 0 < n) : ∀ row : List Int, Rem n row → Rem n (rch n row) := by
  refine rev_ind (fun _ x hx => by cases hx) fun l x ih h => ?_
  obtain ⟨h1, h2⟩ := Rem.app.mp h
  rw [rch_snoc]
  intro z hz
  rcases mem_rchStep.mp hz with hz | rfl | ⟨s, hs, rfl⟩
  · exact ih h1 z hz
  · exact h2 z List.mem_cons_self
  · exact ⟨Int.emod_nonneg _ (by omega), Int.emod_lt_of_pos _ hn⟩
theorem rch_up (n : Int) : ∀ row : List Int, (rch n row).Pairwise (· < ·) := by
  refine rev_ind .nil fun l x ih => ?_
  rw [rch_snoc]
  exact asc_up _
theorem rch_len {n : Int} (hn : 0 < n) {row : List Int} (h : Rem n row) : ((rch n row).length : Int) ≤ n := by
  have := up_len (rch_up n row) (rch_rem hn row h)
  omega
theorem sub_snoc {α : Type} {s l : List α} {x : α} : s.Sublist (l ++ [x]) ↔ s.Sublist l ∨ ∃ t, s = t ++ [x] ∧ t.Sublist l := by
  constructor
  · intro h
    obtain ⟨s1, s2, rfl, h1, h2⟩ := List.sublist_append_iff.mp h
    rcases List.sublist_cons_iff.mp h2 with h3 | ⟨r, rfl, h3⟩
    · rw [List.sublist_nil.mp h3, List.append_nil]
      exact .inl h1
    · rw [List.sublist_nil.mp h3]
      exact .inr ⟨s1, rfl, h1⟩
  · rintro (h | ⟨t, rfl, h⟩)
    · exact h.trans (List.sublist_append_left _ _)
    · exact h.append (.refl _)
theorem mem_rch {n : Int} (hn : 0 < n) : ∀ (row : List Int), Rem n row → ∀ z, z ∈ rch n row ↔ ∃ s : List Int, s.Sublist row ∧ s ≠ [] ∧ s.sum % n = z := by
  refine rev_ind (fun _ z => ?_) fun l x ih h z => ?_
  · constructor
    · intro h; cases h
    · rintro ⟨s, h1, h2, _⟩
      cases h1
      exact absurd rfl h2
  · obtain ⟨h1, h2⟩ := Rem.app.mp h
    have hx := h2 x List.mem_cons_self
    rw [rch_snoc, mem_rchStep]
    constructor
    · rintro (hz | rfl | ⟨s, hs, rfl⟩)
      · obtain ⟨s, a, b, c⟩ := (ih h1 z).mp hz
        exact ⟨s, a.trans (List.sublist_append_left _ _), b, c⟩
      · refine ⟨[z], List.sublist_append_right _ _, by simp, ?_⟩
        rw [List.sum_singleton, Int.emod_eq_of_lt hx.1 hx.2]
      · obtain ⟨t, a, b, rfl⟩ := (ih h1 s).mp hs
        refine ⟨t ++ [x], a.append (.refl _), by simp, ?_⟩
        rw [List.sum_append, List.sum_singleton, Int.emod_add_emod]
    · rintro ⟨s, a, b, rfl⟩
      rcases sub_snoc.mp a with a2 | ⟨t, rfl, a2⟩
      · exact .inl ((ih h1 _).mpr ⟨s, a2, b, rfl⟩)
      · rw [List.sum_append, List.sum_singleton]
        by_cases ht : t = []
        · subst ht
          refine .inr (.inl ?_)
          rw [List.sum_nil, Int.zero_add, Int.emod_eq_of_lt hx.1 hx.2]
        · exact .inr (.inr ⟨t.sum % n, (ih h1 _).mpr ⟨t, a2, ht, rfl⟩, by rw [Int.emod_add_emod]⟩)
def Rrch : List PyData → PyData → Prop := fun ds d => ∃ (n : Int) (row : List Int), 2 ≤ n ∧ n ≤ 12 ∧ Rem n row ∧ row.length ≤ 100 ∧ (ds = [.int n, pT row] ∨ ds = [.int n, pL row]) ∧ d = pL (rch n row)
theorem rchT {n : Int} {row : List Int} (h1 : 2 ≤ n) (h2 : n ≤ 12) (h : Rem n row) (hl : row.length ≤ 100) : Rrch [.int n, pT row] (pL (rch n row)) := ⟨n, row, h1, h2, h, hl, .inl rfl, rfl⟩
theorem rchL {n : Int} {row : List Int} (h1 : 2 ≤ n) (h2 : n ≤ 12) (h : Rem n row) (hl : row.length ≤ 100) : Rrch [.int n, pL row] (pL (rch n row)) := ⟨n, row, h1, h2, h, hl, .inr rfl, rfl⟩
/-- the keys met -/
def keyStep (n : Int) (ks : List Int) (x : Int) : List Int := (x :: ks.map fun s => (s + x) % n).foldl addK ks
theorem mem_addK {ks : List Int} {k z : Int} : z ∈ addK ks k ↔ z ∈ ks ∨ z = k := by
  unfold addK
  split
  · rename_i h
    constructor
    · exact .inl
    · rintro (h2 | rfl)
      · exact h2
      · exact h
  · rw [List.mem_append, List.mem_singleton]
theorem mem_addKs {z : Int} : ∀ {l ks : List Int}, z ∈ l.foldl addK ks ↔ z ∈ ks ∨ z ∈ l
  | [], ks => by simp
  | x :: r, ks => by
    rw [List.foldl_cons, mem_addKs (l := r), mem_addK, List.mem_cons, or_assoc]
theorem addK_nodup {ks : List Int} {k : Int} (h : ks.Nodup) : (addK ks k).Nodup := by
  unfold addK
  split
  · exact h
  · rename_i q
    exact List.nodup_append.mpr ⟨h, by simp, fun a ha b hb => by
      rw [List.mem_singleton] at hb
      subst hb
      intro e
      subst e
      exact q ha⟩
theorem addKs_nodup : ∀ {l ks : List Int}, ks.Nodup → (l.foldl addK ks).Nodup
  | [], ks, h => h
  | x :: r, ks, h => addKs_nodup (l := r) (addK_nodup h)
theorem take_fold {l ks : List Int} {i : Nat} {x : Int} (h : l[i]? = some x) : (l.take (i + 1)).foldl addK ks = addK ((l.take i).foldl addK ks) x := by
  rw [take_succ' h, List.foldl_append]; rfl
theorem get_iL {l : List Int} {i : Nat} {d : PyData} (h : (iL l)[i]? = some d) : ∃ x, l[i]? = some x ∧ d = .int x := by
  rw [List.getElem?_map] at h
  cases q : l[i]? with
  | none => rw [q] at h; cases h
  | some x => rw [q] at h; exact ⟨x, rfl, (Option.some.inj h).symm⟩
end CS

set_option maxRecDepth 100000
set_option maxHeartbeats 4000000
namespace CS
open PySem PySem.Spec PyProof.Rows L2
/-! ### a, b = e, e2 -/
def notStar : Expr → Bool
  | .Starred .. => false
  | _ => true
theorem sw_par {sc : Scope} {env : Env} {x y : Str} {px py pt pt2 : Pos} {kt k2 : Nat} {a b : Expr} (he : env.scope = sc) (hk : sc.kind = .function) (hx : sc.names.lookup x = some .local) (hy : sc.names.lookup y = some .local) (hxy : ([x, y].eraseDups.length != 2) = false)
    (hl : (py.line == px.line) = true) (h1 : ([a, b].all (foldedForSure 8)) = false) (h2 : ([a, b].all (constantsAlone 8)) = false) (h3 : ([a, b].any fun | .Starred .. => true | _ => false) = false) :
    swappedStores [.Tuple [.Name x px, .Name y py] kt pt] (.Tuple [a, b] k2 pt2) env = pure (some [x, y]) := by
  subst he
  have kx : env.kindOf x = some .local := hx
  have ky : env.kindOf y = some .local := hy
  have hb : env.blockKind = .function := by unfold Env.blockKind; rw [hk]; rfl
  have e1 : (px.line == px.line) = true := beq_self_eq_true _
  unfold swappedStores
  simp only [hb, List.filterMap_cons, List.filterMap_nil, kx, ky, Expr.pos, List.head?_cons, Option.map_some, Option.getD_some, hl, e1, h1, h2]
  simp only [List.length_cons, List.length_nil]
  refine (if_neg (by decide)).trans ?_
  refine (if_neg (fun z => Bool.noConfusion (z.symm.trans h3))).trans ?_
  refine (if_neg (fun z => Bool.noConfusion (z.symm.trans (show _ = false from hxy)))).trans ?_
  rfl
section
variable {c : Cfg} {X : Cx} {Γ : Gm} {e a b tg iter elt ie : Expr} {d da db dc : PyData} {es ifs : List Expr} {ds xs : List PyData} {pos p p2 p3 p4 px py pt pt2 : Pos} {x y : Str} {st : Stmt} {ss body orelse : List Stmt} {D : Ends} {σ : St} {W W0 : Wd} {q : Addr} {ks : List Int} {kt k2 : Nat}
theorem st_par (sf : Sf c X) (hs : SlOk X.K W.s σ Γ) (i j : Nat) (ha : Ev c Γ a da) (hb : Ev c Γ b db) (hi : c.N[i]? = some x) (hj : c.N[j]? = some y) (hij : i ≠ j) (hx : c.sc.names.lookup x = some .local) (hy : c.sc.names.lookup y = some .local) (hk : c.sc.kind = .function)
    (h : ∀ v w W', Wx W W' → SlOk X.K W'.s ((σ.set i (some v)).set j (some w)) ((Γ.set i (some da)).set j (some db)) → wSs X ss D ((σ.set i (some v)).set j (some w)) W'.h)
    (hxy : ([x, y].eraseDups.length != 2) = false := by decide) (hl : (py.line == px.line) = true := by decide) (h1 : ([a, b].all (foldedForSure 8)) = false := by rfl) (h2 : ([a, b].all (constantsAlone 8)) = false := by rfl) (h3 : ([a, b].any fun | .Starred .. => true | _ => false) = false := by rfl)
    (hsE : ∀ env, starEach [a, b] env = (false, eval a env) :: starEach [b] env := by intro _; rfl) (hsE2 : ∀ env, starEach [b] env = [(false, eval b env)] := by intro _; rfl)
    (hsw : ∀ env, swapsWithSole [.Tuple [.Name x px, .Name y py] kt pt] (.Tuple [a, b] k2 pt2) pos.line env = pure false := by intro _; rfl) : wSs X (.Assign [.Tuple [.Name x px, .Name y py] kt pt] (.Tuple [a, b] k2 pt2) pos :: ss) D σ W.h := by
  refine ss_cons (wS_of (ps_par (i := i) (j := j) sf.calm sf.nd (by rw [sf.N]; exact hi) (by rw [sf.N]; exact hj) hij (by rw [sf.sc]; exact hx) (by rw [sf.sc]; exact hy) pa_w (sw_par sf.sc hk hx hy hxy hl h1 h2 h3) (hsw _)) ?_)
  refine ea_cons ha (ea_cons hb ea_nil hsE2) hsE X sf.toCf σ W _ hs fun vs W1 e1 r1 => ?_
  obtain ⟨v, w, rfl, d1, d2⟩ := dpa2 r1
  exact ⟨v, w, rfl, h v w W1 e1 (((hs.ex e1.s).set i d1).set j d2)⟩
/-- x, y = [], e -/
theorem st_parL (sf : Sf c X) (hs : SlOk X.K W.s σ Γ) (i j : Nat) (hb : Ev c Γ b db) (hi : c.N[i]? = some x) (hj : c.N[j]? = some y) (hij : i ≠ j) (hx : c.sc.names.lookup x = some .local) (hy : c.sc.names.lookup y = some .local) (hk : c.sc.kind = .function)
    (h : ∀ q w W', W.h q = none → OwL X.K W' q [] → Wx W W' → SlOk X.K W'.s ((σ.set i (some (.ref q))).set j (some w)) ((Γ.set i none).set j (some db)) → wSs X ss D ((σ.set i (some (.ref q))).set j (some w)) W'.h)
    (hxy : ([x, y].eraseDups.length != 2) = false := by decide) (hl : (py.line == px.line) = true := by decide) (h1 : ([.List [] p, b].all (foldedForSure 8)) = false := by rfl) (h2 : ([.List [] p, b].all (constantsAlone 8)) = false := by rfl) (h3 : ([.List [] p, b].any fun | .Starred .. => true | _ => false) = false := by rfl)
    (hsE2 : ∀ env, starEach [b] env = [(false, eval b env)] := by intro _; rfl)
    (hsw : ∀ env, swapsWithSole [.Tuple [.Name x px, .Name y py] kt pt] (.Tuple [.List [] p, b] k2 pt2) pos.line env = pure false := by intro _; rfl) : wSs X (.Assign [.Tuple [.Name x px, .Name y py] kt pt] (.Tuple [.List [] p, b] k2 pt2) pos :: ss) D σ W.h := by
  refine ss_cons (wS_of (ps_par (i := i) (j := j) sf.calm sf.nd (by rw [sf.N]; exact hi) (by rw [sf.N]; exact hj) hij (by rw [sf.sc]; exact hx) (by rw [sf.sc]; exact hy) (pa_cons (pe_lst pa_nil) (pa_cons pe_w pa_nil (hsE2 _)) rfl) (sw_par sf.sc hk hx hy hxy hl h1 h2 h3) (hsw _)) ?_)
  refine ⟨Nat.zero_le _, fun q hq => ?_⟩
  have ow : OwL X.K (W.own q (.lst []) (W.free hq)) q [] := ⟨W.free hq, [], upd_same, .nil⟩
  refine hb X sf.toCf σ (W.own q (.lst []) (W.free hq)) _ hs fun w W1 e1 r1 => ?_
  exact ⟨_, w, rfl, h q w W1 hq (ow.ex e1) ((Wx.refl.own hq).trans e1) (((hs.ex e1.s).setAny i).set j r1)⟩
/-! ### an owned list read -/
theorem SlOk.put {K : PySem.W.Frag} {H : Hp} {v : V} (h : SlOk K H σ Γ) {i : Nat} (hi : σ[i]? = some (some v)) (hd : Dp K H v d) : SlOk K H σ (Γ.set i (some d)) := by
  have := h.set i hd
  have e : σ.set i (some v) = σ := by
    apply List.ext_getElem?
    intro j
    by_cases hj : i = j
    · subst hj
      obtain ⟨h1, _⟩ := List.getElem?_eq_some_iff.mp hi
      rw [List.getElem?_set_self h1, hi]
    · rw [List.getElem?_set_ne hj]
  rw [e] at this
  exact this
/-- q hidden -/
def Wd.hide (W : Wd) (q : Addr) : Wd := ⟨fun a => if a = q then none else W.s a, W.h, fun a u g => by
  have g : (if a = q then none else W.s a) = some u := g
  by_cases ea : a = q
  · rw [if_pos ea] at g; cases g
  · rw [if_neg ea] at g; exact W.sub a u g⟩
theorem OwL.hidden {K : PySem.W.Frag} {W1 : Wd} (ho : OwL K W q ds) {vs : List V} (hv : W.h q = some (.lst vs)) (x : Wx (W.shown q _ hv) W1) : Wx W (W1.hide q) ∧ OwL K (W1.hide q) q ds := by
  have xw : Wx W (W1.hide q) := by
    refine ⟨fun a u g => ?_, fun a u g => x.h a u g, fun a u g m => ?_⟩
    · have na : a ≠ q := fun z => by rw [z, ho.n] at g; cases g
      show (if a = q then none else W1.s a) = some u
      rw [if_neg na]
      exact x.s a u (by show upd W.s q _ a = some u; rw [upd_ne na]; exact g)
    · show (if a = q then none else W1.s a) = none
      by_cases na : a = q
      · rw [if_pos na]
      · rw [if_neg na]
        exact x.av a u g (by show upd W.s q _ a = none; rw [upd_ne na]; exact m)
  refine ⟨xw, if_pos rfl, ?_⟩
  obtain ⟨us, h1, h2⟩ := ho.at_
  exact ⟨us, x.h _ _ h1, dpa_ex xw.s h2⟩
/-- if e: .., the owned list read in e -/
theorem st_ifO (sf : Sf c X) (hs : SlOk X.K W.s σ Γ) (i : Nat) (hi : σ[i]? = some (some (.ref q))) (ho : OwL X.K W q ds) {k : Bool} (hc : EvT c (Γ.set i (some (.list ds))) e k)
    (h1 : k = true → ∀ W', Wx W W' → OwL X.K W' q ds → SlOk X.K W'.s σ Γ → wSs X body { D with nx := wSs X ss D } σ W'.h) (h2 : k = false → ∀ W', Wx W W' → OwL X.K W' q ds → SlOk X.K W'.s σ Γ → wSs X orelse { D with nx := wSs X ss D } σ W'.h) :
    wSs X (.If e body orelse pos :: ss) D σ W.h := by
  refine ss_cons (wS_of (ps_if pt_w pss_w pss_w) ?_)
  obtain ⟨vs, g1, g2⟩ := ho.at_
  refine hc X sf.toCf σ (W.shown q _ g1) _ ((hs.ex (Ex.new ho.n)).put hi (dp_shownL (h := g1) ho.n g2)) fun W1 e1 => ?_
  obtain ⟨xw, ow⟩ := ho.hidden g1 e1
  cases k with
  | true => rw [if_pos rfl]; exact h1 rfl (W1.hide q) xw ow (hs.ex xw.s)
  | false => rw [if_neg Bool.false_ne_true]; exact h2 rfl (W1.hide q) xw ow (hs.ex xw.s)
theorem dpa_set {K : PySem.W.Frag} {H : Hp} {v : V} : ∀ {vs : List V} {ds : List PyData} (j : Nat), DpAll K H vs ds → Dp K H v d → DpAll K H (vs.set j v) (ds.set j d)
  | _, _, _, .nil, _ => .nil
  | _, _, 0, .cons _ t, h => .cons h t
  | _, _, j + 1, .cons r t, h => .cons r (dpa_set j t h)
/-- x[ie] = e, an int put into an owned list -/
theorem st_setIx {z k : Int} {j : Nat} (sf : Sf c X) (hs : SlOk X.K W.s σ Γ) (i : Nat) (hi : σ[i]? = some (some (.ref q))) (ho : OwL X.K W q ds) (x0 : Wx W0 W) (n0 : W0.h q = none) (he : Ev c (Γ.set i (some (.list ds))) e (.int z)) (hie : Ev c (Γ.set i (some (.list ds))) ie (.int k)) (hj : ixN ds.length k = some j) (hN : c.N[i]? = some x) (hv : visB c.sc x = true)
    (h : ∀ W2, Wx W0 W2 → Ex W.s W2.s → OwL X.K W2 q (ds.set j (.int z)) → SlOk X.K W2.s σ Γ → wSs X ss D σ W2.h)
    (hw : ∀ env, swapsWithSole [.Subscript (.Name x p) ie p2] e pos.line env = pure false := by intro _; rfl) (hw2 : ∀ env, swappedStores [.Subscript (.Name x p) ie p2] e env = pure none := by intro _; rfl)
    (ha : ∀ env v, assign (.Subscript (.Name x p) ie p2) env v = (do let o ← holding [v] (eval (.Name x p) env); let j ← holding [v, o] (eval ie env); standAt p2; holding [v, o, j] (setItem o j v); release [v, o, j] []) := by intro _ _; rfl)
    (hp : ∀ env, (assignEach [.Subscript (.Name x p) ie p2] env).map (·.2) = [assign (.Subscript (.Name x p) ie p2) env] := by intro _; rfl)
    (hd : (x == ("__debug__" : Str)) = false := by decide) (hcd : (x == ("__classdict__" : Str)) = false := by decide) : wSs X (.Assign [.Subscript (.Name x p) ie p2] e pos :: ss) D σ W.h := by
  refine ss_cons (wS_of (ps_asg pe_w (pg_sub (pe_var (i := i) (by rw [sf.N]; exact hN) (by rw [sf.sc]; exact vis_of hv) hd hcd) pe_w set_list (ha _)) (hw _) (hw2 _) (hp _)) ?_)
  obtain ⟨vs, g1, g2⟩ := ho.at_
  refine he X sf.toCf σ (W.shown q _ g1) _ ((hs.ex (Ex.new ho.n)).put hi (dp_shownL (h := g1) ho.n g2)) fun v W1 e1 r1 => ?_
  cases dp_int_inv r1
  obtain ⟨xw, ow⟩ := ho.hidden g1 e1
  obtain ⟨vs1, g3, g4⟩ := ow.at_
  refine ⟨_, hi, ?_⟩
  refine hie X sf.toCf σ ((W1.hide q).shown q _ g3) _ (((hs.ex xw.s).ex (Ex.new ow.n)).put hi (dp_shownL (h := g3) ow.n g4)) fun u W2 e2 r2 => ?_
  cases dp_int_inv r2
  obtain ⟨xw2, ow2⟩ := ow.hidden g3 e2
  obtain ⟨vs2, g5, g6⟩ := ow2.at_
  refine ⟨q, vs2, k, j, rfl, rfl, g5, by rw [dpa_len g6]; exact hj, ?_⟩
  have xx := (x0.trans xw).trans xw2
  exact h ((W2.hide q).own q (.lst (vs2.set j (.int z))) ow2.n) (xx.own n0) (xw.trans xw2).s ⟨ow2.n, _, upd_same, dpa_set j g6 (.int z)⟩ (hs.ex (xw.trans xw2).s)
/-- return e, the owned list read in e -/
theorem st_retO (sf : Sf c X) (hs : SlOk X.K W.s σ Γ) (i : Nat) (hi : σ[i]? = some (some (.ref q))) (ho : OwL X.K W q ds) (x0 : Wx W0 W) (n0 : W0.h q = none) (he : Ev c (Γ.set i (some (.list ds))) e d) (h : ∀ v W', Wx W0 W' → Dp X.K W'.s v d → D.rt v W'.h) : wSs X (.Return (some e) pos :: ss) D σ W.h := by
  obtain ⟨W2, e2, x2, s2, d2⟩ := ho.show_ x0 n0
  rw [← e2]
  exact st_ret sf ((hs.ex s2).put hi d2) he fun v W3 e3 r3 => h v W3 (x2.trans e3) r3
end
end CS

set_option maxRecDepth 100000
set_option maxHeartbeats 4000000
namespace CS
open PySem PySem.Spec PyProof.Rows L2
/-! ### drawn rows -/
def Rgcd : List PyData → PyData → Prop := fun ds d => ∃ a b : Int, 0 ≤ a ∧ 0 ≤ b ∧ ds = [.int a, .int b] ∧ d = .int (Int.gcd a b)
theorem gcd_step {a b : Int} (hb : 0 < b) (ha : 0 ≤ a) : Int.gcd b (a % b) = Int.gcd a b := by
  obtain ⟨m, rfl⟩ := Int.eq_ofNat_of_zero_le ha
  obtain ⟨k, rfl⟩ := Int.eq_ofNat_of_zero_le (Int.le_of_lt hb)
  show Nat.gcd k (m % k) = Nat.gcd m k
  rw [Nat.gcd_comm m k, Nat.gcd_rec k m, Nat.gcd_comm]
def unitsOf (n : Int) : List Int := (rng 1 n).filter fun o => decide (Int.gcd o n = 1)
theorem units_ne {n : Int} (h : 2 ≤ n) : 1 ∈ unitsOf n := by
  unfold unitsOf
  rw [List.mem_filter]
  refine ⟨mem_rng.mpr ⟨by omega, by omega⟩, ?_⟩
  rw [decide_eq_true_eq, Int.gcd_comm, Int.gcd_one]
theorem units_len {n : Int} (h : 2 ≤ n) (h2 : n ≤ 12) : 1 ≤ (unitsOf n).length ∧ (unitsOf n).length ≤ 11 := by
  refine ⟨List.length_pos_of_mem (units_ne h), ?_⟩
  unfold unitsOf
  have := List.length_filter_le (fun o => decide (Int.gcd o n = 1)) (rng 1 n)
  rw [rng_len] at this
  omega
def numStep (n fac : Int) (s : List Int × Int) (one : Int) : List Int × Int := (s.1 ++ [(if (if 1 > s.2 then 1 else s.2) < one then (if 1 > s.2 then 1 else s.2) else one) * fac % n], s.2 - one)
def numOne (D : List Int) (t : Nat) : Int := 1 + dr D (10 + t) % 2 * (dr D (30 + t) % 3)
def numLoop (D : List Int) (n fac : Int) : Nat → List Int × Int
  | 0 => ([], n - 1)
  | m + 1 => numStep n fac (numLoop D n fac m) (numOne D m)
def numbers (D : List Int) (n most : Int) : List Int :=
  if dr D 1 % 3 = 0 then (List.range (dr D 0 % (most + 1)).toNat).map fun t => dr D (2 + t) % n
  else
    let f := (numLoop D n (dr (unitsOf n) (dr D 2 % (unitsOf n).length).toNat) (dr D 0 % (most + 1)).toNat).1
    if dr D 1 % 3 = 1 ∧ f ≠ [] then f.set (dr D 3 % f.length).toNat (dr D 4 % n) else f
theorem emod_rem {n : Int} (hn : 0 < n) (z : Int) : 0 ≤ z % n ∧ z % n < n := ⟨Int.emod_nonneg _ (by omega), Int.emod_lt_of_pos _ hn⟩
theorem numLoop_ok {D : List Int} {n fac : Int} (hn : 0 < n) : ∀ m, (numLoop D n fac m).1.length = m ∧ Rem n (numLoop D n fac m).1
  | 0 => ⟨rfl, fun x hx => by cases hx⟩
  | m + 1 => by
    obtain ⟨h1, h2⟩ := numLoop_ok (D := D) (fac := fac) hn m
    unfold numLoop numStep
    refine ⟨by rw [List.length_append, h1]; rfl, Rem.app.mpr ⟨h2, fun x hx => ?_⟩⟩
    rw [List.mem_singleton] at hx
    subst hx
    exact emod_rem hn _
theorem numbers_len {D : List Int} {n most : Int} (hn : 0 < n) (hm : 0 ≤ most) : ((numbers D n most).length : Int) ≤ most := by
  have h1 := emod_rem (n := most + 1) (by omega) (dr D 0)
  unfold numbers
  split
  · rw [List.length_map, List.length_range]; omega
  · have h2 := (numLoop_ok (D := D) (fac := dr (unitsOf n) (dr D 2 % (unitsOf n).length).toNat) hn (dr D 0 % (most + 1)).toNat).1
    dsimp only
    split
    · rw [List.length_set, h2]; omega
    · rw [h2]; omega
theorem numbers_rem {D : List Int} {n most : Int} (hn : 0 < n) : Rem n (numbers D n most) := by
  unfold numbers
  split
  · intro x hx
    obtain ⟨t, _, rfl⟩ := List.mem_map.mp hx
    exact emod_rem hn _
  · have h2 := (numLoop_ok (D := D) (fac := dr (unitsOf n) (dr D 2 % (unitsOf n).length).toNat) hn (dr D 0 % (most + 1)).toNat).2
    dsimp only
    split
    · intro x hx
      rcases List.mem_or_eq_of_mem_set hx with h | rfl
      · exact h2 x h
      · exact emod_rem hn _
    · exact h2
theorem dr_rem {n : Int} (hn : 0 < n) {l : List Int} (h : Rem n l) (i : Nat) : 0 ≤ dr l i ∧ dr l i < n := by
  unfold dr
  rw [List.getD_eq_getElem?_getD]
  cases q : l[i]? with
  | none => exact ⟨Int.le_refl _, hn⟩
  | some x => exact h x (List.mem_of_getElem? q)
theorem units_rem {n : Int} : Rem n (unitsOf n) := fun x hx => by
  have := mem_rng.mp (List.mem_filter.mp hx).1
  omega
def Rnumbers : List PyData → PyData → Prop := fun ds d => ∃ (ns : List Int) (k n most : Int), 0 ≤ k ∧ 2 ≤ n ∧ n ≤ 12 ∧ 0 ≤ most ∧ most ≤ 20 ∧ ds = [pL ns, .int k, .int n, .int most] ∧ d = pT (numbers (rowOf ns k) n most)
theorem row_at {ns : List Int} {k : Int} {i : Int} (h0 : 0 ≤ i) (h : i < 60) : atI (iL (rowOf ns k)) i = some (.int (dr (rowOf ns k) i.toNat)) := by
  have := dr_at (l := rowOf ns k) (i := i.toNat) (by rw [rowOf_len]; omega)
  rw [show ((i.toNat : Nat) : Int) = i by omega] at this
  exact this
theorem list_at {l : List Int} {i : Int} (h0 : 0 ≤ i) (h : i < l.length) : atI (iL l) i = some (.int (dr l i.toNat)) := by
  have := dr_at (l := l) (i := i.toNat) (by omega)
  rw [show ((i.toNat : Nat) : Int) = i by omega] at this
  exact this
theorem ixN_ok {n : Nat} {k : Int} (h0 : 0 ≤ k) (h : k < n) : ixN n k = some k.toNat := by
  unfold ixN
  rw [if_pos (by omega)]
  first | rfl | (simp; omega)
theorem iL_set (l : List Int) (j : Nat) (z : Int) : (iL l).set j (.int z) = iL (l.set j z) := by
  unfold iL; rw [List.map_set]
theorem iL_app (l m : List Int) : iL l ++ iL m = iL (l ++ m) := by
  unfold iL; rw [List.map_append]
theorem rg_nat (lo : Int) (m : Nat) {β : Type} (f : Int → β) : (rgD lo m).map f = (List.range m).map fun t => f (lo + (t : Nat)) := by
  unfold rgD; rw [List.map_map]; rfl
end CS

set_option maxRecDepth 100000
set_option maxHeartbeats 4000000
namespace CS
open PySem PySem.Spec PyProof.Rows L2
/-! ### enumerate(t), t a tuple -/
abbrev itT (t : Addr) : Obj := { cls := .type "tuple_iterator", data := .fields #[.ref t, .int 0 0] }
abbrev enO (i : Addr) : Obj := { cls := .type "enumerate", data := .fields #[.none, .bool false, .ref i, rawInt 0, .none, .none] }
theorem enum_make (t : Addr) (us : Array Value) : Meets (Builtin.«enumerate.__new__» ⟨[.type "enumerate", .ref t], []⟩) (fun _ R s => s.heap.IsTuple t us ∧
      R (.ok (.ret (.ref (s.heap.push (itT t)).objs.size))) { s with heap := (s.heap.push (itT t)).push (enO s.heap.objs.size) }) :=
  .of_wp fun prog w A R s h => by
    obtain ⟨hp, gs, dn, tk, os⟩ := s
    obtain ⟨ht, h⟩ := h
    have m1 := sub_enumerate
    have m2 : ∀ {A' : Around} {E : Value → Shared → Prop} {Q : Value → Shared → Prop}, Q (.ref hp.objs.size) ⟨hp.push (itT t), gs, dn, tk, os⟩ → wpAny (model prog w) A' (pyIter (.ref t)) Q E ⟨hp, gs, dn, tk, os⟩ := fun q => wpAny_pyIter_tuple ht q
    wp_walk using m2
    refine wpAny_stack_any fun st => wpAny_pure ?_
    split
    · rename_i c _ _ _ _ _
      cases (c == Value.type "enumerate") <;> (wp_walk using m2; exact ⟨_, rfl, h⟩)
    · wp_walk using m2
      exact ⟨_, rfl, h⟩
theorem call_enumT {prog : Program} {w : World} {A : Around} {E : Value → Shared → Prop} {s : Shared} {t : Addr} {us : Array Value} {Q : Value → Shared → Prop} (ht : s.heap.IsTuple t us)
    (h : ∀ h', IsEnum h' (s.heap.objs.size + 1) s.heap.objs.size 0 .none → h'.IsTupleIter s.heap.objs.size t 0 → (∀ b o, s.heap.get? b = some o → h'.get? b = some o) → Q (.ref (s.heap.objs.size + 1)) { s with heap := h' }) :
    wpAny (model prog w) A (call (.type "enumerate") [.ref t]) Q E s := by
  refine callType_new F.called_enumerate (by decide) (F.typeCall_enumerate_1 _) (F.newCall_enumerate_1 _) (fun obj => F.args_object_init_2 obj _) F.entry_enumerate_new (enum_make t us) ⟨ht, ?_⟩
  have sz : (s.heap.push (itT t)).objs.size = s.heap.objs.size + 1 := Heap.size_push ..
  show _ ∧ _
  rw [sz]
  have ie : IsEnum ((s.heap.push (itT t)).push (enO s.heap.objs.size)) (s.heap.objs.size + 1) s.heap.objs.size 0 .none := by
    have z := Heap.get?_push_size (s.heap.push (itT t)) (o := enO s.heap.objs.size) rfl
    rw [sz] at z
    exact z
  exact ⟨⟨_, ie, rfl⟩, h _ ie ⟨_, Heap.get?_push_of_some _ (Heap.get?_push_size _ rfl), rfl, rfl⟩ fun b o x => Heap.get?_push_of_some _ (Heap.get?_push_of_some _ x)⟩
/-- each item of the tuple at a in a new pair -/
def ItE (K : PySem.W.Frag) (a : Addr) : It :=
  ⟨fun i H => ∃ (vs : List V) (v : V), SqT K H a vs ∧ vs[i]? = some v, fun i H r H' => ∃ T v, r = .ref T ∧ H T = none ∧ (∃ o : Obj, o.dict = none ∧ H' = upd H T (.frz o (.tup [.int (i : Nat), v]))) ∧ ∀ vs, SqT K H a vs → vs[i]? = some v, fun i H => ∃ vs : List V, SqT K H a vs ∧ vs.length = i⟩
theorem turn_enT {P : Program} {w : World} {K : PySem.W.Frag} {elts : List Expr} {kk : Nat} {tp : Pos} (a e it : Addr) :
    Turn P w K (.Tuple elts kk tp) (ItE K a) [e, it] e (fun i h => (∃ old, IsEnum h e it ((i : Nat) : Int) old) ∧ h.IsTupleIter it a i ∧ e ≠ it ∧ a ≠ it ∧ a ≠ e) where
  mem := by simp
  obj := fun i h st b hb => by
    obtain ⟨⟨old, he⟩, ⟨o, ho, hc, hd⟩, _⟩ := st
    rcases (by simpa using hb : b = e ∨ b = it) with z | z
    · rw [z]; exact ⟨_, he, fun v q => nomatch q⟩
    · rw [z]; exact ⟨o, ho, fun v q => by rw [hd] at q; cases q⟩
  keep := fun i h h' st k => let ⟨⟨old, he⟩, hi, r⟩ := st; ⟨⟨old, k e (by simp) _ he⟩, hi.at fun o q => k it (by simp) o q, r⟩
  item := by
    intro X h1 h2 h3 hc i pins s σ H E I hf st hg
    subst h1 h2 h3
    obtain ⟨⟨old, he⟩, hit, n1, n2, n3⟩ := st
    obtain ⟨vs, v, hq, hv⟩ := hg
    obtain ⟨us, rv, pt, hz⟩ := I.tuple hq
    obtain ⟨u, hu, ru⟩ := rv.get hv
    have le : e < s.heap.objs.size := Heap.lt_size he
    have li : it < s.heap.objs.size := by obtain ⟨_, q, _⟩ := hit; exact Heap.lt_size q
    have lt : i < us.toArray.size := by
      rw [List.size_toArray]
      exact (List.getElem?_eq_some_iff.mp hu).1
    refine wpAny_pyNext_enum_itemD (Draws.tuple (A := X.A.in1) (by rw [Around.in1]; exact I.ok.hd hc) it a n2 us.toArray) he ⟨hit, pt⟩ lt n1 (by simp [n1, Ne.symm n3]) fun x h' tk hx ho hst hT hsz hk => ?_
    have ex : x = u := by
      have : us.toArray[i]? = some x := hx
      rw [List.getElem?_toArray, hu] at this
      exact (Option.some.inj this).symm
    subst ex
    refine ⟨_, rfl, wpAny_letOwnedTupleGo_enum (s := { s with heap := h', toks := tk + 1 }) ho fun h2 he2 sb => ?_⟩
    have hT2 : h2.get? s.heap.objs.size = some { cls := .type "tuple", data := .seq #[.int i tk, x] } := (sb.2 _ (Nat.ne_of_gt le)).trans hT
    have new : ObjOk X.prog X.w (upd H s.heap.objs.size (.frz (nT [.int i tk, x]) (.tup [.int (i : Nat), v]))) h2 s.heap.objs.size (.frz (nT [.int i tk, x]) (.tup [.int (i : Nat), v])) := objF hT2 (by show 2 ≤ sizeLine; decide) (.cons ⟨_, rfl⟩ (.cons ru .nil))
    have I1 := I.turnedNew (t' := tk + 1) (ch := [e, it]) (fun b ob hb q => (sb.2 b (fun z => hb (by simp [z]))).trans (hk b ob (fun z => hb (by simp [z])) (fun z => hb (by simp [z])) q)) hf (Nat.le_refl _) new
    refine ⟨.ref s.heap.objs.size, _, I1, rfl, ⟨_, v, rfl, I.hok.fresh (Nat.le_refl _), ⟨_, rfl, rfl⟩, fun ys hy => by rw [I.tuple_inj hy hq]; exact hv⟩, ⟨⟨x, ?_⟩, hst.1.at fun o q => (sb.2 it (Ne.symm n1)).trans q, n1, n2, n3⟩, fun b hb => ?_⟩
    · rw [show ((i + 1 : Nat) : Int) = (i : Int) + 1 by omega]
      exact he2
    · have lb : b < s.heap.objs.size := by
        rcases (by simpa using hb : b = e ∨ b = it) with z | z
        · rw [z]; exact le
        · rw [z]; exact li
      rw [upd_ne (Nat.ne_of_lt lb)]
      exact (hf b hb).1
  done := by
    intro X h1 h2 h3 hc i pins s σ H E I hf st hg
    subst h1 h2 h3
    obtain ⟨⟨old, he⟩, hit, n1, n2, n3⟩ := st
    obtain ⟨vs, hq, rfl⟩ := hg
    obtain ⟨us, rv, pt, hz⟩ := I.tuple hq
    obtain ⟨f0, f1, f2, f3, f4, f5⟩ := hf it (by simp)
    have hl := rv.length
    have D := Draws.tuple (prog := X.prog) (w := X.w) (A := X.A.in1) (by rw [Around.in1]; exact I.ok.hd hc) it a n2 us.toArray
    exact wpAny_pyNext_enum_endD D he ⟨by rw [List.size_toArray, ← hl]; exact hit, pt⟩ fun h' eb => ⟨rfl, I.turned (t' := s.toks) (fun b o hb q => eb b o hb q) f0 f1 f3 f4 f5⟩
  self := fun A i s Q E st h => let ⟨⟨_, he⟩, _⟩ := st; wpAny_pyIter_enum he h
def iEnT (K : PySem.W.Frag) (ta : TA) : TI := fun σ H R => ta σ H fun vs H1 => ∃ a xs, vs = [.ref a] ∧ SqT K H1 a xs ∧ R (ItE K a) H1
theorem pi_enT {X : Cx} {e : Expr} {ta : TA} {p pos tp : Pos} {elts : List Expr} {kk : Nat} (hg : Gl X "enumerate") (hm : X.mg "enumerate" = none) (ha : PA X [e] ta) (hs : starEach [e] X.env = [(false, eval e X.env)] := by rfl) :
    PI X (.Tuple elts kk tp) (.Call (.Name "enumerate" p) [e] [] pos) (iEnT X.K ta) := by
  refine ⟨fun pins s σ H R I h => ?_⟩
  refine Call_ (ld_blt I hg hm boot_enumerate (callWith_type1 (thn (ha.run pos pins s σ H _ I h) fun us s1 ⟨vs, H1, I1, r1, q1⟩ => ?_) hs rfl))
  obtain ⟨a, xs, rfl, hq, q⟩ := q1
  rw [Vals.ref1 r1]
  obtain ⟨its, rv, pt, hz⟩ := I1.tuple hq
  have la : a < s1.heap.objs.size := by obtain ⟨_, z, _⟩ := pt; exact Heap.lt_size z
  refine call_enumT pt fun h' he hit hk => wpAny_pyIter_enum he ?_
  refine ⟨s1.heap.objs.size + 1, [s1.heap.objs.size + 1, s1.heap.objs.size], _, _, H1, rfl, I1.kept (t' := s1.toks) hk, turn_enT a (s1.heap.objs.size + 1) s1.heap.objs.size, ⟨⟨.none, he⟩, hit, Nat.succ_ne_self _, Nat.ne_of_lt la, Nat.ne_of_lt (Nat.lt_succ_of_lt la)⟩, fun b hb => ?_, q⟩
  have lb : s1.heap.objs.size ≤ b := by
    rcases (by simpa using hb : b = s1.heap.objs.size + 1 ∨ b = s1.heap.objs.size) with z | z
    · rw [z]; exact Nat.le_succ _
    · rw [z]; exact Nat.le_refl _
  exact I1.fpOk lb (I1.hok.fresh lb)
/-- place and item -/
def enD : Nat → List PyData → List PyData
  | _, [] => []
  | i, d :: ds => .tuple [.int (i : Nat), d] :: enD (i + 1) ds
theorem enD_get : ∀ {ds : List PyData} {k i : Nat} {d : PyData}, (enD k ds)[i]? = some d → ∃ x, ds[i]? = some x ∧ d = .tuple [.int ((k + i : Nat) : Int), x]
  | [], k, i, d, h => by cases i <;> cases h
  | x :: r, k, 0, d, h => ⟨x, rfl, (Option.some.inj h).symm⟩
  | x :: r, k, i + 1, d, h => by
    obtain ⟨y, h1, h2⟩ := enD_get (ds := r) (k := k + 1) (i := i) h
    exact ⟨y, h1, by rw [h2, show k + 1 + i = k + (i + 1) by omega]⟩
theorem enD_len : ∀ (ds : List PyData) (k : Nat), (enD k ds).length = ds.length
  | [], _ => rfl
  | _ :: r, k => congrArg (· + 1) (enD_len r (k + 1))
theorem ei_enumT {c : Cfg} {Γ : Gm} {a : Expr} {ds : List PyData} {elts : List Expr} {kk : Nat} {tp p pos : Pos} (ha : Ev c Γ a (.tuple ds)) (hm : c.mg "enumerate" = none) (hg : glB c.sc "enumerate" = true) (hs : ∀ env, starEach [a] env = [(false, eval a env)] := by intro _; rfl) :
    EvI c Γ (.Tuple elts kk tp) (.Call (.Name "enumerate" p) [a] [] pos) (enD 0 ds) := fun X cf σ W R s q => by
  refine wI_of (pi_enT (gl_of cf hg) (by rw [cf.mg]; exact hm) (pa_cons pe_w pa_nil (hs _)) (hs _)) ?_
  refine ha X cf σ W _ s fun v W1 e1 r1 => ?_
  obtain ⟨t, xs, rfl, h1, h2⟩ := dp_tup_inv r1
  refine ⟨t, xs, rfl, W1.st h1, q _ W1 e1 ⟨fun i W2 d x2 g => ?_, fun i W2 x H' d x2 g y => ?_, fun i W2 x2 hl => ?_⟩⟩
  · obtain ⟨x, hx, _⟩ := enD_get g
    obtain ⟨v, h3, h4⟩ := dpa_get h2 hx
    exact ⟨xs, v, W2.st (st_ex x2.s h1), h3⟩
  · obtain ⟨z, hz, rfl⟩ := enD_get g
    obtain ⟨v, h3, h4⟩ := dpa_get h2 hz
    obtain ⟨T, u, rfl, hT, ⟨oo, hoo, rfl⟩, hu⟩ := y
    have h5 := hu xs (W2.st (st_ex x2.s h1))
    rw [h3] at h5
    cases h5
    refine ⟨W2.new T _, rfl, Wx.new hT, .tup (PlT.of hoo) (.cons ?_ (.cons (dp_ex (x2.trans (Wx.new hT)).s h4) .nil))⟩
    rw [Nat.zero_add]
    exact .int _
  · refine ⟨xs, W2.st (st_ex x2.s h1), ?_⟩
    rw [enD_len] at hl
    rw [dpa_len h2]
    exact hl
end CS

set_option maxRecDepth 100000
set_option maxHeartbeats 4000000
namespace CS
open PySem PySem.Spec PyProof.Rows L2
/-! ### defs that check a row first -/
def onRow (f : Int → List Int → Oc) (h r : PyData) : Oc := match ckRow h r with
  | .er x => .er x
  | .ok _ => f (unI h) (unT r)
def RonRow (f : Int → List Int → Oc) : List PyData → Oc → Prop := fun ds o => ∃ h r, ds = [h, r] ∧ o = onRow f h r
theorem onRow_ok {f : Int → List Int → Oc} {n : Int} {row : List Int} (h1 : 2 ≤ n) (h2 : n ≤ 12) (h : Row n row) : onRow f (.int n) (pT row) = f n row := by
  unfold onRow
  rw [ckRow_ok h1 h2 h]
  show f n (unT (pT row)) = _
  rw [unT_pT]
theorem RonRow.ok {f : Int → List Int → Oc} {n : Int} {row : List Int} (h1 : 2 ≤ n) (h2 : n ≤ 12) (h : Row n row) {o : Oc} (ho : f n row = o) : RonRow f [.int n, pT row] o := ⟨_, _, rfl, by rw [onRow_ok h1 h2 h, ho]⟩
section
variable {c : Cfg} {X : Cx} {Γ : Gm} {e e2 : Expr} {d : PyData} {pos p p2 : Pos} {x : Str} {ss : List Stmt} {D : Ends} {σ : St} {W : Wd} {Wr : WX} {h r : PyData}
theorem st_ckRow {j : Nat} (sf : Sf c X) (tk : Takes X Wr) (hs : SlOk X.K W.s σ Γ) (F : Fnx c.toGb "check_row" j RcheckRow) (hj : j ≤ c.k) (hg : glB c.sc "check_row" = true) (ha : EvA c Γ [e, e2] [h, r])
    (bad : ∀ y C W', ckRow h r = .er y → c.mg y = some (.ref C) → Wx W W' → Wr (.ref C) none σ W'.h)
    (ok : ∀ n row W', h = .int n → r = pT row → 2 ≤ n → n ≤ 12 → Row n row → Wx W W' → SlOk X.K W'.s σ Γ → wSs X ss D σ W'.h)
    (he : ∀ env, starEach [e, e2] env = (false, eval e env) :: starEach [e2] env := by intro _; rfl) (hpl : ∀ env, (backTo p2 (starEach [e2] env)).any (·.1) = false := by intro _; rfl) : wSs X (.Expr (.Call (.Name "check_row" p) [e, e2] [] p2) pos :: ss) D σ W.h := by
  rcases ckRow_cases h r with ⟨n, row, rfl, h2, h12, rfl, hr, hc⟩ | ⟨y, hy, _⟩
  · exact st_expr sf hs (d := .none) (ev_callX F ha ⟨_, _, rfl, hc.symm⟩ hj hg (he := he) (hpl := hpl)) (fun W1 e1 s1 => ok n row W1 rfl rfl h2 h12 hr e1 s1)
  · exact st_exprE sf tk hs (er_call F ha ⟨_, _, rfl, hy.symm⟩ hj hg (he := he) (hpl := hpl)) fun C W1 hC e1 => bad y C W1 hy hC e1
/-- x += e, ints -/
theorem st_aug {m k : Int} (sf : Sf c X) (hs : SlOk X.K W.s σ Γ) (i : Nat) (hG : Γ[i]? = some (some (.int m))) (he : Ev c Γ e (.int k)) (hN : c.N[i]? = some x) (hl : locB c.sc x = true)
    (h : ∀ v W', Wx W W' → SlOk X.K W'.s (σ.set i (some v)) (Γ.set i (some (.int (m + k)))) → wSs X ss D (σ.set i (some v)) W'.h) : wSs X (.AugAssign (.Name x p) .Add e pos :: ss) D σ W.h := by
  refine ss_cons (wS_of (ps_aug (i := i) sf.nd (by rw [sf.N]; exact hN) (by rw [sf.sc]; exact loc_of hl) pe_w iop_add (.inl (sf.fn _))) ?_)
  obtain ⟨v, h1, h2⟩ := hs.at_ i _ hG
  refine ⟨v, h1, ?_⟩
  refine he X sf.toCf σ W _ hs fun u W1 e1 r1 => ?_
  cases dp_int_inv h2
  cases dp_int_inv r1
  exact ⟨m, k, rfl, rfl, h _ W1 e1 ((hs.ex e1.s).set i (.int _))⟩
end
theorem Row.rem {n : Int} {row : List Int} (h : Row n row) : Rem n row := h.mem
/-! ### free rows -/
def free (n : Int) (row : List Int) : Bool := !decide (0 ∈ rch n row)
def freeOc (n : Int) (row : List Int) : Oc := .ok (.bool (free n row))
theorem free_iff {n : Int} (hn : 0 < n) {row : List Int} (h : Rem n row) : free n row = true ↔ ∀ s : List Int, s.Sublist row → s ≠ [] → s.sum % n ≠ 0 := by
  unfold free
  rw [Bool.not_eq_true', decide_eq_false_iff_not, mem_rch hn row h]
  constructor
  · intro z s h1 h2 h3
    exact z ⟨s, h1, h2, h3⟩
  · rintro z ⟨s, h1, h2, h3⟩
    exact z s h1 h2 h3
/-! ### places left out -/
def woFrom (k : Int) (gone : List Int) : List Int → List Int
  | [] => []
  | x :: r => if k ∈ gone then woFrom (k + 1) gone r else x :: woFrom (k + 1) gone r
abbrev wo (row gone : List Int) : List Int := woFrom 0 gone row
theorem wo_sub {gone : List Int} : ∀ {row : List Int} {k : Int}, (woFrom k gone row).Sublist row
  | [], k => .slnil
  | x :: r, k => by
    unfold woFrom
    split
    · exact .cons _ wo_sub
    · exact .cons_cons _ wo_sub
theorem wo_enum {gone : List Int} {P : PyData → Bool} {f : PyData → PyData} (hP : ∀ (i : Nat) x, P (.tuple [.int (i : Nat), x]) = !decide (((i : Nat) : Int) ∈ gone)) (hf : ∀ (i : Nat) x, f (.tuple [.int (i : Nat), x]) = x) : ∀ (row : List Int) (k : Nat), ((enD k (iL row)).filter P).map f = iL (woFrom k gone row)
  | [], k => rfl
  | x :: r, k => by
    have ih := wo_enum hP hf r (k + 1)
    show ((PyData.tuple [.int (k : Nat), .int x] :: enD (k + 1) (iL r)).filter P).map f = iL (if (k : Int) ∈ gone then _ else _)
    by_cases h : (k : Int) ∈ gone
    · rw [List.filter_cons_of_neg (by rw [hP, decide_eq_true h]; decide), if_pos h, ih]; rfl
    · rw [List.filter_cons_of_pos (by rw [hP, decide_eq_false h]; decide), if_neg h, List.map_cons, ih, hf]; rfl
theorem rng_cons {lo hi : Int} (h : lo < hi) : rng lo hi = lo :: rng (lo + 1) hi := by
  refine up_eq ?_ ?_ fun z => ?_
  · unfold rng rgD
    rw [List.pairwise_map]
    exact List.pairwise_lt_range.imp fun {a b} h => by omega
  · refine List.pairwise_cons.mpr ⟨fun z hz => ?_, ?_⟩
    · have := mem_rng.mp hz; omega
    · unfold rng rgD
      rw [List.pairwise_map]
      exact List.pairwise_lt_range.imp fun {a b} h => by omega
  · rw [List.mem_cons, mem_rng, mem_rng]; omega
theorem rng_nil {lo hi : Int} (h : hi ≤ lo) : rng lo hi = [] := by
  unfold rng rgD
  rw [show (hi - lo).toNat = 0 by omega]; rfl
theorem wo_rng {gone : List Int} : ∀ (r pre : List Int), ((rng pre.length (pre ++ r).length).filter fun p => !decide (p ∈ gone)).map (fun p => dr (pre ++ r) p.toNat) = woFrom pre.length gone r
  | [], pre => by
    rw [rng_nil (by rw [List.append_nil]; omega)]; rfl
  | x :: r, pre => by
    have ih := wo_rng (gone := gone) r (pre ++ [x])
    rw [List.append_assoc, List.length_append] at ih
    have e1 : (((pre.length + [x].length : Nat)) : Int) = (pre.length : Int) + 1 := by simp
    rw [e1] at ih
    have e2 : pre ++ ([x] ++ r) = pre ++ x :: r := rfl
    rw [e2] at ih
    rw [rng_cons (by rw [List.length_append, List.length_cons]; omega)]
    unfold woFrom
    have e3 : dr (pre ++ x :: r) ((pre.length : Int)).toNat = x := by
      unfold dr
      rw [show ((pre.length : Int)).toNat = pre.length by omega, List.getD_eq_getElem?_getD, List.getElem?_append_right (Nat.le_refl _), Nat.sub_self]; rfl
    by_cases h : (pre.length : Int) ∈ gone
    · rw [List.filter_cons_of_neg (by rw [decide_eq_true h]; decide), if_pos h, ih]
    · rw [List.filter_cons_of_pos (by rw [decide_eq_false h]; decide), if_neg h, List.map_cons, ih, e3]
theorem wo_range (row gone : List Int) : ((rng 0 row.length).filter fun p => !decide (p ∈ gone)).map (fun p => dr row p.toNat) = wo row gone := wo_rng row []
/-- the parts by size, up to many -/
def partsTo (c : Nat) : Nat → List (List Int)
  | 0 => []
  | m + 1 => partsTo c m ++ parts c m
def fewest (n : Int) (row : List Int) : Option (List Int) := (partsTo row.length (row.length + 1)).find? fun g => free n (wo row g)
theorem wo_all {gone : List Int} : ∀ {row : List Int} {k : Nat}, (∀ i : Nat, k ≤ i → i < k + row.length → (i : Int) ∈ gone) → woFrom k gone row = []
  | [], k, _ => rfl
  | x :: r, k, h => by
    unfold woFrom
    rw [if_pos (h k (Nat.le_refl _) (by rw [List.length_cons]; omega))]
    exact wo_all (k := k + 1) fun i h1 h2 => h i (by omega) (by rw [List.length_cons]; omega)
theorem fewest_some (n : Int) (row : List Int) : ∃ g, (parts row.length row.length).find? (fun g => free n (wo row g)) = some g := by
  have hm : rng 0 row.length ∈ parts row.length row.length := mem_parts (by rw [rng_len]; omega) (by
    unfold rng rgD
    rw [List.pairwise_map]
    exact List.pairwise_lt_range.imp fun {a b} h => by omega) (fun z hz => mem_rng.mp hz)
  have hf : free n (wo row (rng 0 row.length)) = true := by
    rw [show wo row (rng 0 row.length) = [] from wo_all (k := 0) fun i _ h => mem_rng.mpr ⟨by omega, by omega⟩]
    rfl
  cases q : (parts row.length row.length).find? (fun g => free n (wo row g)) with
  | some g => exact ⟨g, rfl⟩
  | none =>
    have := List.find?_eq_none.mp q _ hm
    exact absurd hf this
theorem partsTo_find {n : Int} {row : List Int} {m : Nat} {g : List Int} (hm : m ≤ row.length) (h0 : (partsTo row.length m).find? (fun g => free n (wo row g)) = none) (h1 : (parts row.length m).find? (fun g => free n (wo row g)) = some g) : fewest n row = some g := by
  unfold fewest
  have key : ∀ k, (partsTo row.length (m + 1 + k)).find? (fun g => free n (wo row g)) = some g := by
    intro k
    induction k with
    | zero =>
      show (partsTo row.length m ++ parts row.length m).find? _ = _
      rw [List.find?_append, h0, h1]; rfl
    | succ k ih =>
      show (partsTo row.length (m + 1 + k) ++ _).find? _ = _
      rw [List.find?_append, ih]; rfl
  rw [show row.length + 1 = m + 1 + (row.length - m) by omega]
  exact key _
def dropOc (n : Int) (row : List Int) : Oc := match fewest n row with
  | some g => .ok (pT g)
  | none => .er "?"
end CS

set_option maxRecDepth 100000
set_option maxHeartbeats 4000000
namespace CS
open PySem PySem.Spec PyProof.Rows L2
/-! ### zip(s, t), tuples -/
def zpD : List PyData → List PyData → List PyData
  | a :: r, b :: t => .tuple [a, b] :: zpD r t
  | _, _ => []
theorem zpD_get : ∀ {r t : List PyData} {i : Nat} {d : PyData}, (zpD r t)[i]? = some d → ∃ x y, r[i]? = some x ∧ t[i]? = some y ∧ d = .tuple [x, y]
  | [], t, i, d, h => by
    have : (([] : List PyData))[i]? = some d := by cases t <;> exact h
    cases i <;> cases this
  | a :: r, [], i, d, h => by cases i <;> cases h
  | a :: r, b :: t, 0, d, h => ⟨a, b, rfl, rfl, (Option.some.inj h).symm⟩
  | a :: r, b :: t, i + 1, d, h => by
    obtain ⟨x, y, h1, h2, h3⟩ := zpD_get (r := r) (t := t) (i := i) h
    exact ⟨x, y, h1, h2, h3⟩
theorem zpD_len : ∀ (r t : List PyData), (zpD r t).length = min r.length t.length
  | [], t => by cases t <;> simp [zpD]
  | a :: r, [] => by simp [zpD]
  | a :: r, b :: t => by
    show (zpD r t).length + 1 = _
    rw [zpD_len r t, List.length_cons, List.length_cons]
    omega
/-! ### zero parts -/
def p1To (c : Int) : Nat → List (List Int)
  | 0 => []
  | m + 1 => p1To c m ++ parts c (m + 1)
def zpart (n : Int) (row : List Int) : Option (List Int) := (p1To row.length row.length).find? fun p => decide (psum n row p = 0)
theorem p1To_mem {c : Int} {p : List Int} : ∀ {m : Nat}, p ∈ p1To c m ↔ ∃ k, 1 ≤ k ∧ k ≤ m ∧ p ∈ parts c k
  | 0 => by
    constructor
    · intro h; cases h
    · rintro ⟨k, h1, h2, _⟩; omega
  | m + 1 => by
    show p ∈ p1To c m ++ _ ↔ _
    rw [List.mem_append, p1To_mem (m := m)]
    constructor
    · rintro (⟨k, h1, h2, h3⟩ | h)
      · exact ⟨k, h1, by omega, h3⟩
      · exact ⟨m + 1, by omega, by omega, h⟩
    · rintro ⟨k, h1, h2, h3⟩
      by_cases hk : k ≤ m
      · exact .inl ⟨k, h1, hk, h3⟩
      · rw [show k = m + 1 by omega] at h3
        exact .inr h3
def zpD' (n : Int) (row : List Int) : PyData := match zpart n row with
  | some p => pT p
  | none => .none
def zeroOc (n : Int) (row : List Int) : Oc := match zpart n row with
  | some p => .ok (pT p)
  | none => .er "NoZeroPart"
/-- a part is a nonempty strictly ascending list of places -/
structure IsP (len : Nat) (p : List Int) : Prop where
  ne : p ≠ []
  up : p.Pairwise (· < ·)
  bd : ∀ z ∈ p, 0 ≤ z ∧ z < len
theorem mem_p1 {c : Nat} {p : List Int} : p ∈ p1To c c ↔ IsP c p := by
  rw [p1To_mem]
  constructor
  · rintro ⟨k, h1, h2, h3⟩
    obtain ⟨a, b, d⟩ := parts_mem h3
    exact ⟨fun z => by rw [z, List.length_nil] at a; omega, b, d⟩
  · rintro ⟨h1, h2, h3⟩
    refine ⟨p.length, List.length_pos_iff.mpr h1, ?_, mem_parts rfl h2 h3⟩
    have := up_len h2 h3
    omega
theorem zpart_some {n : Int} {row p : List Int} (h : zpart n row = some p) : IsP row.length p ∧ psum n row p = 0 := by
  have h1 := List.mem_of_find?_eq_some h
  have h2 := List.find?_some h
  exact ⟨mem_p1.mp h1, of_decide_eq_true h2⟩
theorem zpart_none {n : Int} {row : List Int} (h : zpart n row = none) {p : List Int} (hp : IsP row.length p) : psum n row p ≠ 0 := by
  have := List.find?_eq_none.mp h p (mem_p1.mpr hp)
  intro z
  exact this (decide_eq_true z)
/-- free: no zero part -/
theorem free_part {n : Int} (hn : 0 < n) {row : List Int} (h : Rem n row) : free n row = true ↔ ∀ p, IsP row.length p → psum n row p ≠ 0 := by
  rw [free_iff hn h]
  constructor
  · intro z p hp e
    refine z (atP row p) ?_ ?_ e
    · exact atP_sub row p hp.up hp.bd
    · intro z2
      have := congrArg List.length z2
      rw [atP_len] at this
      exact hp.ne (List.length_eq_zero_iff.mp this)
  · intro z s h1 h2 h3
    obtain ⟨p, p1, p2, p3⟩ := sub_atP h1
    refine z p ⟨fun e => h2 ?_, p1, p2⟩ ?_
    · rw [← p3, e]; rfl
    · unfold psum; rw [p3]; exact h3
theorem free_zpart {n : Int} (hn : 0 < n) {row : List Int} (h : Rem n row) : free n row = (zpart n row).isNone := by
  rw [Bool.eq_iff_iff, free_part hn h, Option.isNone_iff_eq_none]
  constructor
  · intro z
    cases q : zpart n row with
    | none => rfl
    | some p => exact absurd (zpart_some q).2 (z p (zpart_some q).1)
  · intro q p hp
    exact zpart_none q hp
def RzeroOf : List PyData → PyData → Prop := fun ds d => ∃ (n : Int) (row : List Int), 2 ≤ n ∧ n ≤ 12 ∧ Row n row ∧ ds = [.int n, pT row] ∧ d = zpD' n row
theorem p1To_find {n : Int} {row : List Int} {m : Nat} {g : List Int} (hm : m < row.length) (h0 : (p1To row.length m).find? (fun p => decide (psum n row p = 0)) = none) (h1 : (parts row.length (m + 1)).find? (fun p => decide (psum n row p = 0)) = some g) : zpart n row = some g := by
  unfold zpart
  have key : ∀ k, (p1To row.length (m + 1 + k)).find? (fun p => decide (psum n row p = 0)) = some g := by
    intro k
    induction k with
    | zero =>
      show (p1To row.length m ++ parts row.length (m + 1)).find? _ = _
      rw [List.find?_append, h0, h1]; rfl
    | succ k ih =>
      show (p1To row.length (m + 1 + k) ++ _).find? _ = _
      rw [List.find?_append, ih]; rfl
  have := key (row.length - (m + 1))
  rw [show m + 1 + (row.length - (m + 1)) = row.length by omega] at this
  exact this
/-! ### is it a part -/
def upB : List PyData → Bool
  | .int a :: .int b :: r => decide (a < b) && upB (.int b :: r)
  | _ => true
def isPartD (len : Nat) : PyData → Bool
  | .tuple xs => !xs.isEmpty && (xs.filter fun x => !inR x 0 (len - 1)).isEmpty && upB xs
  | _ => false
def RisPart : List PyData → PyData → Prop := fun ds d => ∃ (row : List Int) (v : PyData), row.length ≤ 11 ∧ imm1 v = true ∧ ds = [pT row, v] ∧ d = .bool (isPartD row.length v)
where imm1 : PyData → Bool
  | .tuple xs => decide (xs.length ≤ 1000)
  | _ => true
theorem upB_iff : ∀ {p : List Int}, upB (iL p) = true ↔ p.Pairwise (· < ·)
  | [] => by simp [upB, iL]
  | [a] => by simp [upB, iL]
  | a :: b :: r => by
    show (decide (a < b) && upB (iL (b :: r))) = true ↔ _
    rw [Bool.and_eq_true, upB_iff (p := b :: r), decide_eq_true_eq]
    constructor
    · rintro ⟨h1, h2⟩
      refine List.pairwise_cons.mpr ⟨fun z hz => ?_, h2⟩
      rcases List.mem_cons.mp hz with rfl | hz
      · exact h1
      · have := (List.pairwise_cons.mp h2).1 z hz; omega
    · intro h
      obtain ⟨h1, h2⟩ := List.pairwise_cons.mp h
      exact ⟨h1 b List.mem_cons_self, h2⟩
theorem isPartD_iff {len : Nat} {v : PyData} : isPartD len v = true ↔ ∃ p, v = pT p ∧ IsP len p := by
  constructor
  · intro h
    cases v with
    | tuple xs =>
      have h : (!xs.isEmpty && (xs.filter fun x => !inR x 0 (len - 1)).isEmpty && upB xs) = true := h
      rw [Bool.and_eq_true, Bool.and_eq_true] at h
      obtain ⟨⟨h1, h2⟩, h3⟩ := h
      obtain ⟨p, rfl, hp⟩ := ints_of (n := len) h2
      refine ⟨p, rfl, fun z => ?_, upB_iff.mp h3, hp⟩
      rw [z] at h1
      cases h1
    | _ => cases h
  · rintro ⟨p, rfl, h1, h2, h3⟩
    show (!(iL p).isEmpty && ((iL p).filter fun x => !inR x 0 (len - 1)).isEmpty && upB (iL p)) = true
    rw [upB_iff.mpr h2, Bool.and_true, Bool.and_eq_true]
    constructor
    · cases p with
      | nil => exact absurd rfl h1
      | cons a r => rfl
    · rw [List.isEmpty_iff, List.filter_eq_nil_iff]
      intro x hx
      obtain ⟨z, hz, rfl⟩ := List.mem_map.mp hx
      have := h3 z hz
      show ¬ (!(decide (0 ≤ z) && decide (z ≤ len - 1))) = true
      rw [decide_eq_true this.1, decide_eq_true (by omega)]
      decide
/-- the steps that do not go up -/
theorem zip_up : ∀ {p : List Int}, ((zpD (iL p) ((iL p).drop 1)).filter fun d => match d with | .tuple [.int a, .int b] => decide (b ≤ a) | _ => false).isEmpty = upB (iL p)
  | [] => rfl
  | [a] => rfl
  | a :: b :: r => by
    have ih := zip_up (p := b :: r)
    show ((PyData.tuple [.int a, .int b] :: zpD (iL (b :: r)) ((iL (b :: r)).drop 1)).filter _).isEmpty = (decide (a < b) && upB (iL (b :: r)))
    by_cases h : b ≤ a
    · rw [List.filter_cons_of_pos (by exact decide_eq_true h), decide_eq_false (by omega)]; rfl
    · rw [List.filter_cons_of_neg (by intro z; exact h (of_decide_eq_true z)), ih, decide_eq_true (by omega), Bool.true_and]
def isZeroOc (v : PyData) (n : Int) (row : List Int) : Oc := .ok (.bool (isPartD row.length v && decide (psum n row (unT v) = 0)))
def RisZero : List PyData → Oc → Prop := fun ds o => ∃ h r v, RisPart.imm1 v = true ∧ ds = [h, r, v] ∧ o = onRow (isZeroOc v) h r
theorem RisZero.ok {n : Int} {row : List Int} {v : PyData} (h1 : 2 ≤ n) (h2 : n ≤ 12) (h : Row n row) (hv : RisPart.imm1 v = true) : RisZero [.int n, pT row, v] (.ok (.bool (isPartD row.length v && decide (psum n row (unT v) = 0)))) := ⟨_, _, _, hv, rfl, by rw [onRow_ok h1 h2 h]; rfl⟩
end CS
namespace CS
def sumsOc (n : Int) (row : List Int) : Oc := .ok (pL (rch n row))
end CS

set_option maxRecDepth 100000
set_option maxHeartbeats 4000000
namespace CS
open PySem PySem.Spec PyProof.Rows L2
/-! ### x, y = e, e2 where one of the names is a cell -/
theorem sw_no {sc : Scope} {env : Env} {x y : Str} {px py pt pt2 : Pos} {kt k2 : Nat} {a b : Expr} (he : env.scope = sc) (hk : sc.kind = .function) (hx1 : sc.names.lookup x = some .local) (hx : sc.names.lookup y ≠ some .local)
    (h3 : ([a, b].any fun | .Starred .. => true | _ => false) = false) :
    swappedStores [.Tuple [.Name x px, .Name y py] kt pt] (.Tuple [a, b] k2 pt2) env = pure none := by
  subst he
  have ky : (env.kindOf y == some .local) = false := beq_eq_false_iff_ne.mpr hx
  have hb : env.blockKind = .function := by unfold Env.blockKind; rw [hk]; rfl
  have kx : env.kindOf x = some .local := hx1
  have e1 : (px.line == px.line) = true := beq_self_eq_true _
  unfold swappedStores
  simp only [hb, List.filterMap_cons, List.filterMap_nil, kx, ky, e1, Expr.pos, List.head?_cons, Option.map_some, Option.getD_some, Bool.false_and]
  simp only [List.length_cons, List.length_nil]
  refine (if_neg (by decide)).trans ?_
  refine (if_neg (fun z => Bool.noConfusion (z.symm.trans h3))).trans ?_
  exact if_pos rfl
section
variable {c : Cfg} {X : Cx} {Γ : Gm} {e a b tg iter elt ie : Expr} {d da db dc : PyData} {es ifs : List Expr} {ds xs : List PyData} {pos p p2 p3 p4 px py pt pt2 : Pos} {x y : Str} {st : Stmt} {ss body orelse : List Stmt} {D : Ends} {σ : St} {W W0 : Wd} {q : Addr} {ks : List Int} {kt k2 : Nat}
theorem st_par2 (sf : Sf c X) (hs : SlOk X.K W.s σ Γ) (i j : Nat) (ha : Ev c Γ a da) (hb : Ev c Γ b db) (hi : c.N[i]? = some x) (hj : c.N[j]? = some y) (hx : c.sc.names.lookup x = some .local) (hy : locB c.sc y = true) (hn : c.sc.names.lookup y ≠ some .local) (hk : c.sc.kind = .function)
    (h : ∀ v w W', Wx W W' → SlOk X.K W'.s ((σ.set i (some v)).set j (some w)) ((Γ.set i (some da)).set j (some db)) → wSs X ss D ((σ.set i (some v)).set j (some w)) W'.h)
    (h3 : ([a, b].any fun | .Starred .. => true | _ => false) = false := by rfl)
    (hsE : ∀ env, starEach [a, b] env = (false, eval a env) :: starEach [b] env := by intro _; rfl) (hsE2 : ∀ env, starEach [b] env = [(false, eval b env)] := by intro _; rfl)
    (hp : ∀ env, (assignEach [.Tuple [.Name x px, .Name y py] kt pt] env).map (·.2) = [assign (.Tuple [.Name x px, .Name y py] kt pt) env] := by intro _; rfl)
    (hsw : ∀ env, swapsWithSole [.Tuple [.Name x px, .Name y py] kt pt] (.Tuple [a, b] k2 pt2) pos.line env = pure false := by intro _; rfl) : wSs X (.Assign [.Tuple [.Name x px, .Name y py] kt pt] (.Tuple [a, b] k2 pt2) pos :: ss) D σ W.h := by
  refine ss_cons (wS_of (ps_asg pe_w (pg_tup sf.calm (pgs_cons (pg_name (i := i) sf.nd (by rw [sf.N]; exact hi) (by rw [sf.sc]; exact .inl hx) (.inl (sf.fn _))) (pgs_cons (pg_name (i := j) sf.nd (by rw [sf.N]; exact hj) (by rw [sf.sc]; exact loc_of hy) (.inl (sf.fn _))) pgs_nil))) (hsw _) (sw_no sf.sc hk hx hn h3) (hp _)) ?_)
  refine ev_tuple (ea_cons ha (ea_cons hb ea_nil hsE2) hsE) (show 2 ≤ 100000 by decide) X sf.toCf σ W _ hs fun v W1 e1 r1 => ?_
  obtain ⟨t, us, rfl, h1, h2⟩ := dp_tup_inv r1
  obtain ⟨u1, u2, rfl, h5, h4⟩ := dpa2 h2
  exact ⟨t, _, rfl, W1.st h1, rfl, u1, [u2], rfl, u2, [], rfl, rfl, h u1 u2 W1 e1 (((hs.ex e1.s).set i h5).set j h4)⟩
end
/-! ### more remainders -/
theorem rch_more {n x z : Int} {row : List Int} (h : z ∈ rch n row) : z ∈ rch n (row ++ [x]) := by
  rw [rch_snoc]; exact mem_rchStep.mpr (.inl h)
theorem free_pre {n x : Int} {row : List Int} (h : free n (row ++ [x]) = true) : free n row = true := by
  unfold free at h ⊢
  rw [Bool.not_eq_true', decide_eq_false_iff_not] at h ⊢
  exact fun z => h (rch_more z)
theorem up_sub_len {l m : List Int} (hl : l.Pairwise (· < ·)) (hm : m.Pairwise (· < ·)) (h : ∀ z ∈ l, z ∈ m) : l.Sublist m := by
  induction m generalizing l with
  | nil =>
    cases l with
    | nil => exact .slnil
    | cons a r => exact absurd (h a List.mem_cons_self) (by simp)
  | cons b m ih =>
    obtain ⟨m1, m2⟩ := List.pairwise_cons.mp hm
    cases l with
    | nil => exact List.nil_sublist _
    | cons a r =>
      obtain ⟨l1, l2⟩ := List.pairwise_cons.mp hl
      rcases List.mem_cons.mp (h a List.mem_cons_self) with e | e
      · subst e
        refine (ih l2 m2 fun z hz => ?_).cons_cons _
        rcases List.mem_cons.mp (h z (List.mem_cons_of_mem _ hz)) with e2 | e2
        · have := l1 z hz; omega
        · exact e2
      · refine (ih hl m2 fun z hz => ?_).cons _
        rcases List.mem_cons.mp (h z hz) with e2 | e2
        · exfalso
          rcases List.mem_cons.mp hz with e3 | e3
          · have := m1 a e; omega
          · have := l1 z e3; have := m1 a e; omega
        · exact e2
theorem rch_grow {n x : Int} {row : List Int} (hn : 0 < n) (h : Rem n (row ++ [x])) (hf : free n (row ++ [x]) = true) : (rch n row).length + 1 ≤ (rch n (row ++ [x])).length := by
  have hs := up_sub_len (rch_up n row) (rch_up n (row ++ [x])) fun z hz => rch_more hz
  have hle := hs.length_le
  rcases Nat.lt_or_eq_of_le hle with h1 | h1
  · exact h1
  · exfalso
    have he : rch n row = rch n (row ++ [x]) := hs.eq_of_length h1
    have h0 : 0 ∉ rch n (row ++ [x]) := by
      unfold free at hf
      rw [Bool.not_eq_true', decide_eq_false_iff_not] at hf
      exact hf
    have hx := (Rem.app.mp h).2 x List.mem_cons_self
    have key : ∀ k : Nat, ((k + 1 : Nat) : Int) * x % n ∈ rch n (row ++ [x]) := by
      intro k
      induction k with
      | zero =>
        rw [show ((0 + 1 : Nat) : Int) * x = x by omega, Int.emod_eq_of_lt hx.1 hx.2, rch_snoc]
        exact mem_rchStep.mpr (.inr (.inl rfl))
      | succ k ih =>
        rw [← he] at ih
        rw [rch_snoc]
        refine mem_rchStep.mpr (.inr (.inr ⟨_, ih, ?_⟩))
        rw [Int.emod_add_emod]
        congr 1
        rw [show ((k + 1 + 1 : Nat) : Int) = ((k + 1 : Nat) : Int) + 1 by omega, Int.add_mul, Int.one_mul]
    have := key (n.toNat - 1)
    rw [show ((n.toNat - 1 + 1 : Nat) : Int) = n by omega, Int.mul_emod_right] at this
    exact h0 this
theorem rch_ge {n : Int} (hn : 0 < n) : ∀ row : List Int, Rem n row → free n row = true → row.length ≤ (rch n row).length := by
  refine rev_ind (fun _ _ => Nat.zero_le _) fun l x ih h hf => ?_
  have h1 := ih (Rem.app.mp h).1 (free_pre hf)
  have h2 := rch_grow hn h hf
  rw [List.length_append]
  show l.length + 1 ≤ _
  omega
theorem atP_app {row p : List Int} {x : Int} (h : ∀ z ∈ p, 0 ≤ z ∧ z < row.length) : atP (row ++ [x]) p = atP row p := by
  unfold atP
  refine List.map_congr_left fun z hz => ?_
  have := h z hz
  rw [List.getD_eq_getElem?_getD, List.getD_eq_getElem?_getD, List.getElem?_append_left (by omega)]
theorem psum_app {n : Int} {row p : List Int} {x : Int} (h : ∀ z ∈ p, 0 ≤ z ∧ z < row.length) : psum n (row ++ [x]) p = psum n row p := by
  unfold psum; rw [atP_app h]
theorem rch_one {n x : Int} : rch n [x] = [x] := rfl
theorem isP_more {l : Nat} {p : List Int} (h : IsP l p) : IsP (l + 1) p := ⟨h.ne, h.up, fun z hz => by have := h.bd z hz; omega⟩
theorem isP_less {l : Nat} {p : List Int} (h : IsP (l + 1) p) (hn : (l : Int) ∉ p) : IsP l p := ⟨h.ne, h.up, fun z hz => by
  have := h.bd z hz
  have : z ≠ l := fun e => hn (e ▸ hz)
  omega⟩
end CS

set_option maxRecDepth 100000
set_option maxHeartbeats 4000000
namespace CS
open PySem PySem.Spec PyProof.Rows L2
/-! ### sorted(set(t)), t a tuple of ints -/
def rSetT (K : PySem.W.Frag) (w : World) : List V → Hp → VK → Prop := fun vs H Q => ∃ (a : Addr) (ns : List Int), vs = [.ref a] ∧ SqT K H a (ns.map V.int) ∧ ns.length < 1000 ∧
  ∀ p c, H p = none → c ≤ ns.length → Q (.ref p) (upd H p (SetO w p (fun j => decide (j ∈ ns)) c))
theorem cr_setT {X : Cx} (hc : X.calm = true) : CallR X (.type "set") (rSetT X.K X.w) := by
  intro pins s σ H vs us Q I r h
  obtain ⟨a, ns, rfl, hs, hl, q⟩ := h
  obtain ⟨its, rv, pt, hz⟩ := I.tuple hs
  rw [Vals.ref1 r]
  refine call_set_tupI ns (I.ok.hd hc) pt (by simpa using rv.ints) (by unfold scanBound; omega) fun h' tk c R hcn hk => ?_
  have hn : H s.heap.objs.size = none := I.hok.fresh (Nat.le_refl _)
  exact ⟨.ref _, _, I.laid (t' := tk) hk (Nat.le_refl _) (setO_new R), rfl, q _ c hn hcn⟩
section
variable {c : Cfg} {Γ : Gm} {e a b : Expr} {d : PyData} {pos p p2 pos2 : Pos} {ns : List Int}
theorem ev_sortedSetT (ha : Ev c Γ a (pT ns)) (hl : ns.length < 64) (hm : c.mg "sorted" = none) (hg : glB c.sc "sorted" = true) (hm2 : c.mg "set" = none) (hg2 : glB c.sc "set" = true)
    (he : ∀ env, starEach [a] env = [(false, eval a env)] := by intro _; rfl) : Ev c Γ (.Call (.Name "sorted" p) [.Call (.Name "set" p2) [a] [] pos2] [] pos) (pL (asc ns)) := fun X cf σ W Q s q => by
  refine wE_of (pe_callB (cr_sortedSet cf.calm) (gl_of cf hg) (by rw [cf.mg]; exact hm) (by decide +kernel) (pa_cons (pe_callTy (cr_setT cf.calm) (gl_of cf hg2) (by rw [cf.mg]; exact hm2) (by decide +kernel) (pa_cons pe_w pa_nil (he _)) (by decide) (by decide) (he _) rfl) pa_nil rfl) (by decide) (by decide) rfl rfl) ?_
  refine ha X cf σ W _ s fun v W1 e1 r1 => ?_
  obtain ⟨u, rfl, h1⟩ := dp_pT_inv r1
  refine ⟨u, ns, rfl, W1.st h1, by omega, fun q1 n hq hn => ?_⟩
  have x2 := Wx.new (o := SetO X.w q1 (fun j => decide (j ∈ ns)) n) hq
  refine ⟨q1, _, n, rfl, upd_same, by omega, fun ys p hy hm _ hp => ?_⟩
  have ey : ys = asc ns := asc_eq hy fun z => by rw [hm, decide_eq_true_eq]
  subst ey
  have x3 := Wx.new (W := W1.new q1 (SetO X.w q1 (fun j => decide (j ∈ ns)) n)) (o := .lst ((asc ns).map V.int)) hp
  exact q _ _ ((e1.trans x2).trans x3) (.lst (SqL.of upd_same) (dpa_of_ints _))
end
/-! ### specs -/
def whole : PyData → Bool
  | .int _ => true
  | _ => false
def Rwhole : List PyData → PyData → Prop := fun ds d => ∃ v, ds = [v] ∧ d = .bool (whole v)
def partedD (n : Int) (row : List Int) : PyData := match zpart n row with
  | some p => pT p
  | none => .str "none"
def Rparted : List PyData → PyData → Prop := fun ds d => ∃ (n : Int) (row : List Int), 2 ≤ n ∧ n ≤ 12 ∧ Row n row ∧ ds = [.int n, pT row] ∧ d = partedD n row
end CS

set_option maxRecDepth 100000
set_option maxHeartbeats 4000000
/-! States: data in slots, owned objects in slots. A block's run over states, worlds left out. -/
namespace CS
open PySem PySem.Spec PyProof.Rows L2
inductive Own where
  | lst (ds : List PyData)
  | raw (o : HO)
abbrev Ows := List (Nat × Own)
def OwAt (K : PySem.W.Frag) (W : Wd) (q : Addr) : Own → Prop
  | .lst ds => OwL K W q ds
  | .raw o => W.s q = none ∧ W.h q = some o
/-- two worlds alike but at q -/
structure Wm (W W' : Wd) (q : Addr) : Prop where
  s : Ex W.s W'.s
  h : ∀ a o, a ≠ q → W.h a = some o → W'.h a = some o
  av : ∀ a o, a ≠ q → W.h a = some o → W.s a = none → W'.s a = none
theorem OwAt.mv {K : PySem.W.Frag} {W W' : Wd} {q p : Addr} {o : Own} (h : OwAt K W q o) (m : Wm W W' p) (n : q ≠ p) : OwAt K W' q o := by
  cases o with
  | lst ds =>
    obtain ⟨vs, h1, h2⟩ := h.at_
    exact ⟨m.av _ _ n h1 h.n, vs, m.h _ _ n h1, dpa_ex m.s h2⟩
  | raw u => exact ⟨m.av _ _ n h.2 h.1, m.h _ _ n h.2⟩
theorem OwAt.ex {K : PySem.W.Frag} {W W' : Wd} {q : Addr} {o : Own} (h : OwAt K W q o) (e : Wx W W') : OwAt K W' q o := by
  cases o with
  | lst ds => exact OwL.ex h e
  | raw u => exact ⟨e.av _ _ h.2 h.1, e.h _ _ h.2⟩
theorem OwAt.n {K : PySem.W.Frag} {W : Wd} {q : Addr} {o : Own} (h : OwAt K W q o) : W.s q = none := by
  cases o with
  | lst ds => exact OwL.n h
  | raw u => exact h.1
theorem OwAt.there {K : PySem.W.Frag} {W : Wd} {q : Addr} {o : Own} (h : OwAt K W q o) : ∃ u, W.h q = some u := by
  cases o with
  | lst ds => obtain ⟨vs, h1, _⟩ := OwL.at_ h; exact ⟨_, h1⟩
  | raw u => exact ⟨_, h.2⟩
inductive OwOk (K : PySem.W.Frag) (W0 W : Wd) (σ : St) : Ows → List Addr → Prop
  | nil : OwOk K W0 W σ [] []
  | cons {i : Nat} {q : Addr} {o : Own} {O : Ows} {qs : List Addr} (h1 : σ[i]? = some (some (.ref q))) (h2 : W0.h q = none) (h3 : OwAt K W q o) (h4 : q ∉ qs) (t : OwOk K W0 W σ O qs) : OwOk K W0 W σ ((i, o) :: O) (q :: qs)
def drp (i : Nat) : Ows → Ows
  | [] => []
  | (j, o) :: r => match Nat.beq j i with
    | true => drp i r
    | false => (j, o) :: drp i r
def getO (i : Nat) : Ows → Option Own
  | [] => none
  | (j, o) :: r => match Nat.beq j i with
    | true => some o
    | false => getO i r
def putO (i : Nat) (u : Own) : Ows → Ows
  | [] => []
  | (j, o) :: r => match Nat.beq j i with
    | true => (j, u) :: r
    | false => (j, o) :: putO i u r
def remO (i : Nat) : Ows → Ows
  | [] => []
  | (j, o) :: r => match Nat.beq j i with
    | true => r
    | false => (j, o) :: remO i r
section
variable {K : PySem.W.Frag} {W0 W W' : Wd} {σ : St} {O : Ows} {qs : List Addr}
theorem OwOk.ex (h : OwOk K W0 W σ O qs) (e : Wx W W') : OwOk K W0 W' σ O qs := by
  induction h with
  | nil => exact .nil
  | cons h1 h2 h3 h4 t ih => exact .cons h1 h2 (h3.ex e) h4 ih
theorem OwOk.mv {p : Addr} (h : OwOk K W0 W σ O qs) (m : Wm W W' p) (n : p ∉ qs) : OwOk K W0 W' σ O qs := by
  induction h with
  | nil => exact .nil
  | cons h1 h2 h3 h4 t ih => exact .cons h1 h2 (h3.mv m fun e => n (by rw [e]; exact List.mem_cons_self)) h4 (ih fun z => n (List.mem_cons_of_mem _ z))
theorem OwOk.off (h : OwOk K W0 W σ O qs) : ∀ q ∈ qs, W.s q = none ∧ W0.h q = none ∧ ∃ u, W.h q = some u := by
  induction h with
  | nil => intro q hq; cases hq
  | cons h1 h2 h3 h4 t ih =>
    intro q hq
    rcases List.mem_cons.mp hq with rfl | hq
    · exact ⟨h3.n, h2, h3.there⟩
    · exact ih q hq
theorem OwOk.set {v : Option V} (h : OwOk K W0 W σ O qs) (i : Nat) : ∃ qs', OwOk K W0 W (σ.set i v) (drp i O) qs' ∧ ∀ q ∈ qs', q ∈ qs := by
  induction h with
  | nil => exact ⟨[], .nil, fun _ z => z⟩
  | @cons j q o O qs h1 h2 h3 h4 t ih =>
    obtain ⟨qs', t', hq⟩ := ih
    unfold drp
    cases e : Nat.beq j i with
    | true => exact ⟨qs', t', fun z hz => List.mem_cons_of_mem _ (hq z hz)⟩
    | false =>
      have ne : i ≠ j := fun z => by rw [z, Nat.beq_refl] at e; cases e
      refine ⟨q :: qs', .cons (by rw [List.getElem?_set_ne ne]; exact h1) h2 h3 (fun z => h4 (hq q z)) t', fun z hz => ?_⟩
      rcases List.mem_cons.mp hz with rfl | hz
      · exact List.mem_cons_self
      · exact List.mem_cons_of_mem _ (hq z hz)
/-- the owned object of slot i -/
theorem OwOk.get (h : OwOk K W0 W σ O qs) {i : Nat} {o : Own} (g : getO i O = some o) : ∃ q, σ[i]? = some (some (.ref q)) ∧ W0.h q = none ∧ OwAt K W q o ∧ q ∈ qs ∧ (∀ W' u, Wm W W' q → OwAt K W' q u → OwOk K W0 W' σ (putO i u O) qs) ∧ ∃ qs', OwOk K W0 W σ (remO i O) qs' ∧ q ∉ qs' ∧ ∀ z ∈ qs', z ∈ qs := by
  induction h with
  | nil => cases g
  | @cons j q o2 O qs h1 h2 h3 h4 t ih =>
    unfold getO at g
    cases e : Nat.beq j i with
    | true =>
      rw [e] at g
      have ej : j = i := Nat.eq_of_beq_eq_true e
      subst ej
      cases g
      refine ⟨q, h1, h2, h3, List.mem_cons_self, fun W' u m hu => ?_, qs, ?_, h4, fun z hz => List.mem_cons_of_mem _ hz⟩
      · unfold putO
        rw [e]
        exact .cons h1 h2 hu h4 (t.mv m h4)
      · unfold remO
        rw [e]
        exact t
    | false =>
      rw [e] at g
      obtain ⟨q', k1, k2, k3, k4, k5, qs', k6, k7, k8⟩ := ih g
      have nq : q' ≠ q := fun z => h4 (z ▸ k4)
      refine ⟨q', k1, k2, k3, List.mem_cons_of_mem _ k4, fun W' u m hu => ?_, q :: qs', ?_, ?_, ?_⟩
      · unfold putO
        rw [e]
        exact .cons h1 h2 (h3.mv m (Ne.symm nq)) h4 (k5 W' u m hu)
      · unfold remO
        rw [e]
        exact .cons h1 h2 h3 (fun z => h4 (k8 q z)) k6
      · intro z
        rcases List.mem_cons.mp z with z | z
        · exact nq z
        · exact k7 z
      · intro z hz
        rcases List.mem_cons.mp hz with rfl | hz
        · exact List.mem_cons_self
        · exact List.mem_cons_of_mem _ (k8 z hz)
end
/-- the state: W0 the def's start -/
structure Sto (K : PySem.W.Frag) (W0 : Wd) (U : Hp) (W : Wd) (σ : St) (Γ : Gm) (O : Ows) : Prop where
  x : Wx W0 W
  v : Ex U W.s
  s : SlOk K W.s σ Γ
  o : ∃ qs, OwOk K W0 W σ O qs
section
variable {K : PySem.W.Frag} {W0 W W' : Wd} {U : Hp} {σ : St} {Γ Γ' : Gm} {O : Ows}
theorem Sto.ex (h : Sto K W0 U W σ Γ O) (e : Wx W W') : Sto K W0 U W' σ Γ O := ⟨h.x.trans e, h.v.trans e.s, h.s.ex e.s, let ⟨qs, t⟩ := h.o; ⟨qs, t.ex e⟩⟩
theorem Sto.set {v : V} {d : PyData} (h : Sto K W0 U W σ Γ O) (i : Nat) (hd : Dp K W.s v d) : Sto K W0 U W (σ.set i (some v)) (Γ.set i (some d)) (drp i O) :=
  ⟨h.x, h.v, h.s.set i hd, let ⟨_, t⟩ := h.o; let ⟨qs', t', _⟩ := t.set i; ⟨qs', t'⟩⟩
theorem Sto.setAny {v : Option V} (h : Sto K W0 U W σ Γ O) (i : Nat) : Sto K W0 U W (σ.set i v) (Γ.set i none) (drp i O) :=
  ⟨h.x, h.v, h.s.setAny i, let ⟨_, t⟩ := h.o; let ⟨qs', t', _⟩ := t.set i; ⟨qs', t'⟩⟩
theorem Sto.to (h : Sto K W0 U W σ Γ O) (s : Sub Γ' Γ) : Sto K W0 U W σ Γ' O := ⟨h.x, h.v, h.s.to s, h.o⟩
theorem Sto.re {U' : Hp} (h : Sto K W0 U W σ Γ O) (e : Ex U' W.s) : Sto K W0 U' W σ Γ O := ⟨h.x, e, h.s, h.o⟩
end
/-- owned lists shown as data -/
def sh (Γ : Gm) : Ows → Gm
  | [] => Γ
  | (i, .lst ds) :: r => (sh Γ r).set i (some (.list ds))
  | (_, .raw _) :: r => sh Γ r
theorem OwOk.shown {K : PySem.W.Frag} {W0 W : Wd} {σ : St} {Γ : Gm} {O : Ows} {qs : List Addr} (t : OwOk K W0 W σ O qs) (hs : SlOk K W.s σ Γ) :
    ∃ W1 : Wd, W1.h = W.h ∧ Ex W.s W1.s ∧ (∀ a, a ∉ qs → W1.s a = W.s a) ∧ (∀ a ∈ qs, W1.s a = none ∨ ∃ xs, W1.s a = some (.lst xs)) ∧ SlOk K W1.s σ (sh Γ O) := by
  induction t with
  | nil => exact ⟨W, rfl, Ex.refl, fun _ _ => rfl, (fun a (ha : a ∈ ([] : List Addr)) => (List.not_mem_nil ha).elim), hs⟩
  | @cons j q o O qs h1 h2 h3 h4 t ih =>
    obtain ⟨W1, e1, x1, k1, k2, k3⟩ := ih
    cases o with
    | lst ds =>
      obtain ⟨vs, g1, g2⟩ := OwL.at_ h3
      have nq : W1.s q = none := by rw [k1 q h4]; exact OwL.n h3
      have g1' : W1.h q = some (.lst vs) := by rw [e1]; exact g1
      refine ⟨W1.shown q _ g1', e1, x1.trans (Ex.new nq), fun a ha => ?_, fun a ha => ?_, ?_⟩
      · show upd W1.s q _ a = _
        rw [upd_ne (fun z => ha (by rw [z]; exact List.mem_cons_self))]
        exact k1 a fun z => ha (List.mem_cons_of_mem _ z)
      · show upd W1.s q _ a = none ∨ ∃ xs, upd W1.s q _ a = _
        by_cases ea : a = q
        · subst ea
          rw [upd_same]
          exact .inr ⟨vs, rfl⟩
        · rw [upd_ne ea]
          rcases List.mem_cons.mp ha with z | z
          · exact absurd z ea
          · exact k2 a z
      · exact (k3.ex (Ex.new nq)).put h1 (dp_shownL (h := g1') nq (dpa_ex x1 g2))
    | raw u =>
      refine ⟨W1, e1, x1, fun a ha => k1 a fun z => ha (List.mem_cons_of_mem _ z), fun a ha => ?_, k3⟩
      rcases List.mem_cons.mp ha with rfl | z
      · exact .inl (by rw [k1 a h4]; exact h3.1)
      · exact k2 a z
/-- the addresses qs hidden -/
def Wd.hid (W : Wd) (qs : List Addr) : Wd := ⟨fun a => if a ∈ qs then none else W.s a, W.h, fun a u g => by
  have g : (if a ∈ qs then none else W.s a) = some u := g
  by_cases ea : a ∈ qs
  · rw [if_pos ea] at g; cases g
  · rw [if_neg ea] at g; exact W.sub a u g⟩
theorem hid_wx {W W1 W2 : Wd} {qs : List Addr} (e : W1.h = W.h) (k1 : ∀ a, a ∉ qs → W1.s a = W.s a) (k0 : ∀ a ∈ qs, W.s a = none) (x : Wx W1 W2) : Wx W (W2.hid qs) := by
  refine ⟨fun a u g => ?_, fun a u g => x.h a u (by rw [e]; exact g), fun a u g m => ?_⟩
  · have na : a ∉ qs := fun z => by rw [k0 a z] at g; cases g
    show (if a ∈ qs then none else W2.s a) = some u
    rw [if_neg na]
    exact x.s a u (by rw [k1 a na]; exact g)
  · show (if a ∈ qs then none else W2.s a) = none
    by_cases na : a ∈ qs
    · rw [if_pos na]
    · rw [if_neg na]
      exact x.av a u (by rw [e]; exact g) (by rw [k1 a na]; exact m)
theorem hid_tx {W W1 W2 : Wd} {qs : List Addr} (e : W1.h = W.h) (k2 : ∀ a ∈ qs, W1.s a = none ∨ ∃ xs, W1.s a = some (.lst xs)) (k3 : ∀ a ∈ qs, ∃ u, W.h a = some u) (x : Wx W1 W2) : Tx W2.s (W2.hid qs).s := by
  have key : ∀ a ∈ qs, W2.s a = none ∨ ∃ xs, W2.s a = some (.lst xs) := fun a ha => by
    rcases k2 a ha with h | ⟨xs, h⟩
    · obtain ⟨u, hu⟩ := k3 a ha
      exact .inl (x.av a u (by rw [e]; exact hu) h)
    · exact .inr ⟨xs, x.s a _ h⟩
  rintro a xs ⟨o, ho, r⟩
  have na : a ∉ qs := fun ha => by
    rcases key a ha with h | ⟨ys, h⟩ <;> (rw [h] at r; cases r)
  exact ⟨o, ho, by show (if a ∈ qs then none else W2.s a) = _; rw [if_neg na]; exact r⟩

theorem Sub.set : ∀ {a b : Gm} (i : Nat) {o : Option PyData}, Sub a b → Sub (a.set i o) (b.set i o)
  | [], [], _, _, _ => trivial
  | none :: a, _ :: b, 0, o, h => by
    cases o with
    | none => exact h
    | some d => exact ⟨rfl, h⟩
  | some _ :: a, _ :: b, 0, o, h => by
    cases o with
    | none => exact h.2
    | some d => exact ⟨rfl, h.2⟩
  | none :: a, _ :: b, i + 1, o, h => Sub.set (a := a) (b := b) i h
  | some d :: a, x :: b, i + 1, o, h => ⟨h.1, Sub.set (a := a) (b := b) i h.2⟩
  | [], _ :: _, _, _, h => h.elim
  | none :: _, [], _, _, h => h.elim
  | some _ :: _, [], _, _, h => h.elim
/-! ### expressions over states -/
def EvX (c : Cfg) (Γ : Gm) (O : Ows) (e : Expr) (d : PyData) : Prop :=
  ∀ X, Cf c X → ∀ (W0 : Wd) (U : Hp) (σ : St) (W : Wd) (Q : VK), Sto X.K W0 U W σ Γ O → (∀ v W', Wx W W' → Dp X.K W'.s v d → Q v W'.h) → wE X e σ W.h Q
def EvXT (c : Cfg) (Γ : Gm) (O : Ows) (e : Expr) (b : Bool) : Prop :=
  ∀ X, Cf c X → ∀ (W0 : Wd) (U : Hp) (σ : St) (W : Wd) (Q : Bool → Hp → Prop), Sto X.K W0 U W σ Γ O → (∀ W', Wx W W' → Q b W'.h) → wT X e σ W.h Q
def ErX (c : Cfg) (Γ : Gm) (O : Ows) (e : Expr) (x : Str) : Prop :=
  ∀ X, Cf c X → ∀ Wr : WX, Takes X Wr → ∀ (W0 : Wd) (U : Hp) (σ : St) (W : Wd) (Q : VK), Sto X.K W0 U W σ Γ O → (∀ C W', c.mg x = some (.ref C) → Wx W W' → Wr (.ref C) none σ W'.h) → wE X e σ W.h Q
section
variable {c : Cfg} {Γ Γ' : Gm} {O O' : Ows} {e a b : Expr} {d da db : PyData} {pos p p2 : Pos} {x : Str} {k : Bool}
theorem evx (h : Ev c Γ e d) : EvX c Γ O e d := fun X cf W0 U σ W Q s q => h X cf σ W Q s.s q
theorem erx (h : Er c Γ e x) : ErX c Γ O e x := fun X cf Wr tk W0 U σ W Q s q => h X cf Wr tk σ W Q s.s q
theorem EvX.cast (h : EvX c Γ O e d) {d' : PyData} (q : d = d') : EvX c Γ O e d' := q ▸ h
theorem EvXT.cast (h : EvXT c Γ O e k) {k' : Bool} (q : k = k') : EvXT c Γ O e k' := q ▸ h
theorem evx_sh (h : Ev c (sh Γ O) e d) (hi : imm d = true) : EvX c Γ O e d := fun X cf W0 U σ W Q s q => by
  obtain ⟨qs, t⟩ := s.o
  have off := t.off
  obtain ⟨W1, e1, x1, k1, k2, k3⟩ := t.shown s.s
  have := h X cf σ W1 Q k3 fun v W2 e2 r2 => q v (W2.hid qs) (hid_wx e1 k1 (fun a ha => (off a ha).1) e2) (dp_tx (hid_tx e1 k2 (fun a ha => (off a ha).2.2) e2) hi r2)
  rw [e1] at this
  exact this
theorem evxt (h : EvT c (sh Γ O) e k) : EvXT c Γ O e k := fun X cf W0 U σ W Q s q => by
  obtain ⟨qs, t⟩ := s.o
  have off := t.off
  obtain ⟨W1, e1, x1, k1, k2, k3⟩ := t.shown s.s
  have := h X cf σ W1 Q k3 fun W2 e2 => q (W2.hid qs) (hid_wx e1 k1 (fun a ha => (off a ha).1) e2)
  rw [e1] at this
  exact this
end

/-! ### runs -/
structure Po where
  nx : Gm → Ows → Prop := fun _ _ => False
  rt : PyData → Prop := fun _ => False
  er : Str → Gm → Ows → Prop := fun _ _ _ => False
  bk : Gm → Ows → Prop := fun _ _ => False
  ct : Gm → Ows → Prop := fun _ _ => False
structure Hld (c : Cfg) (X : Cx) (W0 : Wd) (U : Hp) (D : Ends) (Wr : WX) (P : Po) : Prop where
  nx : ∀ Γ O σ W, P.nx Γ O → Sto X.K W0 U W σ Γ O → D.nx σ W.h
  rt : ∀ d v W, P.rt d → Wx W0 W → Dp X.K W.s v d → D.rt v W.h
  er : ∀ x Γ O C σ W, P.er x Γ O → c.mg x = some (.ref C) → Sto X.K W0 U W σ Γ O → Wr (.ref C) none σ W.h
  bk : ∀ Γ O σ W, P.bk Γ O → Sto X.K W0 U W σ Γ O → D.bk σ W.h
  ct : ∀ Γ O σ W, P.ct Γ O → Sto X.K W0 U W σ Γ O → D.ct σ W.h
def Run (c : Cfg) (Γ : Gm) (O : Ows) (ss : List Stmt) (P : Po) : Prop :=
  ∀ X, Sf c X → ∀ Wr, Takes X Wr → ∀ (W0 : Wd) (U : Hp) (D : Ends), Hld c X W0 U D Wr P → ∀ (σ : St) (W : Wd), Sto X.K W0 U W σ Γ O → wSs X ss D σ W.h
section
variable {c : Cfg} {Γ Γ' : Gm} {O O' : Ows} {e a b tg iter : Expr} {d da db dc : PyData} {es : List Expr} {ds xs : List PyData} {pos p p2 p3 px py pt pt2 : Pos} {x y : Str} {st : Stmt} {ss body orelse : List Stmt} {P : Po} {k : Bool} {kt k2 : Nat}
theorem Run.weak (h : Run c Γ' O ss P) (s : Sub Γ' Γ) : Run c Γ O ss P := fun X sf Wr tk W0 U D hd σ W g => h X sf Wr tk W0 U D hd σ W (g.to s)
theorem run_nil (h : P.nx Γ O) : Run c Γ O [] P := fun X sf Wr tk W0 U D hd σ W g => ss_nil (hd.nx _ _ _ _ h g)
/-- the P of a suite: ss follows -/
abbrev Po.thn (P : Po) (c : Cfg) (ss : List Stmt) : Po := { P with nx := fun Γ O => Run c Γ O ss P }
theorem Hld.thn {X : Cx} {W0 : Wd} {U : Hp} {D : Ends} {Wr : WX} (h : Hld c X W0 U D Wr P) (sf : Sf c X) (tk : Takes X Wr) : Hld c X W0 U { D with nx := wSs X ss D } Wr (P.thn c ss) :=
  ⟨fun Γ O σ W q g => q X sf Wr tk W0 U D h σ W g, h.rt, h.er, h.bk, h.ct⟩
theorem run_set (i : Nat) (he : EvX c Γ O e d) (hN : c.N[i]? = some x) (hl : locB c.sc x = true) (h : Run c (Γ.set i (some d)) (drp i O) ss P)
    (hw : ∀ env, swapsWith e (some (.Name x p)) pos.line env = pure false := by intro _; rfl) : Run c Γ O (.Assign [.Name x p] e pos :: ss) P := fun X sf Wr tk W0 U D hd σ W g => by
  refine ss_cons (wS_of (ps_set (i := i) sf.nd (by rw [sf.N]; exact hN) (by rw [sf.sc]; exact loc_of hl) pe_w (hw _) (.inl (sf.fn _))) ?_)
  exact he X sf.toCf W0 U σ W _ g fun v W1 e1 r1 => h X sf Wr tk W0 U D hd _ W1 ((g.ex e1).set i r1)
theorem run_expr (he : EvX c Γ O e d) (h : Run c Γ O ss P) (hw : ∀ env, swapsWith e none pos.line env = pure false := by intro _; rfl) : Run c Γ O (.Expr e pos :: ss) P := fun X sf Wr tk W0 U D hd σ W g => by
  refine ss_cons (wS_of (ps_expr pe_w (hw _)) ?_)
  exact he X sf.toCf W0 U σ W _ g fun v W1 e1 r1 => h X sf Wr tk W0 U D hd _ W1 (g.ex e1)
theorem run_exprE (he : ErX c Γ O e y) (h : P.er y Γ O) (hw : ∀ env, swapsWith e none pos.line env = pure false := by intro _; rfl) : Run c Γ O (.Expr e pos :: ss) P := fun X sf Wr tk W0 U D hd σ W g =>
  ss_cons (wS_of (ps_expr pe_w (hw _)) (he X sf.toCf Wr tk W0 U σ W _ g fun C W1 hC e1 => hd.er _ _ _ C σ W1 h hC (g.ex e1)))
theorem run_retE (he : ErX c Γ O e y) (h : P.er y Γ O) : Run c Γ O (.Return (some e) pos :: ss) P := fun X sf Wr tk W0 U D hd σ W g =>
  ss_cons (wS_of (ps_ret pe_w) (he X sf.toCf Wr tk W0 U σ W _ g fun C W1 hC e1 => hd.er _ _ _ C σ W1 h hC (g.ex e1)))
theorem run_setE (i : Nat) (he : ErX c Γ O e y) (hN : c.N[i]? = some x) (hl : locB c.sc x = true) (h : P.er y Γ O)
    (hw : ∀ env, swapsWith e (some (.Name x p)) pos.line env = pure false := by intro _; rfl) : Run c Γ O (.Assign [.Name x p] e pos :: ss) P := fun X sf Wr tk W0 U D hd σ W g =>
  ss_cons (wS_of (ps_set (i := i) sf.nd (by rw [sf.N]; exact hN) (by rw [sf.sc]; exact loc_of hl) pe_w (hw _) (.inl (sf.fn _))) (he X sf.toCf Wr tk W0 U σ W _ g fun C W1 hC e1 => hd.er _ _ _ C σ W1 h hC (g.ex e1)))
theorem shown_wx {K : PySem.W.Frag} {W0 W W1 : Wd} {σ : St} {qs : List Addr} (t : OwOk K W0 W σ O qs) (x : Wx W0 W) (e1 : W1.h = W.h) (x1 : Ex W.s W1.s) (k1 : ∀ a, a ∉ qs → W1.s a = W.s a) : Wx W0 W1 := by
  refine ⟨x.s.trans x1, fun a u g => by rw [e1]; exact x.h a u g, fun a u g m => ?_⟩
  rw [k1 a fun z => by rw [(t.off a z).2.1] at g; cases g]
  exact x.av a u g m
/-- return e, owned lists read in e -/
theorem run_ret (he : Ev c (sh Γ O) e d) (h : P.rt d) : Run c Γ O (.Return (some e) pos :: ss) P := fun X sf Wr tk W0 U D hd σ W g => by
  obtain ⟨qs, t⟩ := g.o
  obtain ⟨W1, e1, x1, k1, k2, k3⟩ := t.shown g.s
  have x2 := shown_wx t g.x e1 x1 k1
  rw [← e1]
  exact st_ret sf k3 he fun v W2 e2 r2 => hd.rt d v W2 h (x2.trans e2) r2
theorem run_retX (he : EvX c Γ O e d) (h : P.rt d) : Run c Γ O (.Return (some e) pos :: ss) P := fun X sf Wr tk W0 U D hd σ W g => by
  refine ss_cons (wS_of (ps_ret pe_w) ?_)
  exact he X sf.toCf W0 U σ W _ g fun v W1 e1 r1 => hd.rt d v W1 h (g.x.trans e1) r1
/-- an owned list becomes data -/
theorem run_show (j : Nat) (g0 : getO j O = some (.lst ds)) (h : Run c (Γ.set j (some (.list ds))) (remO j O) ss P) : Run c Γ O ss P := fun X sf Wr tk W0 U D hd σ W g => by
  obtain ⟨qs, t⟩ := g.o
  obtain ⟨q, k1, k2, k3, k4, k5, qs', k6, k7, k8⟩ := t.get g0
  obtain ⟨vs, h1, h2⟩ := OwL.at_ k3
  have nq : W.s q = none := OwL.n k3
  have m : Wm W (W.shown q _ h1) q := ⟨Ex.new nq, fun a o _ e => e, fun a o ne e n => by show upd W.s q _ a = none; rw [upd_ne ne]; exact n⟩
  exact h X sf Wr tk W0 U D hd σ (W.shown q _ h1) ⟨g.x.shown k2 nq, g.v.trans (Ex.new nq), (g.s.ex (Ex.new nq)).put k1 (dp_shownL (h := h1) nq h2), qs', k6.mv m k7⟩
theorem run_if (hc : EvXT c Γ O e k) (h1 : k = true → Run c Γ O body (P.thn c ss)) (h2 : k = false → Run c Γ O orelse (P.thn c ss)) : Run c Γ O (.If e body orelse pos :: ss) P := fun X sf Wr tk W0 U D hd σ W g => by
  refine ss_cons (wS_of (ps_if pt_w pss_w pss_w) ?_)
  refine hc X sf.toCf W0 U σ W _ g fun W1 e1 => ?_
  cases k with
  | true => rw [if_pos rfl]; exact h1 rfl X sf Wr tk W0 U _ (hd.thn sf tk) σ W1 (g.ex e1)
  | false => rw [if_neg Bool.false_ne_true]; exact h2 rfl X sf Wr tk W0 U _ (hd.thn sf tk) σ W1 (g.ex e1)
theorem run_pass (h : Run c Γ O ss P) : Run c Γ O (.Pass pos :: ss) P := fun X sf Wr tk W0 U D hd σ W g => st_pass (h X sf Wr tk W0 U D hd σ W g)
/-- for x in ..: I the invariant -/
theorem run_forI (i : Nat) (I : Nat → Gm → Ows → Prop) (hi : EvI0 c Γ (.Name x p) iter ds) (hN : c.N[i]? = some x) (hl : locB c.sc x = true) (h0 : I 0 Γ O)
    (hb : ∀ (n : Nat) d Γ' O', ds[n]? = some d → I n Γ' O' → Run c (Γ'.set i (some d)) (drp i O') body { P with nx := I (n + 1), ct := I (n + 1), bk := fun Γ O => Run c Γ O ss P })
    (he : ∀ Γ' O', I ds.length Γ' O' → Run c Γ' O' ss P)
    (hf : ∀ env x, foldedSetIterable iter env x = pure x := by intro _ _; rfl) : Run c Γ O (.For (.Name x p) iter body [] pos :: ss) P := fun X sf Wr tk W0 U D hd σ W g => by
  refine st_for sf g.s i hi hN hl (fun W1 e1 => ⟨fun n σ' W' => ∃ Γ' O', I n Γ' O' ∧ Sto X.K W0 W1.s W' σ' Γ' O', ⟨Γ, O, h0, (g.ex e1).re Ex.refl⟩, fun n σ' W' ⟨_, _, _, h⟩ => h.v, fun n d σ' W' v hn hI hv => ?_, fun σ' W' hI => ?_⟩) hf
  · obtain ⟨Γ', O', hI, g'⟩ := hI
    have uu : Ex U W1.s := g.v.trans e1.s
    have loop : ∀ Γ O σ (W : Wd), I (n + 1) Γ O → Sto X.K W0 W1.s W σ Γ O → ∃ W2 : Wd, W2.h = W.h ∧ ∃ Γ' O', I (n + 1) Γ' O' ∧ Sto X.K W0 W1.s W2 σ Γ' O' := fun Γ O σ W q z => ⟨W, rfl, Γ, O, q, z⟩
    refine hb n d Γ' O' hn hI X sf Wr tk W0 W1.s _ ?_ _ W' (g'.set i hv)
    exact ⟨loop, hd.rt, fun x Γ O C σ W q hC z => hd.er x Γ O C σ W q hC (z.re (uu.trans z.v)), fun Γ O σ W q z => q X sf Wr tk W0 U D hd σ W (z.re (uu.trans z.v)), loop⟩
  · obtain ⟨Γ', O', hI, g'⟩ := hI
    exact he Γ' O' hI X sf Wr tk W0 U D hd σ' W' (g'.re ((g.v.trans e1.s).trans g'.v))
/-- the same, the state after n turns given: G n, Q n, and what is known of n -/
theorem run_for (i : Nat) (G : Nat → Gm) (Q : Nat → Ows) (F : Nat → Prop) (hi : EvI0 c Γ (.Name x p) iter ds) (hN : c.N[i]? = some x) (hl : locB c.sc x = true) (h0 : Sub (G 0) Γ) (hq : Q 0 = O) (hF : F 0)
    (hb : ∀ (n : Nat) d, ds[n]? = some d → F n → Run c ((G n).set i (some d)) (drp i (Q n)) body { P with nx := fun Γ O => Sub (G (n + 1)) Γ ∧ Q (n + 1) = O ∧ F (n + 1), ct := fun Γ O => Sub (G (n + 1)) Γ ∧ Q (n + 1) = O ∧ F (n + 1), bk := fun Γ O => Run c Γ O ss P })
    (he : F ds.length → Run c (G ds.length) (Q ds.length) ss P)
    (hf : ∀ env x, foldedSetIterable iter env x = pure x := by intro _ _; rfl) : Run c Γ O (.For (.Name x p) iter body [] pos :: ss) P := by
  refine run_forI i (fun n Γ O => Sub (G n) Γ ∧ Q n = O ∧ F n) hi hN hl ⟨h0, hq, hF⟩ (fun n d Γ' O' hn hI => ?_) (fun Γ' O' hI => ?_) hf
  · obtain ⟨h1, rfl, h3⟩ := hI
    exact (hb n d hn h3).weak (h1.set i)
  · obtain ⟨h1, rfl, h3⟩ := hI
    exact (he h3).weak h1
/-- while: J the invariant with its measure -/
theorem run_while (J : Nat → Gm → Ows → Prop) (m0 : Nat) (h0 : J m0 Γ O)
    (h : ∀ m Γ' O', J m Γ' O' → ∃ k : Bool, EvXT c Γ' O' e k ∧ (k = true → Run c Γ' O' body { P with nx := fun Γ O => ∃ m2, m2 < m ∧ J m2 Γ O, ct := fun Γ O => ∃ m2, m2 < m ∧ J m2 Γ O, bk := fun Γ O => Run c Γ O ss P }) ∧ (k = false → Run c Γ' O' ss P)) :
    Run c Γ O (.While e body [] pos :: ss) P := fun X sf Wr tk W0 U D hd σ W g => by
  refine ss_cons (wS_of (ps_while sf.own pt_w pss_w) ?_)
  refine ⟨fun m σ H => ∃ (W : Wd) (Γ : Gm) (O : Ows), W.h = H ∧ J m Γ O ∧ Sto X.K W0 U W σ Γ O, ⟨m0, W, Γ, O, rfl, h0, g⟩, ?_⟩
  rintro m σ' H ⟨W', Γ', O', rfl, hJ, g'⟩
  obtain ⟨k, ht, hk1, hk2⟩ := h m Γ' O' hJ
  refine ht X sf.toCf W0 U σ' W' _ g' fun W2 e2 => ?_
  cases k with
  | true =>
    rw [if_pos rfl]
    have loop : ∀ Γ O σ (W : Wd), (∃ m2, m2 < m ∧ J m2 Γ O) → Sto X.K W0 U W σ Γ O → ∃ (m2 : Nat) (W2 : Wd), m2 < m ∧ W2.h = W.h ∧ ∃ (Γ : Gm) (O : Ows), J m2 Γ O ∧ Sto X.K W0 U W2 σ Γ O := fun Γ O σ W ⟨m2, a, b⟩ z => ⟨m2, W, a, rfl, Γ, O, b, z⟩
    refine ⟨fun σ2 H2 => ∃ (m2 : Nat) (W2 : Wd), m2 < m ∧ W2.h = H2 ∧ ∃ (Γ : Gm) (O : Ows), J m2 Γ O ∧ Sto X.K W0 U W2 σ2 Γ O, fun σ2 H2 ⟨m2, W3, a, b, Γ, O, z1, z2⟩ => ⟨m2, a, W3, Γ, O, b, z1, z2⟩, ?_⟩
    refine hk1 rfl X sf Wr tk W0 U _ ?_ _ W2 (g'.ex e2)
    exact ⟨loop, hd.rt, hd.er, fun Γ O σ W q z => q X sf Wr tk W0 U D hd σ W z, loop⟩
  | false =>
    rw [if_neg Bool.false_ne_true]
    exact hk2 rfl X sf Wr tk W0 U D hd _ W2 (g'.ex e2)
theorem run_raise {m : Str} {j : Nat} {C : Addr} (xc : Xc c.toGb x C) (hg : glB c.sc x = true) (h : P.er x Γ O) (hdb : (x == ("__debug__" : Str)) = false := by decide) :
    Run c Γ O (.Raise (some (.Call (.Name x p) [.Constant (.str m) j p2] [] p3)) none pos :: ss) P := fun X sf Wr tk W0 U D hd σ W g => st_raise sf tk xc hg (hd.er _ _ _ C σ W h xc.gC g) hdb
end
end CS

set_option maxRecDepth 100000
set_option maxHeartbeats 4000000
namespace CS
open PySem PySem.Spec PyProof.Rows L2
/-! ### owned lists -/
theorem Wm.own {W W1 : Wd} {q : Addr} {o : HO} (e : Wx W W1) (n : W1.s q = none) : Wm W (W1.own q o n) q :=
  ⟨e.s, fun a u na g => by show upd W1.h q o a = some u; rw [upd_ne na]; exact e.h a u g, fun a u na g m => e.av a u g m⟩
section
variable {c : Cfg} {Γ Γ' : Gm} {O O' : Ows} {e a b tg iter ie : Expr} {d da db dc : PyData} {es : List Expr} {ds xs : List PyData} {pos p p2 p3 px py pt pt2 : Pos} {x y : Str} {st : Stmt} {ss body orelse : List Stmt} {P : Po} {k : Bool} {kt k2 : Nat}
/-- x = e, e a new list: x owns it -/
theorem run_own (i : Nat) (he : EvL c Γ e ds) (hi : immA ds = true) (hN : c.N[i]? = some x) (hl : locB c.sc x = true) (h : Run c (Γ.set i none) ((i, .lst ds) :: drp i O) ss P) (hG : i < Γ.length)
    (hw : ∀ env, swapsWith e (some (.Name x p)) pos.line env = pure false := by intro _; rfl) : Run c Γ O (.Assign [.Name x p] e pos :: ss) P := fun X sf Wr tk W0 U D hd σ W g => by
  refine ss_cons (wS_of (ps_set (i := i) sf.nd (by rw [sf.N]; exact hN) (by rw [sf.sc]; exact loc_of hl) pe_w (hw _) (.inl (sf.fn _))) ?_)
  refine he X sf.toCf σ W _ g.s fun q vs W1 e1 nq hq hds => ?_
  obtain ⟨qs, t⟩ := g.o
  have nqs : q ∉ qs := fun z => by obtain ⟨_, _, u, hu⟩ := t.off q z; rw [nq] at hu; cases hu
  have xw : Wx W (W1.hide q) := by
    refine ⟨fun a u g => ?_, fun a u g => e1.h a u g, fun a u g m => ?_⟩
    · have na : a ≠ q := fun z => by rw [z, W.free nq] at g; cases g
      show (if a = q then none else W1.s a) = some u
      rw [if_neg na]
      exact e1.s a u g
    · show (if a = q then none else W1.s a) = none
      by_cases na : a = q
      · rw [if_pos na]
      · rw [if_neg na]; exact e1.av a u g m
  have tx : Tx W1.s (W1.hide q).s := by
    rintro a ys ⟨o, ho, r⟩
    have na : a ≠ q := fun z => by
      subst z
      rw [hq] at r; cases r
    exact ⟨o, ho, by show (if a = q then none else W1.s a) = _; rw [if_neg na]; exact r⟩
  have g2 := (g.ex xw).setAny (v := some (.ref q)) i
  obtain ⟨qs2, t2⟩ := g2.o
  obtain ⟨qs3, t3, hsub⟩ := (t.ex xw).set (v := some (.ref q)) i
  have hlen : i < σ.length := by rw [g.s.len]; exact hG
  exact h X sf Wr tk W0 U D hd _ (W1.hide q) ⟨g2.x, g2.v, g2.s, q :: qs3, .cons (List.getElem?_set_self hlen) (g.x.h.back nq) ⟨if_pos rfl, vs, W1.sub _ _ hq, dpa_tx tx hi hds⟩ (fun z => nqs (hsub q z)) t3⟩
/-- x.append(e) -/
theorem run_app (i : Nat) (g0 : getO i O = some (.lst ds)) (he : EvX c Γ O e d) (hN : c.N[i]? = some x) (hv : visB c.sc x = true) (hl : ds.length < 100000) (h : Run c Γ (putO i (.lst (ds ++ [d])) O) ss P)
    (hline : (p2.endLine == p3.line) = true := by rfl) (hsE : ∀ env, starEach [e] env = [(false, eval e env)] := by intro _; rfl) (hw : ∀ env, swapsWith (.Call (.Attribute (.Name x p) "append" p2) [e] [] p3) none pos.line env = pure false := by intro _; rfl)
    (hb : ∀ env, attributeBase (.Name x p) "append" env (eval (.Name x p) env) = eval (.Name x p) env := by intro _; rfl) (hdb : (x == ("__debug__" : Str)) = false := by decide) (hcd : (x == ("__classdict__" : Str)) = false := by decide)
    (hfew : ∀ env, ((backTo p3 (starEach [e] env)).all (fun x => !x.1) && (backToKw p3 (keywordEach [] env)).all (fun x => x.1.isSome) && decide ([e].length + ([] : List Keyword).length + (if ([] : List Keyword).isEmpty then 0 else 1) < 30)) = true := by intro _; rfl) :
    Run c Γ O (.Expr (.Call (.Attribute (.Name x p) "append" p2) [e] [] p3) pos :: ss) P := fun X sf Wr tk W0 U D hd σ W g => by
  refine ss_cons (wS_of (ps_expr (pe_bm PySem.F.plainAttrs_list PySem.F.slot_list_append PySem.F.type_list_append mt_append (pe_var (i := i) (by rw [sf.N]; exact hN) (by rw [sf.sc]; exact vis_of hv) hdb hcd) (pa_cons pe_w pa_nil (hsE _)) (hb _) (hfew _) hline (hsE _) rfl) (hw _)) ?_)
  obtain ⟨qs, t⟩ := g.o
  obtain ⟨q, k1, k2, k3, k4, k5, _⟩ := t.get g0
  obtain ⟨vs, h1, h2⟩ := OwL.at_ k3
  refine ⟨_, k1, .inl ⟨rfl, _, SqL.of h1⟩, ?_⟩
  refine he X sf.toCf W0 U σ W _ g fun v W1 e1 r1 => ?_
  have n1 : W1.s q = none := e1.av _ _ h1 (OwL.n k3)
  refine ⟨q, vs, v, rfl, rfl, e1.h _ _ h1, ?_, ?_⟩
  · rw [dpa_len h2]
    exact Nat.lt_of_lt_of_le hl (by decide)
  · exact h X sf Wr tk W0 U D hd σ (W1.own q (.lst (vs ++ [v])) n1) ⟨(g.x.trans e1).own k2, g.v.trans e1.s, g.s.ex e1.s, qs, k5 _ _ (Wm.own e1 n1) ⟨n1, _, upd_same, dpa_app (dpa_ex e1.s h2) (.cons r1 .nil)⟩⟩
/-- x.extend(e), e a new list -/
theorem run_ext (i : Nat) (g0 : getO i O = some (.lst ds)) (he : EvL c Γ e xs) (hN : c.N[i]? = some x) (hv : visB c.sc x = true) (hl : ds.length + xs.length ≤ 100000) (h : Run c Γ (putO i (.lst (ds ++ xs)) O) ss P)
    (hline : (p2.endLine == p3.line) = true := by rfl) (hsE : ∀ env, starEach [e] env = [(false, eval e env)] := by intro _; rfl) (hw : ∀ env, swapsWith (.Call (.Attribute (.Name x p) "extend" p2) [e] [] p3) none pos.line env = pure false := by intro _; rfl)
    (hb : ∀ env, attributeBase (.Name x p) "extend" env (eval (.Name x p) env) = eval (.Name x p) env := by intro _; rfl) (hdb : (x == ("__debug__" : Str)) = false := by decide) (hcd : (x == ("__classdict__" : Str)) = false := by decide)
    (hfew : ∀ env, ((backTo p3 (starEach [e] env)).all (fun x => !x.1) && (backToKw p3 (keywordEach [] env)).all (fun x => x.1.isSome) && decide ([e].length + ([] : List Keyword).length + (if ([] : List Keyword).isEmpty then 0 else 1) < 30)) = true := by intro _; rfl) :
    Run c Γ O (.Expr (.Call (.Attribute (.Name x p) "extend" p2) [e] [] p3) pos :: ss) P := fun X sf Wr tk W0 U D hd σ W g => by
  refine ss_cons (wS_of (ps_expr (pe_bm PySem.F.plainAttrs_list PySem.F.slot_list_extend PySem.F.type_list_extend mt_extend (pe_var (i := i) (by rw [sf.N]; exact hN) (by rw [sf.sc]; exact vis_of hv) hdb hcd) (pa_cons pe_w pa_nil (hsE _)) (hb _) (hfew _) hline (hsE _) rfl) (hw _)) ?_)
  obtain ⟨qs, t⟩ := g.o
  obtain ⟨q, k1, k2, k3, k4, k5, _⟩ := t.get g0
  obtain ⟨vs, h1, h2⟩ := OwL.at_ k3
  refine ⟨_, k1, .inl ⟨rfl, _, SqL.of h1⟩, ?_⟩
  refine he X sf.toCf σ W _ g.s fun b zs W1 e1 nb hb r1 => ?_
  have n1 : W1.s q = none := e1.av _ _ h1 (OwL.n k3)
  refine ⟨q, b, vs, zs, rfl, rfl, e1.h _ _ h1, W1.sub _ _ hb, ?_, ?_⟩
  · rw [dpa_len h2, dpa_len r1]
    exact Nat.le_trans hl (by decide)
  · exact h X sf Wr tk W0 U D hd σ (W1.own q (.lst (vs ++ zs)) n1) ⟨(g.x.trans e1).own k2, g.v.trans e1.s, g.s.ex e1.s, qs, k5 _ _ (Wm.own e1 n1) ⟨n1, _, upd_same, dpa_app (dpa_ex e1.s h2) r1⟩⟩
/-- x[ie] = e, put into an owned list -/
theorem run_setIx {k : Int} {j : Nat} (i : Nat) (g0 : getO i O = some (.lst ds)) (he : EvX c Γ O e d) (hie : EvX c Γ O ie (.int k)) (hj : ixN ds.length k = some j) (hN : c.N[i]? = some x) (hv : visB c.sc x = true) (h : Run c Γ (putO i (.lst (ds.set j d)) O) ss P)
    (hw : ∀ env, swapsWithSole [.Subscript (.Name x p) ie p2] e pos.line env = pure false := by intro _; rfl) (hw2 : ∀ env, swappedStores [.Subscript (.Name x p) ie p2] e env = pure none := by intro _; rfl)
    (ha : ∀ env v, assign (.Subscript (.Name x p) ie p2) env v = (do let o ← holding [v] (eval (.Name x p) env); let j ← holding [v, o] (eval ie env); standAt p2; holding [v, o, j] (setItem o j v); release [v, o, j] []) := by intro _ _; rfl)
    (hp : ∀ env, (assignEach [.Subscript (.Name x p) ie p2] env).map (·.2) = [assign (.Subscript (.Name x p) ie p2) env] := by intro _; rfl)
    (hdb : (x == ("__debug__" : Str)) = false := by decide) (hcd : (x == ("__classdict__" : Str)) = false := by decide) : Run c Γ O (.Assign [.Subscript (.Name x p) ie p2] e pos :: ss) P := fun X sf Wr tk W0 U D hd σ W g => by
  refine ss_cons (wS_of (ps_asg pe_w (pg_sub (pe_var (i := i) (by rw [sf.N]; exact hN) (by rw [sf.sc]; exact vis_of hv) hdb hcd) pe_w set_list (ha _)) (hw _) (hw2 _) (hp _)) ?_)
  refine he X sf.toCf W0 U σ W _ g fun v W1 e1 r1 => ?_
  have g1 := g.ex e1
  obtain ⟨_, t1⟩ := g1.o
  obtain ⟨q1, kk1, _⟩ := t1.get g0
  refine ⟨_, kk1, ?_⟩
  refine hie X sf.toCf W0 U σ W1 _ g1 fun u W2 e2 r2 => ?_
  cases dp_int_inv r2
  have g2 := g1.ex e2
  obtain ⟨qs, t⟩ := g2.o
  obtain ⟨q, k1, k2, k3, k4, k5, _⟩ := t.get g0
  have eq : q1 = q := by
    have := kk1.symm.trans k1
    cases this
    rfl
  subst eq
  obtain ⟨vs, h1, h2⟩ := OwL.at_ k3
  refine ⟨q1, vs, k, j, rfl, rfl, h1, by rw [dpa_len h2]; exact hj, ?_⟩
  have n1 : W2.s q1 = none := OwL.n k3
  exact h X sf Wr tk W0 U D hd σ (W2.own q1 (.lst (vs.set j v)) n1) ⟨g2.x.own k2, g2.v, g2.s, qs, k5 _ _ (Wm.own Wx.refl n1) ⟨n1, _, upd_same, dpa_set j h2 (dp_ex e2.s r1)⟩⟩
/-- x, y = a, b -/
theorem run_par (i j : Nat) (ha : Ev c Γ a da) (hb : Ev c Γ b db) (hi : c.N[i]? = some x) (hj : c.N[j]? = some y) (hij : i ≠ j) (hx : c.sc.names.lookup x = some .local) (hy : c.sc.names.lookup y = some .local) (hk : c.sc.kind = .function)
    (h : Run c ((Γ.set i (some da)).set j (some db)) (drp j (drp i O)) ss P)
    (hxy : ([x, y].eraseDups.length != 2) = false := by decide) (hl : (py.line == px.line) = true := by decide) (h1 : ([a, b].all (foldedForSure 8)) = false := by rfl) (h2 : ([a, b].all (constantsAlone 8)) = false := by rfl) (h3 : ([a, b].any fun | .Starred .. => true | _ => false) = false := by rfl)
    (hsE : ∀ env, starEach [a, b] env = (false, eval a env) :: starEach [b] env := by intro _; rfl) (hsE2 : ∀ env, starEach [b] env = [(false, eval b env)] := by intro _; rfl)
    (hsw : ∀ env, swapsWithSole [.Tuple [.Name x px, .Name y py] kt pt] (.Tuple [a, b] k2 pt2) pos.line env = pure false := by intro _; rfl) : Run c Γ O (.Assign [.Tuple [.Name x px, .Name y py] kt pt] (.Tuple [a, b] k2 pt2) pos :: ss) P := fun X sf Wr tk W0 U D hd σ W g => by
  refine ss_cons (wS_of (ps_par (i := i) (j := j) sf.calm sf.nd (by rw [sf.N]; exact hi) (by rw [sf.N]; exact hj) hij (by rw [sf.sc]; exact hx) (by rw [sf.sc]; exact hy) pa_w (sw_par sf.sc hk hx hy hxy hl h1 h2 h3) (hsw _)) ?_)
  refine ea_cons ha (ea_cons hb ea_nil hsE2) hsE X sf.toCf σ W _ g.s fun vs W1 e1 r1 => ?_
  obtain ⟨v, w, rfl, d1, d2⟩ := dpa2 r1
  exact ⟨v, w, rfl, h X sf Wr tk W0 U D hd _ W1 (((g.ex e1).set i d1).set j d2)⟩
/-- .. where y is a cell -/
theorem run_par2 (i j : Nat) (ha : Ev c Γ a da) (hb : Ev c Γ b db) (hi : c.N[i]? = some x) (hj : c.N[j]? = some y) (hx : c.sc.names.lookup x = some .local) (hy : locB c.sc y = true) (hn : c.sc.names.lookup y ≠ some .local) (hk : c.sc.kind = .function)
    (h : Run c ((Γ.set i (some da)).set j (some db)) (drp j (drp i O)) ss P)
    (h3 : ([a, b].any fun | .Starred .. => true | _ => false) = false := by rfl)
    (hsE : ∀ env, starEach [a, b] env = (false, eval a env) :: starEach [b] env := by intro _; rfl) (hsE2 : ∀ env, starEach [b] env = [(false, eval b env)] := by intro _; rfl)
    (hp : ∀ env, (assignEach [.Tuple [.Name x px, .Name y py] kt pt] env).map (·.2) = [assign (.Tuple [.Name x px, .Name y py] kt pt) env] := by intro _; rfl)
    (hsw : ∀ env, swapsWithSole [.Tuple [.Name x px, .Name y py] kt pt] (.Tuple [a, b] k2 pt2) pos.line env = pure false := by intro _; rfl) : Run c Γ O (.Assign [.Tuple [.Name x px, .Name y py] kt pt] (.Tuple [a, b] k2 pt2) pos :: ss) P := fun X sf Wr tk W0 U D hd σ W g =>
  st_par2 sf g.s i j ha hb hi hj hx hy hn hk (fun v w W1 e1 s1 => by
    have g1 := ((g.ex e1).setAny (v := some v) i).setAny (v := some w) j
    exact h X sf Wr tk W0 U D hd _ W1 ⟨g1.x, g1.v, s1, g1.o⟩) h3 hsE hsE2 hp hsw
end
/-! ### defs -/
theorem takesF {X : Cx} : Takes X (fun _ _ _ _ => False) := fun u s' h => by
  obtain ⟨a, B, sI, pins, σ, H, cls, d, _, _, _, _, _, _, _, _, w⟩ := h
  exact w.elim
theorem fnc_run {g : Gb} {x : Str} {st : Stmt} {N ps : List Str} {k : Nat} {R : List PyData → PyData → Prop} (DF : DefOk g x st) (S : FnScope N ps (defScope st)) (hb : BindOk x st ps)
    (len : ∀ ds d, R ds d → ds.length = ps.length)
    (body : ∀ ds d, R ds d → Run ⟨g, N, defScope st, k⟩ (ds.map some ++ List.replicate (N.length - ds.length) none) [] (defBody st) { rt := fun d' => d' = d, nx := fun _ _ => d = .none }) : Fnc g x (k + 1) R :=
  fnc_of DF S hb len fun X sf ds d σ W Q hR hs q => body ds d hR X sf _ takesF W (fun _ => none) _ ⟨fun Γ O σ' W' (h : d = .none) g' => q _ W' g'.x (h ▸ .non), fun d' v W' h x r => q v W' x (h ▸ r), fun _ _ _ _ _ _ h => h.elim, fun _ _ _ _ h => h.elim, fun _ _ _ _ h => h.elim⟩ σ W ⟨Wx.refl, fun a o h => (by cases h), hs, [], .nil⟩
theorem fnx_run {g : Gb} {x : Str} {st : Stmt} {N ps : List Str} {k : Nat} {R : List PyData → Oc → Prop} (DF : DefOk g x st) (S : FnScope N ps (defScope st)) (hb : BindOk x st ps)
    (len : ∀ ds d, R ds d → ds.length = ps.length)
    (body : ∀ ds o, R ds o → Run ⟨g, N, defScope st, k⟩ (ds.map some ++ List.replicate (N.length - ds.length) none) [] (defBody st) { rt := fun d' => o = .ok d', nx := fun _ _ => o = .ok .none, er := fun x _ _ => o = .er x }) : Fnx g x (k + 1) R :=
  fnx_of DF S hb len fun X sf E tk ds o σ W Q hR hs q => body ds o hR X sf _ tk W (fun _ => none) _ ⟨fun Γ O σ' W' h g' => by
      have h : o = .ok .none := h
      subst h
      exact q _ W' g'.x .non, fun d' v W' h x r => by
      have h : o = .ok d' := h
      subst h
      exact q v W' x (by rw [← sf.K]; exact r), fun x Γ O C σ' W' h hC g' => by
      have h : o = .er x := h
      subst h
      exact q C W' hC g'.x, fun _ _ _ _ h => h.elim, fun _ _ _ _ h => h.elim⟩ σ W ⟨Wx.refl, fun a o h => (by cases h), hs, [], .nil⟩
theorem law_run {g : Gb} {st : Stmt} {N : List Str} {k : Nat} (S : FnScope N ["script"] (defScope st))
    (body : ∀ ns : List Int, ns.length ≤ 63 → Run ⟨g, N, defScope st, k⟩ (some (pL ns) :: List.replicate (N.length - 1) none) [] (defBody st) { rt := fun d => d = .bool true }) : LawOk g st (k + 1) :=
  law_of S fun X sf ns σ W Q hl hs q => body ns hl X sf _ takesF W (fun _ => none) _ ⟨fun _ _ _ _ h => h.elim, fun d' v W' h x r => q v W' x (by have h : d' = .bool true := h; subst h; exact r), fun _ _ _ _ _ _ h => h.elim, fun _ _ _ _ h => h.elim, fun _ _ _ _ h => h.elim⟩ σ W ⟨Wx.refl, fun a o h => (by cases h), hs, [], .nil⟩
/-! ### try: except x as n: return s1 if isinstance(n, ClockError) and not isinstance(n, y) else s2 -/
section
variable {c : Cfg} {Γ : Gm} {O : Ows} {ss body : List Stmt} {P : Po} {cs : List Str}
/-- one clause: the class x, the class y that it is not, the string -/
structure Hc where
  x : Str
  y : Str
  s : Str
inductive HdStr (c : Cfg) (cs : List Str) (n : Str) : List ExceptHandler → List Hc → Prop
  | nil : HdStr c cs n [] []
  | cons {x y s1 s2 : Str} {np ps q1 q2 q3 q4 q5 q6 q7 q8 q9 q10 q11 q12 q13 q14 : Pos} {j1 j2 : Nat} {hds : List ExceptHandler} {l : List Hc} (hx : x ∈ cs) (hgx : glB c.sc x = true) (hdx : (x == ("__debug__" : Str)) = false) (hy : y ∈ cs) (hgy : glB c.sc y = true) (hyd : (y == ("__debug__" : Str)) = false) (r : HdStr c cs n hds l) :
    HdStr c cs n (.ExceptHandler (some (.Name x np)) (some n) [.Return (some (.IfExp (.BoolOp .And [.Call (.Name "isinstance" q1) [.Name n q2, .Name "ClockError" q3] [] q4, .UnaryOp .Not (.Call (.Name "isinstance" q5) [.Name n q6, .Name y q7] [] q8) q9] q10) (.Constant (.str s1) j1 q11) (.Constant (.str s2) j2 q12) q13)) q14] ps :: hds) (⟨x, y, s1⟩ :: l)
/-- which string an exception x gives -/
def hcs (x : Str) : List Hc → Option Str
  | [] => none
  | h :: r => if subC x h.x = true then (if subC x h.y = true then none else some h.s) else hcs x r
theorem run_try {n : Str} {i : Nat} {h0 : ExceptHandler} {hds : List ExceptHandler} {l : List Hc} {pos : Pos} (kx : Kx c.toGb cs) (hcl : ∀ x ∈ cs, ∃ C, c.mg x = some (.ref C)) (hck : ("ClockError" : Str) ∈ cs) (hh : HdStr c cs n (h0 :: hds) l) (hN : c.N[i]? = some n) (hl : c.sc.names.lookup n = some .local) (hv : visB c.sc n = true) (hGl : i < Γ.length)
    (hm : c.mg "isinstance" = none) (hg : glB c.sc "isinstance" = true) (hgc : glB c.sc "ClockError" = true)
    (h : Run c Γ O body { P with nx := fun Γ O => Run c Γ O ss P, er := fun x Γ' _ => x ∈ cs ∧ i < Γ'.length ∧ ∃ s, hcs x l = some s ∧ P.rt (.str s) })
    (hnd : (n == ("__debug__" : Str)) = false := by decide) (hncd : (n == ("__classdict__" : Str)) = false := by decide) : Run c Γ O (.Try body (h0 :: hds) [] [] pos :: ss) P := fun X sf Wr tk W0 U D hd σ W g => by
  obtain ⟨Cb, hCb⟩ := hcl _ hck
  have mk : ∀ {hs : List ExceptHandler} {l : List Hc}, HdStr c cs n hs l → ∃ L : List (Value × Ts), HdAs X n hs L ∧ ∀ (D : Ends) x C s (τ : St) G, x ∈ cs → c.mg x = some (.ref C) → hcs x l = some s → i < τ.length → D.rt (.str s) G → wTry X.K i Wr D L (.ref C) none τ G := by
    intro hs l hh
    induction hh with
    | nil => exact ⟨[], .nil, fun D x C s τ G _ _ h => by cases h⟩
    | @cons x y s1 s2 np ps q1 q2 q3 q4 q5 q6 q7 q8 q9 q10 q11 q12 q13 q14 j1 j2 hds l hx hgx hdx hy hgy hyd r ih =>
      obtain ⟨L, hL, hw⟩ := ih
      obtain ⟨C, hC⟩ := hcl _ hx
      obtain ⟨Cy, hCy⟩ := hcl _ hy
      refine ⟨(.ref C, suStr c.toGb cs i y s1) :: L, .cons (names_of sf hC hgx hdx) (fun a oe cl dd pn hz hf => su_str sf kx hck hN hv hm hg hgc hgy ⟨Cb, hCb⟩ ⟨Cy, hCy⟩ hz hf hnd hncd hyd) hL, fun D x' C' s τ G hx' hC' hs hτ hr => ?_⟩
      refine ⟨subC x' x, by rw [sf.K]; exact kx.exm _ hx' _ hx C' C hC' hC, fun hb a na => ?_, fun hb => ?_⟩
      · unfold hcs at hs
        rw [if_pos hb] at hs
        by_cases hb2 : subC x' y = true
        · rw [if_pos hb2] at hs; cases hs
        · rw [if_neg hb2] at hs
          cases hs
          exact ⟨x', C', hx', hC', rfl, rfl, hy, by simpa using hb2, List.getElem?_set_self hτ, hr⟩
      · unfold hcs at hs
        rw [if_neg (by rw [hb]; decide)] at hs
        exact hw D x' C' s τ G hx' hC' hs hτ hr
  obtain ⟨L, hL, hw⟩ := mk hh
  refine st_try (i := i) sf tk hL hN hl fun X' sf' eK tk' => ?_
  refine h X' sf' _ tk' W0 U _ ?_ σ W (by rw [eK]; exact g)
  exact ⟨fun Γ O σ W q z => q X sf Wr tk W0 U D hd σ W (by rw [← eK]; exact z), fun d v W q z r => hd.rt d v W q z (by rw [← eK]; exact r), fun x Γ O C σ W q hC z => by
    obtain ⟨hx, hi, s, hs, hP⟩ := q
    exact hw _ x C s σ W.h hx hC hs (by rw [z.s.len]; exact hi) (hd.rt _ _ W hP z.x (.str s)), fun Γ O σ W q z => hd.bk Γ O σ W q (by rw [← eK]; exact z), fun Γ O σ W q z => hd.ct Γ O σ W q (by rw [← eK]; exact z)⟩
end
end CS

set_option maxRecDepth 100000
set_option maxHeartbeats 4000000
namespace CS
open PySem PySem.Spec PyProof.Rows L2
section
variable {c : Cfg} {Γ : Gm} {O : Ows} {e a b tg iter elt : Expr} {d da db dc : PyData} {es ifs : List Expr} {ds : List PyData} {pos p p2 tp : Pos} {x : Str} {scope : Scope} {ss : List Stmt} {P : Po}
/-! ### ranges -/
theorem ei_rng1 {n : Int} (ha : Ev c Γ a (.int n)) (hm : c.mg "range" = none) (hg : glB c.sc "range" = true) (h1 : -(2 ^ 62) ≤ n) (h2 : n < 2 ^ 62) (hs : ∀ env, starEach [a] env = [(false, eval a env)] := by intro _; rfl) : EvI0 c Γ tg (.Call (.Name "range" p) [a] [] pos) (iL (rng 0 n)) := by
  have := ei_range1 (tg := tg) (p := p) (pos := pos) ha hm hg h1 h2 hs
  unfold rng
  rw [show (n - 0).toNat = n.toNat by omega]
  exact this
theorem ei_rng2 {lo hi : Int} (ha : Ev c Γ a (.int lo)) (hb : Ev c Γ b (.int hi)) (hm : c.mg "range" = none) (hg : glB c.sc "range" = true) (h1 : -(2 ^ 62) ≤ lo) (h2 : lo < 2 ^ 62) (h3 : -(2 ^ 62) ≤ hi) (h4 : hi < 2 ^ 62)
    (hs : ∀ env, starEach [a, b] env = [(false, eval a env), (false, eval b env)] := by intro _; rfl) (hs2 : ∀ env, starEach [b] env = [(false, eval b env)] := by intro _; rfl) : EvI0 c Γ tg (.Call (.Name "range" p) [a, b] [] pos) (iL (rng lo hi)) := ei_range2 ha hb hm hg h1 h2 h3 h4 hs hs2
theorem EvI0.cast (h : EvI0 c Γ tg iter ds) {ds' : List PyData} (q : ds = ds') : EvI0 c Γ tg iter ds' := q ▸ h
theorem EvI.cast (h : EvI c Γ tg iter ds) {ds' : List PyData} (q : ds = ds') : EvI c Γ tg iter ds' := q ▸ h
theorem rng_get {lo hi : Int} {i : Nat} {z : Int} (h : (rng lo hi)[i]? = some z) : z = lo + i ∧ z < hi ∧ lo ≤ z := by
  obtain ⟨h1, rfl⟩ := rgD_get h
  omega
/-! ### comprehensions over encoded items -/
theorem el_lcE {α : Type} (i : Nat) (hN : c.N[i]? = some x) {enc : α → PyData} (dec : PyData → α) (hdec : ∀ z, dec (enc z) = z) {l : List α} {q : α → Bool} {f : α → PyData} (hi : EvI c Γ (.Name x tp) iter (l.map enc)) (hl : l.length ≤ 100000) (hb : blkC c.N c.sc scope [(x, i)] = true) (ho : ownB scope x = true)
    (ht : ∀ z ∈ l, EvTs (c.blk scope) ((Γ.set i none).set i (some (enc z))) ifs (q z)) (he : ∀ z ∈ l, q z = true → Ev (c.blk scope) ((Γ.set i none).set i (some (enc z))) elt (f z))
    (hs : ∀ env x, foldedSetIterable iter env x = pure x := by intro _ _; rfl) : EvL c Γ (.ListComp elt [⟨.Name x tp, iter, ifs, 0⟩] scope pos) ((l.filter q).map f) := by
  have key := el_lc (own := [(x, i)]) (P := q ∘ dec) (f := f ∘ dec) (bind := fun d => (Γ.set i none).set i (some d)) (pos := pos) (scope := scope) (ifs := ifs) (elt := elt) hi (by rw [List.length_map]; exact hl) hb (fun d hd => tgB i hN (List.mem_singleton.mpr rfl) ho) (fun d hd => by
    obtain ⟨z, hz, rfl⟩ := List.mem_map.mp hd
    show EvTs _ _ _ (q (dec (enc z)))
    rw [hdec]
    exact ht z hz) (fun d hd hq => by
    obtain ⟨z, hz, rfl⟩ := List.mem_map.mp hd
    have hq : q (dec (enc z)) = true := hq
    show Ev _ _ _ (f (dec (enc z)))
    rw [hdec] at hq ⊢
    exact he z hz hq) hs
  refine key.cast ?_
  rw [List.filter_map, List.map_map]
  have e1 : (q ∘ dec) ∘ enc = q := by funext z; show q (dec (enc z)) = q z; rw [hdec]
  have e2 : (f ∘ dec) ∘ enc = f := by funext z; show f (dec (enc z)) = f z; rw [hdec]
  rw [e1, e2]
theorem el_lcI (i : Nat) (hN : c.N[i]? = some x) {l : List Int} {q : Int → Bool} {f : Int → PyData} (hi : EvI0 c Γ (.Name x tp) iter (iL l)) (hl : l.length ≤ 100000) (hb : blkC c.N c.sc scope [(x, i)] = true) (ho : ownB scope x = true)
    (ht : ∀ z ∈ l, EvTs (c.blk scope) ((Γ.set i none).set i (some (.int z))) ifs (q z)) (he : ∀ z ∈ l, q z = true → Ev (c.blk scope) ((Γ.set i none).set i (some (.int z))) elt (f z))
    (hs : ∀ env x, foldedSetIterable iter env x = pure x := by intro _ _; rfl) : EvL c Γ (.ListComp elt [⟨.Name x tp, iter, ifs, 0⟩] scope pos) ((l.filter q).map f) := el_lcE i hN unI (fun _ => rfl) hi.i hl hb ho ht he hs
theorem el_lcI0 (i : Nat) (hN : c.N[i]? = some x) {l : List Int} {f : Int → PyData} (hi : EvI0 c Γ (.Name x tp) iter (iL l)) (hl : l.length ≤ 100000) (hb : blkC c.N c.sc scope [(x, i)] = true) (ho : ownB scope x = true)
    (he : ∀ z ∈ l, Ev (c.blk scope) ((Γ.set i none).set i (some (.int z))) elt (f z))
    (hs : ∀ env x, foldedSetIterable iter env x = pure x := by intro _ _; rfl) : EvL c Γ (.ListComp elt [⟨.Name x tp, iter, [], 0⟩] scope pos) (l.map f) := (el_lcI i hN (q := fun _ => true) hi hl hb ho (fun _ _ => ets_nil) (fun z hz _ => he z hz) hs).cast (by rw [filter_yes])
theorem el_lcT (i : Nat) (hN : c.N[i]? = some x) {l : List (List Int)} {q : List Int → Bool} {f : List Int → PyData} (hi : EvI0 c Γ (.Name x tp) iter (l.map pT)) (hl : l.length ≤ 100000) (hb : blkC c.N c.sc scope [(x, i)] = true) (ho : ownB scope x = true)
    (ht : ∀ z ∈ l, EvTs (c.blk scope) ((Γ.set i none).set i (some (pT z))) ifs (q z)) (he : ∀ z ∈ l, q z = true → Ev (c.blk scope) ((Γ.set i none).set i (some (pT z))) elt (f z))
    (hs : ∀ env x, foldedSetIterable iter env x = pure x := by intro _ _; rfl) : EvL c Γ (.ListComp elt [⟨.Name x tp, iter, ifs, 0⟩] scope pos) ((l.filter q).map f) := el_lcE i hN unT unT_pT hi.i hl hb ho ht he hs
theorem el_lcT0 (i : Nat) (hN : c.N[i]? = some x) {l : List (List Int)} {f : List Int → PyData} (hi : EvI0 c Γ (.Name x tp) iter (l.map pT)) (hl : l.length ≤ 100000) (hb : blkC c.N c.sc scope [(x, i)] = true) (ho : ownB scope x = true)
    (he : ∀ z ∈ l, Ev (c.blk scope) ((Γ.set i none).set i (some (pT z))) elt (f z))
    (hs : ∀ env x, foldedSetIterable iter env x = pure x := by intro _ _; rfl) : EvL c Γ (.ListComp elt [⟨.Name x tp, iter, [], 0⟩] scope pos) (l.map f) := (el_lcT i hN (q := fun _ => true) hi hl hb ho (fun _ _ => ets_nil) (fun z hz _ => he z hz) hs).cast (by rw [filter_yes])
/-- items as they are -/
theorem el_lcD (i : Nat) (hN : c.N[i]? = some x) {q : PyData → Bool} {f : PyData → PyData} (hi : EvI0 c Γ (.Name x tp) iter ds) (hl : ds.length ≤ 100000) (hb : blkC c.N c.sc scope [(x, i)] = true) (ho : ownB scope x = true)
    (ht : ∀ z ∈ ds, EvTs (c.blk scope) ((Γ.set i none).set i (some z)) ifs (q z)) (he : ∀ z ∈ ds, q z = true → Ev (c.blk scope) ((Γ.set i none).set i (some z)) elt (f z))
    (hs : ∀ env x, foldedSetIterable iter env x = pure x := by intro _ _; rfl) : EvL c Γ (.ListComp elt [⟨.Name x tp, iter, ifs, 0⟩] scope pos) ((ds.filter q).map f) := el_lcE (enc := id) i hN id (fun _ => rfl) (by rw [List.map_id]; exact hi.i) hl hb ho ht he hs
/-- the result as ints -/
theorem EvL.ints {l : List Int} {f : Int → PyData} {g : Int → Int} (h : EvL c Γ e (l.map f)) (q : ∀ z ∈ l, f z = .int (g z)) : EvL c Γ e (iL (l.map g)) := h.cast (by unfold iL; rw [List.map_map]; exact List.map_congr_left q)
theorem EvL.self {l : List Int} {f : Int → PyData} (h : EvL c Γ e (l.map f)) (q : ∀ z ∈ l, f z = .int z) : EvL c Γ e (iL l) := h.cast (List.map_congr_left q)
theorem EvL.selfT {l : List (List Int)} {f : List Int → PyData} (h : EvL c Γ e (l.map f)) (q : ∀ z ∈ l, f z = pT z) : EvL c Γ e (l.map pT) := h.cast (List.map_congr_left q)
/-- x = [..], the swapped store -/
theorem run_setLc {own : List (Str × Nat)} {Pq : PyData → Bool} {f : PyData → PyData} {bind : PyData → Gm} {spos : Pos} (i : Nat) (hN : c.N[i]? = some x) (hlo : c.sc.names.lookup x = some .local) (hk : c.sc.kind = .function)
    (hsc : (scope.names.any fun (n, k) => n == x && (k == .local || k == .cell)) = false) (hi : EvI c Γ tg iter ds) (hl : ds.length ≤ 100000) (hb : blkC c.N c.sc scope own = true)
    (hg : ∀ d ∈ ds, TgOk (c.blk scope) scope tg (own.map (·.2)) (wipeG Γ (own.map (·.2))) d (bind d))
    (ht : ∀ d ∈ ds, EvTs (c.blk scope) (bind d) ifs (Pq d)) (he : ∀ d ∈ ds, Pq d = true → Ev (c.blk scope) (bind d) elt (f d))
    (h : Run c (Γ.set i (some (.list ((ds.filter Pq).map f)))) (drp i O) ss P)
    (hln : (p.line == pos.line) = true := by rfl) (hsI : ∀ env x, foldedSetIterable iter env x = pure x := by intro _ _; rfl) : Run c Γ O (.Assign [.Name x p] (.ListComp elt [⟨tg, iter, ifs, 0⟩] scope pos) spos :: ss) P := fun X sf Wr tk W0 U D hd σ W g =>
  st_setLc sf g.s i hN hlo hk hsc hi hl hb hg ht he (fun v W1 e1 r1 s1 => h X sf Wr tk W0 U D hd _ W1 (by
    have := (g.ex e1).set i r1
    exact this)) hln hsI
theorem run_lcE {α : Type} {y : Str} {spos : Pos} (j i : Nat) (hj : c.N[j]? = some y) (hlo : c.sc.names.lookup y = some .local) (hk : c.sc.kind = .function) (hsc : (scope.names.any fun (n, k) => n == y && (k == .local || k == .cell)) = false) (hN : c.N[i]? = some x) {enc : α → PyData} (dec : PyData → α) (hdec : ∀ z, dec (enc z) = z) {l : List α} {q : α → Bool} {f : α → PyData} (hi : EvI c Γ (.Name x tp) iter (l.map enc)) (hl : l.length ≤ 100000) (hb : blkC c.N c.sc scope [(x, i)] = true) (ho : ownB scope x = true)
    (ht : ∀ z ∈ l, EvTs (c.blk scope) ((Γ.set i none).set i (some (enc z))) ifs (q z)) (he : ∀ z ∈ l, q z = true → Ev (c.blk scope) ((Γ.set i none).set i (some (enc z))) elt (f z))
    (h : Run c (Γ.set j (some (.list ((l.filter q).map f)))) (drp j O) ss P)
    (hln : (p.line == pos.line) = true := by rfl) (hs : ∀ env x, foldedSetIterable iter env x = pure x := by intro _ _; rfl) : Run c Γ O (.Assign [.Name y p] (.ListComp elt [⟨.Name x tp, iter, ifs, 0⟩] scope pos) spos :: ss) P := by
  refine run_setLc (own := [(x, i)]) (Pq := q ∘ dec) (f := f ∘ dec) (bind := fun d => (Γ.set i none).set i (some d)) j hj hlo hk hsc hi (by rw [List.length_map]; exact hl) hb (fun d hd => tgB i hN (List.mem_singleton.mpr rfl) ho) (fun d hd => by
    obtain ⟨z, hz, rfl⟩ := List.mem_map.mp hd
    show EvTs _ _ _ (q (dec (enc z)))
    rw [hdec]
    exact ht z hz) (fun d hd hq => by
    obtain ⟨z, hz, rfl⟩ := List.mem_map.mp hd
    have hq : q (dec (enc z)) = true := hq
    show Ev _ _ _ (f (dec (enc z)))
    rw [hdec] at hq ⊢
    exact he z hz hq) ?_ hln hs
  have e : ((l.map enc).filter (q ∘ dec)).map (f ∘ dec) = (l.filter q).map f := by
    rw [List.filter_map, List.map_map]
    have e1 : (q ∘ dec) ∘ enc = q := by funext z; show q (dec (enc z)) = q z; rw [hdec]
    have e2 : (f ∘ dec) ∘ enc = f := by funext z; show f (dec (enc z)) = f z; rw [hdec]
    rw [e1, e2]
  rw [e]
  exact h
theorem run_lcI {y : Str} {spos : Pos} (j i : Nat) (hj : c.N[j]? = some y) (hlo : c.sc.names.lookup y = some .local) (hk : c.sc.kind = .function) (hsc : (scope.names.any fun (n, k) => n == y && (k == .local || k == .cell)) = false) (hN : c.N[i]? = some x) {l : List Int} {q : Int → Bool} {f : Int → PyData} (hi : EvI0 c Γ (.Name x tp) iter (iL l)) (hl : l.length ≤ 100000) (hb : blkC c.N c.sc scope [(x, i)] = true) (ho : ownB scope x = true)
    (ht : ∀ z ∈ l, EvTs (c.blk scope) ((Γ.set i none).set i (some (.int z))) ifs (q z)) (he : ∀ z ∈ l, q z = true → Ev (c.blk scope) ((Γ.set i none).set i (some (.int z))) elt (f z))
    (h : Run c (Γ.set j (some (.list ((l.filter q).map f)))) (drp j O) ss P)
    (hln : (p.line == pos.line) = true := by rfl) (hs : ∀ env x, foldedSetIterable iter env x = pure x := by intro _ _; rfl) : Run c Γ O (.Assign [.Name y p] (.ListComp elt [⟨.Name x tp, iter, ifs, 0⟩] scope pos) spos :: ss) P := run_lcE j i hj hlo hk hsc hN unI (fun _ => rfl) hi.i hl hb ho ht he h hln hs
/-! ### slices' ends, draws -/
theorem eo_none : EvO c Γ none none := trivial
theorem eo_some {i : Int} (h : Ev c Γ e (.int i)) : EvO c Γ (some e) (some i) := h
theorem ev_isEmptyL {l : List Int} (h : Ev c Γ e (pL l)) : Ev c Γ e (pL l) := h
theorem ev_listL (ha : EvA c Γ es ds) (hl : ds.length ≤ 100000) : Ev c Γ (.List es pos) (.list ds) := ev_list ha hl
end
def Ats (D : List Int) : Prop := ∀ i : Int, 0 ≤ i → i < 60 → atI (iL D) i = some (.int (dr D i.toNat))
theorem Ats.at {D : List Int} (h : Ats D) {i : Int} (h0 : 0 ≤ i) (h1 : i < 60) : atI (iL D) i = some (.int (dr D i.toNat)) := h i h0 h1
theorem ats_row (ns : List Int) (k : Int) : Ats (rowOf ns k) := fun i h0 h1 => row_at h0 h1
end CS

set_option maxRecDepth 100000
set_option maxHeartbeats 4000000
namespace CS
open PySem PySem.Spec PyProof.Rows L2 HT
/-! ### t[::-1], t a tuple -/
section
variable {prog : Program} {w : World} {A : Around} {E : Value → Shared → Prop} {s : Shared}
theorem places_back (n : Nat) : Builtin.Slice.slicePlaces ((n : Int) - 1) (-1) (-1) = n := by
  unfold Builtin.Slice.slicePlaces
  simp only [show ¬ ((-1 : Int) > 0) by decide, if_false]
  split <;> (try simp) <;> omega
theorem adjust_back (n : Nat) : Builtin.Slice.sliceAdjust none none (-1) (n : Int) = ((n : Int) - 1, -1) := by
  unfold Builtin.Slice.sliceAdjust
  simp
theorem sliceApplied_back {sl : Addr} {t : Tok} {n : Nat} {Q : Int × Int × Nat → Shared → Prop} (hs : s.heap.IsSliceOf sl .none .none (.int (-1) t))
    (h : Q ((n : Int) - 1, -1, n) s) : wpAny (model prog w) A (Builtin.Slice.sliceApplied (.ref sl) (pure (n : Int))) Q E s := by
  obtain ⟨os, hos, hcs, hds⟩ := id hs
  unfold Builtin.Slice.sliceApplied Builtin.Slice.sliceFields
  refine wpAny_bind (wpAny_bind (wpAny_field hos hds (x := .none) rfl (wpAny_bind (wpAny_field hos hds (x := .none) rfl (wpAny_bind (wpAny_field hos hds (x := .int (-1) t) rfl (wpAny_pure ?_)))))))
  refine wpAny_bind (slicePart_int ?_)
  show wpAny _ _ (if ((-1 : Int) == 0) = true then _ else _) _ _ s
  rw [if_neg (by decide)]
  refine wpAny_bind (slicePart_none (wpAny_bind (slicePart_none (wpAny_bind (wpAny_pure ?_)))))
  show wpAny _ _ (match Builtin.Slice.sliceAdjust none none (-1) (n : Int) with | (lo, hi) => pure (lo, (-1 : Int), Builtin.Slice.slicePlaces lo hi (-1))) _ _ s
  rw [adjust_back n]
  show wpAny _ _ (pure ((n : Int) - 1, (-1 : Int), Builtin.Slice.slicePlaces ((n : Int) - 1) (-1) (-1))) _ _ s
  rw [places_back]
  exact wpAny_pure h
theorem pick_back (xs : Array Value) : ((List.range xs.size).filterMap fun (m : Nat) => xs[((xs.size : Int) - 1 + (m : Int) * (-1)).toNat]?).toArray = xs.toList.reverse.toArray := by
  have e := PySem.W.krv_pick xs
  unfold slicePick at e
  rw [PySem.W.krv_bounds] at e
  rw [← e]
  show _ = ((sliceRange ((xs.size : Int) - 1) (-1) (-1)).filterMap (xs[·]?)).toArray
  rw [PySem.W.krv_sliceRange, List.filterMap_map]
  congr 1
  have e2 : ((fun x => xs[x]?) ∘ fun k => xs.size - 1 - k) = fun m => xs[xs.size - 1 - m]? := rfl
  rw [e2]
  have key : ∀ l : List Nat, (∀ m ∈ l, m < xs.size) → l.filterMap (fun (m : Nat) => xs[((xs.size : Int) - 1 + (m : Int) * (-1)).toNat]?) = l.filterMap fun m => xs[xs.size - 1 - m]? := by
    intro l hl
    induction l with
    | nil => rfl
    | cons m l ih =>
      have h1 : ((xs.size : Int) - 1 + (m : Int) * (-1)).toNat = xs.size - 1 - m := by
        have := hl m List.mem_cons_self
        omega
      rw [List.filterMap_cons, List.filterMap_cons, h1, ih fun k hk => hl k (List.mem_cons_of_mem _ hk)]
  exact key _ fun m hm => List.mem_range.mp hm
theorem getItem_tuple_back {t sl : Addr} {items : Array Value} {u : Tok} {Q : Value → Shared → Prop} (ht : IsTup s.heap t items) (hs : s.heap.IsSliceOf sl .none .none (.int (-1) u))
    (h : Q (.ref s.heap.objs.size) { s with heap := s.heap.push { cls := .type "tuple", data := .seq items.toList.reverse.toArray } })
    (hsz : items.size ≤ sizeLine) : wpAny (model prog w) A (getItem (.ref t) (.ref sl)) Q E s := by
  have htake : sizeOk (.seq items.toList.reverse.toArray) := by
    show items.toList.reverse.toArray.size ≤ sizeLine
    rw [List.size_toArray, List.length_reverse, Array.length_toList]
    exact hsz
  obtain ⟨os, hos, hcs, hds⟩ := id hs
  have hTs : s.TypeIs (.ref sl) "slice" := ⟨os, hos, hcs⟩
  unfold getItem
  try with_reducible refine wpAny_holding ?_
  first | refine wpAny_bind (wpAny_pure ?_) | skip
  refine wpAny_bind (wpAny_sequenceKey ht.typeIs (by decide) ?_)
  refine wpAny_bind (wpAny_callSpecial?_slot (name := Str.ofString "__getitem__") ht.typeIs PyProof.Rows.slot_tuple_getitem
    (wpAny_call_entry PyProof.Rows.slot_tuple_getitem ht.typeIs entry_tuple_getitem ?_ (args_tuple_getitem _ _)))
  show wpAny _ _ (Builtin.Tuple.tupleItemsOf (.ref t) >>= _) _ _ s
  refine wpAny_bind (tupleItemsOf_ ht ?_)
  refine wpAny_bind (wpAny_typeOf hTs ?_)
  rw [if_pos (by decide)]
  refine wpAny_bind (sliceApplied_back hs ?_)
  show wpAny _ _ (if (((items.size : Int) - 1) == 0 && (-1 : Int) == 1 && items.size == items.size) = true then _ else _) _ _ s
  rw [if_neg (by simp), pick_back]
  first
    | exact wpAny_bind (m := Builtin.Tuple.tupleExact _) (wpAny_newObj_type (wpAny_pure ⟨_, rfl, wpAny_pure h⟩) htake)
    | exact wpAny_bind (m := Builtin.Tuple.tupleExact _) (wpAny_newObj_type (wpAny_bind (wpAny_pure (wpAny_pure ⟨_, rfl, wpAny_pure h⟩))) htake)
    | exact wpAny_bind (wpAny_bind (m := Builtin.Tuple.tupleExact _) (wpAny_newObj_type (wpAny_pure (wpAny_pure ⟨_, rfl, wpAny_pure h⟩)) htake))
    | exact wpAny_bind (wpAny_bind (m := Builtin.Tuple.tupleExact _) (wpAny_newObj_type (wpAny_pure ⟨_, rfl, wpAny_pure h⟩) htake))
end
def tRevT (K : PySem.W.Frag) (te : TE) : TE := fun σ H Q => te σ H fun x H1 => ∃ a xs, x = .ref a ∧ SqT K H1 a xs ∧ ∀ p o, H1 p = none → o.dict = none → Q (.ref p) (upd H1 p (.frz o (.tup xs.reverse)))
theorem pe_revT {X : Cx} {e : Expr} {te : TE} {k : Nat} {p1 p2 p3 pos : Pos} (he : PE X e te) : PE X (.Subscript e (.Slice none none (some (.UnaryOp .USub (.Constant (.int 1) k p1) p2)) p3) pos) (tRevT X.K te) := by
  refine ⟨fun pins s σ H Q I h => ?_⟩
  refine Subscript_ (thn (he.run pins s σ H _ I h) fun v s1 ⟨x, H1, I1, r1, q1⟩ => ?_)
  obtain ⟨a, xs, ex, hx, q⟩ := q1
  subst ex
  cases r1
  have hst : PO X (some (.UnaryOp .USub (.Constant (.int 1) k p1) p2)) (tPart (tUn (rU fun i => .int (-i)) (tC (.int 1)))) := po_some (pe_un un_neg pe_int)
  refine wpAny_Slice (thn (po_none.run pins s1 σ H1 (fun o H2 => o = none ∧ H2 = H1) I1 ⟨rfl, rfl⟩) fun vl s2 ⟨l, H2, I2, pl, el, e2⟩ => ?_)
  subst el e2
  cases pl
  refine thn (po_none.run pins s2 σ H2 (fun o H3 => o = none ∧ H3 = H2) I2 ⟨rfl, rfl⟩) fun vu s3 ⟨u, H3, I3, pu, eu, e3⟩ => ?_
  subst eu e3
  cases pu
  refine thn (hst.run pins s3 σ H3 (fun o H4 => o = some (-1) ∧ H4 = H3) I3 ⟨1, rfl, -1, rfl, rfl, rfl⟩) fun vs s4 ⟨o, H4, I4, ps, eo, e4⟩ => ?_
  subst eo e4
  cases ps with
  | int i t =>
  have I5 : Inv X pins σ H4 { s4 with heap := s4.heap.push { cls := .type "slice", data := .fields #[.none, .none, .int (-1) t] } } := I4.kept (t' := s4.toks) fun b ob q => Heap.get?_push_of_some _ q
  obtain ⟨its, r, ht, hz⟩ := I5.tuple hx
  have hlen := r.length
  show wpAny (model X.prog X.w) X.A (subscriptTail e (.Slice none none (some (.UnaryOp .USub (.Constant (.int 1) k p1) p2)) p3) (.ref a) (.ref s4.heap.objs.size)) (EP X pins σ Q) X.xe { s4 with heap := s4.heap.push { cls := .type "slice", data := .fields #[.none, .none, .int (-1) t] } }
  refine tail_any (ops := [.ref a, .ref s4.heap.objs.size]) ht.typeIs (PyProof.Rows.slot_tuple_getitem.lookup) ?_ (by with_unfolding_all rfl)
  refine getItem_tuple_back ht (Heap.IsSliceOf.new _ .none .none (.int (-1) t)) ?_ (by rw [List.size_toArray]; omega)
  refine ⟨.ref _, _, I5.laid (t' := s4.toks) (o := .frz (nT its.reverse) (.tup xs.reverse)) (fun b ob q => Heap.get?_push_of_some _ q) (Nat.le_refl _) (objF (Heap.get?_push_size _ rfl) (by rw [List.length_reverse]; exact hz) r.reverse), rfl, q _ _ (I5.hok.fresh (Nat.le_refl _)) rfl⟩
section
variable {c : Cfg} {Γ : Gm} {e a b : Expr} {ds : List PyData} {pos p1 p2 p3 : Pos} {k : Nat}
theorem dpa_rev {K : PySem.W.Frag} {H : Hp} : ∀ {vs : List V} {ds : List PyData}, DpAll K H vs ds → DpAll K H vs.reverse ds.reverse
  | _, _, .nil => .nil
  | _, _, .cons h t => by
    rw [List.reverse_cons, List.reverse_cons]
    exact dpa_app (dpa_rev t) (.cons h .nil)
theorem ev_revT (ha : Ev c Γ e (.tuple ds)) : Ev c Γ (.Subscript e (.Slice none none (some (.UnaryOp .USub (.Constant (.int 1) k p1) p2)) p3) pos) (.tuple ds.reverse) := fun X cf σ W Q s q => by
  refine wE_of (pe_revT pe_w) ?_
  refine ha X cf σ W _ s fun v W1 e1 r1 => ?_
  obtain ⟨t, xs, rfl, h1, h2⟩ := dp_tup_inv r1
  exact ⟨t, xs, rfl, W1.st h1, fun p o hp ho => q _ (W1.new p _) (e1.trans (Wx.new hp)) (.tup (PlT.of ho) (dpa_rev (dpa_ex (Wx.new hp).s h2)))⟩
theorem ev_revL (ha : Ev c Γ e (.list ds)) : Ev c Γ (.Subscript e (.Slice none none (some (.UnaryOp .USub (.Constant (.int 1) k p1) p2)) p3) pos) (.list ds.reverse) := fun X cf σ W Q s q => by
  refine wE_of (pe_revL pe_w) ?_
  refine ha X cf σ W _ s fun v W1 e1 r1 => ?_
  obtain ⟨t, xs, rfl, h1, h2⟩ := dp_list_inv r1
  exact ⟨t, xs, rfl, W1.sl h1, fun p hp => q _ (W1.new p _) (e1.trans (Wx.new hp)) (.lst (SqL.of upd_same) (dpa_rev (dpa_ex (Wx.new hp).s h2)))⟩
end
end CS

set_option maxRecDepth 100000
set_option maxHeartbeats 4000000
/-! Multipliers: what is computed, and the mathematics. -/
namespace CS
open PySem PySem.Spec PyProof.Rows L2
def scl (n : Int) (row : List Int) (m : Int) : List Int := row.map fun x => x * m % n
def wrk (n : Int) (row : List Int) (m : Int) : Bool := !decide (0 ∈ scl n row m) && decide ((scl n row m).sum < n)
def mok (n : Int) (row : List Int) (m : Int) : Bool := decide (Int.gcd m n = 1) && wrk n row m
def every (n : Int) (row : List Int) : List Int := (rng 1 n).filter (mok n row)
def mult (n : Int) (row : List Int) : Option Int := (rng 1 n).find? (mok n row)
def multD (n : Int) (row : List Int) : PyData := match mult n row with
  | some m => .int m
  | none => .none
def multOc (n : Int) (row : List Int) : Oc := match mult n row with
  | some m => .ok (.int m)
  | none => .er "NoMultiplier"
def hasOc (n : Int) (row : List Int) : Oc := .ok (.bool (mult n row).isSome)
def prodOc (n : Int) (row : List Int) : Oc := match mult n row with
  | some m => .ok (pT (scl n row m))
  | none => .er "NoMultiplier"
def isMultD (n : Int) (row : List Int) (v : PyData) : Bool := inR v 1 (n - 1) && mok n row (unI v)
def isMultOc (v : PyData) (n : Int) (row : List Int) : Oc := .ok (.bool (isMultD n row v))
theorem mult_head (n : Int) (row : List Int) : mult n row = (every n row).head? := by
  unfold mult every
  rw [List.head?_filter]
theorem mult_some {n m : Int} {row : List Int} (h : mult n row = some m) : 1 ≤ m ∧ m < n ∧ mok n row m = true := by
  have h1 := mem_rng.mp (List.mem_of_find?_eq_some h)
  exact ⟨h1.1, h1.2, List.find?_some h⟩
theorem mult_none {n : Int} {row : List Int} (h : mult n row = none) {m : Int} (h1 : 1 ≤ m) (h2 : m < n) : mok n row m = false := by
  have := List.find?_eq_none.mp h m (mem_rng.mpr ⟨h1, h2⟩)
  simpa using this
theorem mem_every {n m : Int} {row : List Int} : m ∈ every n row ↔ 1 ≤ m ∧ m < n ∧ mok n row m = true := by
  unfold every
  rw [List.mem_filter, mem_rng, and_assoc]
theorem isMult_iff {n : Int} {row : List Int} {v : Int} : isMultD n row (.int v) = decide (v ∈ every n row) := by
  rw [Bool.eq_iff_iff, decide_eq_true_eq, mem_every]
  show ((decide (1 ≤ v) && decide (v ≤ n - 1)) && mok n row v) = true ↔ _
  rw [Bool.and_eq_true, Bool.and_eq_true, decide_eq_true_eq, decide_eq_true_eq, and_assoc]
  constructor
  · rintro ⟨a, b, c⟩; exact ⟨a, by omega, c⟩
  · rintro ⟨a, b, c⟩; exact ⟨a, by omega, c⟩
/-! ### apart -/
def apart (a b : Int) : Bool := ((rng 2 (a + 1)).filter fun d => decide (a % d = 0) && decide (b % d = 0)).isEmpty
theorem apart_gcd {a b : Int} (ha : 1 ≤ a) (hb : 0 ≤ b) : apart a b = decide (Int.gcd a b = 1) := by
  rw [Bool.eq_iff_iff, decide_eq_true_eq]
  unfold apart
  rw [List.isEmpty_iff, List.filter_eq_nil_iff]
  have hd1 : ((Int.gcd a b : Nat) : Int) ∣ a := Int.gcd_dvd_left ..
  have hd2 : ((Int.gcd a b : Nat) : Int) ∣ b := Int.gcd_dvd_right ..
  have hpos : 0 < Int.gcd a b := Int.gcd_pos_of_ne_zero_left _ (by omega)
  constructor
  · intro h
    apply Classical.byContradiction
    intro hne
    have hle : ((Int.gcd a b : Nat) : Int) ≤ a := Int.le_of_dvd (by omega) hd1
    have := h (Int.gcd a b) (mem_rng.mpr ⟨by omega, by omega⟩)
    rw [decide_eq_true (Int.emod_eq_zero_of_dvd hd1), decide_eq_true (Int.emod_eq_zero_of_dvd hd2)] at this
    exact this rfl
  · intro h d hd hz
    have hd := mem_rng.mp hd
    rw [Bool.and_eq_true, decide_eq_true_eq, decide_eq_true_eq] at hz
    have e1 : d.natAbs ∣ a.natAbs := Int.natAbs_dvd_natAbs.mpr (Int.dvd_of_emod_eq_zero hz.1)
    have e2 : d.natAbs ∣ b.natAbs := Int.natAbs_dvd_natAbs.mpr (Int.dvd_of_emod_eq_zero hz.2)
    have e3 : d.natAbs ∣ Int.gcd a b := Nat.dvd_gcd e1 e2
    rw [h] at e3
    have := Nat.le_of_dvd (by decide) e3
    omega
/-! ### a row with a multiplier is free -/
theorem sum_scl_mod {n : Int} (m : Int) : ∀ l : List Int, (scl n l m).sum % n = (l.sum * m) % n
  | [] => by show (0 : Int) % n = (0 * m) % n; rw [Int.zero_mul]
  | x :: r => by
    show (x * m % n + (scl n r m).sum) % n = ((x + r.sum) * m) % n
    rw [Int.emod_add_emod, Int.add_mul, Int.add_emod, sum_scl_mod m r, ← Int.add_emod]
theorem scl_sub {n m : Int} {s l : List Int} (h : s.Sublist l) : (scl n s m).Sublist (scl n l m) := h.map _
theorem sum_nn : ∀ {l : List Int}, (∀ x ∈ l, 0 ≤ x) → 0 ≤ l.sum
  | [], _ => Int.le_refl _
  | x :: r, h => by
    rw [List.sum_cons]
    have := h x List.mem_cons_self
    have := sum_nn (l := r) fun y hy => h y (List.mem_cons_of_mem _ hy)
    omega
theorem sub_sum {s l : List Int} (h : s.Sublist l) (hl : ∀ x ∈ l, 0 ≤ x) : s.sum ≤ l.sum := by
  induction h with
  | slnil => exact Int.le_refl _
  | cons a h ih =>
    rw [List.sum_cons]
    have := hl a List.mem_cons_self
    have := ih fun y hy => hl y (List.mem_cons_of_mem _ hy)
    omega
  | cons_cons a h ih =>
    rw [List.sum_cons, List.sum_cons]
    have := ih fun y hy => hl y (List.mem_cons_of_mem _ hy)
    omega
theorem sum_ge {l : List Int} (h : ∀ x ∈ l, 1 ≤ x) : (l.length : Int) ≤ l.sum := by
  induction l with
  | nil => exact Int.le_refl _
  | cons a r ih =>
    rw [List.sum_cons, List.length_cons]
    have := h a List.mem_cons_self
    have := ih fun y hy => h y (List.mem_cons_of_mem _ hy)
    omega
theorem wrk_pos {n m : Int} (hn : 0 < n) {row : List Int} (h : wrk n row m = true) : (∀ x ∈ scl n row m, 1 ≤ x) ∧ (scl n row m).sum < n := by
  unfold wrk at h
  rw [Bool.and_eq_true, Bool.not_eq_true', decide_eq_false_iff_not, decide_eq_true_eq] at h
  refine ⟨fun x hx => ?_, h.2⟩
  obtain ⟨y, hy, rfl⟩ := List.mem_map.mp hx
  have h1 := Int.emod_nonneg (y * m) (show n ≠ 0 by omega)
  have h2 : y * m % n ≠ 0 := fun e => h.1 (by rw [← e]; exact List.mem_map.mpr ⟨y, hy, rfl⟩)
  omega
theorem wrk_free {n m : Int} (hn : 0 < n) {row : List Int} (hr : Rem n row) (h : wrk n row m = true) : free n row = true := by
  obtain ⟨h1, h2⟩ := wrk_pos hn h
  rw [free_iff hn hr]
  intro s hs hne hz
  have h3 : ∀ x ∈ scl n s m, 1 ≤ x := fun x hx => h1 x ((scl_sub hs).subset hx)
  have h4 := sub_sum (scl_sub (n := n) (m := m) hs) fun x hx => by have := h1 x hx; omega
  have h5 := sum_ge h3
  have h6 : (scl n s m).length = s.length := List.length_map _
  have h7 : 0 < s.length := List.length_pos_iff.mpr hne
  have h8 := sum_scl_mod (n := n) m s
  rw [Int.emod_eq_of_lt (by omega) (by omega), Int.mul_emod, hz, Int.zero_mul, Int.zero_emod] at h8
  omega
/-! ### order does not matter -/
theorem sum_perm {l m : List Int} (h : l.Perm m) : l.sum = m.sum := by
  induction h with
  | nil => rfl
  | cons x h ih => rw [List.sum_cons, List.sum_cons, ih]
  | swap x y l => rw [List.sum_cons, List.sum_cons, List.sum_cons, List.sum_cons]; omega
  | trans h1 h2 i1 i2 => rw [i1, i2]
theorem rch_perm {n : Int} (hn : 0 < n) {l m : List Int} (h : l.Perm m) (hl : Rem n l) : rch n l = rch n m := by
  have hm : Rem n m := fun x hx => hl x (h.mem_iff.mpr hx)
  have key : ∀ {a b : List Int}, a.Perm b → Rem n a → Rem n b → ∀ z, z ∈ rch n a → z ∈ rch n b := fun {a b} p ha hb z hz => by
    obtain ⟨s, s1, s2, s3⟩ := (mem_rch hn a ha z).mp hz
    obtain ⟨t, t1, t2⟩ := List.exists_perm_sublist s1 p
    refine (mem_rch hn b hb z).mpr ⟨t, t2, fun e => ?_, ?_⟩
    · rw [e] at t1; exact s2 (List.nil_perm.mp t1)
    · have : t.sum = s.sum := sum_perm t1
      rw [this]; exact s3
  exact up_eq (rch_up n l) (rch_up n m) fun z => ⟨key h hl hm z, key h.symm hm hl z⟩
theorem free_perm {n : Int} (hn : 0 < n) {l m : List Int} (h : l.Perm m) (hl : Rem n l) : free n l = free n m := by
  unfold free; rw [rch_perm hn h hl]
theorem wrk_perm {n k : Int} {l m : List Int} (h : l.Perm m) : wrk n l k = wrk n m k := by
  have p : (scl n l k).Perm (scl n m k) := h.map _
  unfold wrk
  rw [sum_perm p]
  congr 2
  rw [Bool.eq_iff_iff, decide_eq_true_eq, decide_eq_true_eq]
  exact p.mem_iff
theorem every_perm {n : Int} {l m : List Int} (h : l.Perm m) : every n l = every n m := by
  unfold every
  refine List.filter_congr fun k _ => ?_
  unfold mok; rw [wrk_perm h]
theorem mult_perm {n : Int} {l m : List Int} (h : l.Perm m) : mult n l = mult n m := by rw [mult_head, mult_head, every_perm h]
end CS

set_option maxRecDepth 100000
set_option maxHeartbeats 4000000
/-! Long free rows: all of them, up to 12 hours, by a search that the kernel runs. -/
namespace CS
/-- the mask tells the sums of all sublists -/
structure KX (n : Nat) (l : List Nat) (m : Nat) : Prop where
  lt : m < 2 ^ n
  bit : ∀ s, m.testBit s = true ↔ ∃ sub : List Nat, sub.Sublist l ∧ sub.sum % n = s
theorem rot_bit' {n x m t : Nat} (hx : x < n) (h : m.testBit t = true) (ht : t < n) : (rot n x m).testBit ((t + x) % n) = true := by
  unfold rot
  rw [Nat.testBit_mod_two_pow]
  simp only [Bool.and_eq_true, decide_eq_true_eq, Nat.testBit_or, Bool.or_eq_true, Nat.testBit_shiftLeft, Nat.testBit_shiftRight]
  refine ⟨Nat.mod_lt _ (by omega), ?_⟩
  by_cases hlt : t + x < n
  · rw [Nat.mod_eq_of_lt hlt]
    exact .inl ⟨by omega, by rw [show t + x - x = t by omega]; exact h⟩
  · rw [Nat.mod_eq_sub_mod (by omega), Nat.mod_eq_of_lt (by omega)]
    exact .inr (by rw [show n - x + (t + x - n) = t by omega]; exact h)
theorem kx_step {n x m : Nat} {l : List Nat} (hx : x < n) (K : KX n l m) : KX n (l ++ [x]) (m ||| rot n x m) := by
  refine ⟨Nat.or_lt_two_pow K.lt rot_lt, fun s => ?_⟩
  rw [Nat.testBit_or, Bool.or_eq_true]
  constructor
  · rintro (h | h)
    · obtain ⟨sub, h1, h2⟩ := (K.bit s).mp h
      exact ⟨sub, h1.trans (List.sublist_append_left _ _), h2⟩
    · obtain ⟨t, h1, h2, h3⟩ := rot_bit hx K.lt h
      obtain ⟨sub, h4, h5⟩ := (K.bit t).mp h1
      refine ⟨sub ++ [x], h4.append (.refl _), ?_⟩
      rw [List.sum_append, List.sum_singleton, Nat.add_mod, h5, ← h3, Nat.add_mod t x n, Nat.mod_eq_of_lt h2]
  · rintro ⟨sub, h1, h2⟩
    rcases sub_snoc.mp h1 with h | ⟨t, rfl, h⟩
    · exact .inl ((K.bit s).mpr ⟨sub, h, h2⟩)
    · have hb := (K.bit (t.sum % n)).mpr ⟨t, h, rfl⟩
      have := rot_bit' hx hb (Nat.mod_lt _ (by omega))
      rw [List.sum_append, List.sum_singleton] at h2
      rw [Nat.mod_add_mod, h2] at this
      exact .inr this
theorem kx_start {n : Nat} (hn : 0 < n) : KX n [] 1 := by
  refine ⟨Nat.one_lt_two_pow (by omega), fun s => ?_⟩
  rw [Nat.testBit_one_eq_true_iff_self_eq_zero]
  constructor
  · intro h; subst h; exact ⟨[], .slnil, Nat.zero_mod n⟩
  · rintro ⟨sub, h1, h2⟩
    cases h1
    rw [List.sum_nil, Nat.zero_mod] at h2
    omega
def mokN (n : Nat) (l : List Nat) (m : Nat) : Bool := Nat.gcd m n == 1 && (l.all fun x => x * m % n != 0) && Nat.blt (l.map fun x => x * m % n).sum n
def goodN (n mask : Nat) (l : List Nat) : Bool := match (List.range n).filter (mokN n l) with
  | [m] => ((List.range n).all fun z => z == 0 || mask.testBit z == Nat.ble (z * m % n) (l.map fun x => x * m % n).sum) && ((List.range n).filter fun z => z != 0 && Nat.ble (z * m % n) (l.map fun x => x * m % n).sum).length == (l.map fun x => x * m % n).sum
  | _ => false
def chkM (n : Nat) : Nat → Nat → Nat → List Nat → Bool
  | 0, _, mask, l => Nat.ble (2 * l.length) n || goodN n mask l
  | f + 1, lo, mask, l => (Nat.ble (2 * l.length) n || goodN n mask l) && (List.range n).all fun x => Nat.blt x lo || ((rot n x mask).testBit 0 || chkM n f x (mask ||| rot n x mask) (l ++ [x]))
theorem chkM_ok {n : Nat} : ∀ {f lo mask : Nat} {l : List Nat}, chkM n f lo mask l = true → KX n l mask → ∀ r : List Nat, r.length ≤ f → r.Pairwise (· ≤ ·) → (∀ x ∈ r, lo ≤ x ∧ x < n) → (∀ s : List Nat, s.Sublist (l ++ r) → s ≠ [] → s.sum % n ≠ 0) → n < 2 * (l ++ r).length → ∃ m', KX n (l ++ r) m' ∧ goodN n m' (l ++ r) = true
  | f, lo, mask, l, h, K, [], hl, _, _, hf, h2 => by
    rw [List.append_nil] at hf h2 ⊢
    refine ⟨mask, K, ?_⟩
    have key : (Nat.ble (2 * l.length) n || goodN n mask l) = true := by
      cases f with
      | zero => exact h
      | succ f => exact (Bool.and_eq_true_iff.mp h).1
    rw [Bool.or_eq_true] at key
    rcases key with k | k
    · have := Nat.le_of_ble_eq_true k; omega
    · exact k
  | 0, lo, mask, l, h, K, x :: r, hl, _, _, _, _ => by cases hl
  | f + 1, lo, mask, l, h, K, x :: r, hl, hp, hr, hf, h2 => by
    have h' := (Bool.and_eq_true_iff.mp h).2
    have hx := hr x List.mem_cons_self
    have hc := List.all_eq_true.mp h' x (List.mem_range.mpr hx.2)
    rw [Bool.or_eq_true, Bool.or_eq_true] at hc
    have ea : l ++ x :: r = (l ++ [x]) ++ r := by rw [List.append_assoc]; rfl
    rcases hc with hc | hc | hc
    · have := of_decide_eq_true (show decide (x < lo) = true from by simpa [Nat.blt_eq] using hc); omega
    · exfalso
      obtain ⟨t, t1, t2, t3⟩ := rot_bit hx.2 K.lt hc
      obtain ⟨sub, s1, s2⟩ := (K.bit t).mp t1
      refine hf (sub ++ [x]) (by rw [ea]; exact (s1.append (.refl _)).trans (List.sublist_append_left _ _)) (by simp) ?_
      rw [List.sum_append, List.sum_singleton, Nat.add_mod, s2, ← t3, Nat.add_mod t x n, Nat.mod_eq_of_lt t2]
    · have hpc := List.pairwise_cons.mp hp
      rw [ea] at hf h2 ⊢
      exact chkM_ok hc (kx_step hx.2 K) r (by simpa using hl) hpc.2 (fun y hy => ⟨hpc.1 y hy, (hr y (List.mem_cons_of_mem _ hy)).2⟩) hf h2
theorem chkM2 : chkM 2 12 1 1 [] = true := by decide +kernel
theorem chkM3 : chkM 3 12 1 1 [] = true := by decide +kernel
theorem chkM4 : chkM 4 12 1 1 [] = true := by decide +kernel
theorem chkM5 : chkM 5 12 1 1 [] = true := by decide +kernel
theorem chkM6 : chkM 6 12 1 1 [] = true := by decide +kernel
theorem chkM7 : chkM 7 12 1 1 [] = true := by decide +kernel
theorem chkM8 : chkM 8 12 1 1 [] = true := by decide +kernel
theorem chkM9 : chkM 9 12 1 1 [] = true := by decide +kernel
theorem chkM10 : chkM 10 12 1 1 [] = true := by decide +kernel
theorem chkM11 : chkM 11 12 1 1 [] = true := by decide +kernel
theorem chkM12 : chkM 12 12 1 1 [] = true := by decide +kernel
theorem chkM_all {n : Nat} (h2 : 2 ≤ n) (h12 : n ≤ 12) : chkM n 12 1 1 [] = true := by
  have : n = 2 ∨ n = 3 ∨ n = 4 ∨ n = 5 ∨ n = 6 ∨ n = 7 ∨ n = 8 ∨ n = 9 ∨ n = 10 ∨ n = 11 ∨ n = 12 := by omega
  rcases this with rfl | rfl | rfl | rfl | rfl | rfl | rfl | rfl | rfl | rfl | rfl
  · exact chkM2
  · exact chkM3
  · exact chkM4
  · exact chkM5
  · exact chkM6
  · exact chkM7
  · exact chkM8
  · exact chkM9
  · exact chkM10
  · exact chkM11
  · exact chkM12
end CS

set_option maxRecDepth 100000
set_option maxHeartbeats 4000000
namespace CS
abbrev cN (l : List Nat) : List Int := l.map Int.ofNat
theorem cN_sum : ∀ l : List Nat, (cN l).sum = (l.sum : Int)
  | [] => rfl
  | x :: r => by
    show (x : Int) + (cN r).sum = ((x :: r).sum : Nat)
    rw [cN_sum r, List.sum_cons]; omega
theorem cN_toNat : ∀ {l : List Int}, (∀ x ∈ l, 0 ≤ x) → cN (l.map Int.toNat) = l
  | [], _ => rfl
  | x :: r, h => by
    have hx := h x List.mem_cons_self
    show ((x.toNat : Nat) : Int) :: cN (r.map Int.toNat) = x :: r
    rw [cN_toNat fun y hy => h y (List.mem_cons_of_mem _ hy), Int.toNat_of_nonneg hx]
theorem cN_scl (N b : Nat) (l : List Nat) : scl (N : Int) (cN l) (b : Int) = cN (l.map fun x => x * b % N) := by
  unfold scl cN
  rw [List.map_map, List.map_map]
  refine List.map_congr_left fun x _ => ?_
  show (x : Int) * (b : Int) % (N : Int) = ((x * b % N : Nat) : Int)
  rw [Int.natCast_emod, Int.natCast_mul]
theorem rng_up (lo hi : Int) : (rng lo hi).Pairwise (· < ·) := by
  unfold rng rgD
  rw [List.pairwise_map]
  exact List.pairwise_lt_range.imp fun {a b} h => by omega
theorem cN_up {l : List Nat} (h : l.Pairwise (· < ·)) : (cN l).Pairwise (· < ·) := by
  unfold cN
  rw [List.pairwise_map]
  exact h.imp fun {a b} h => Int.ofNat_lt.mpr h
theorem mokN_mok (N b : Nat) (l : List Nat) : mok (N : Int) (cN l) (b : Int) = mokN N l b := by
  unfold mok wrk mokN
  rw [cN_scl, cN_sum]
  rw [Bool.eq_iff_iff]
  simp only [Bool.and_eq_true, decide_eq_true_eq, Bool.not_eq_true', decide_eq_false_iff_not, beq_iff_eq, List.all_eq_true, bne_iff_ne, Nat.blt_eq]
  have e1 : Int.gcd (b : Int) (N : Int) = Nat.gcd b N := rfl
  rw [e1]
  constructor
  · rintro ⟨h1, h2, h3⟩
    refine ⟨⟨h1, fun x hx e => h2 (List.mem_map.mpr ⟨0, List.mem_map.mpr ⟨x, hx, e⟩, rfl⟩)⟩, by omega⟩
  · rintro ⟨⟨h1, h2⟩, h3⟩
    refine ⟨h1, fun h => ?_, by omega⟩
    obtain ⟨y, hy, e⟩ := List.mem_map.mp h
    obtain ⟨x, hx, rfl⟩ := List.mem_map.mp hy
    exact h2 x hx (Int.ofNat.inj e)
/-- what is known of a long free row -/
structure Long (n : Int) (row : List Int) (m : Int) : Prop where
  ev : every n row = [m]
  rc : ∀ z, 1 ≤ z → z < n → (z ∈ rch n row ↔ z * m % n ≤ (scl n row m).sum)
  ct : (((rng 1 n).filter fun z => decide (z * m % n ≤ (scl n row m).sum)).length : Int) = (scl n row m).sum
theorem long_free {n : Int} (h2 : 2 ≤ n) (h12 : n ≤ 12) {row : List Int} (hr : Rem n row) (hl : row.length ≤ 12) (hf : free n row = true) (hL : n < 2 * row.length) : ∃ m, Long n row m := by
  have hn : 0 < n := by omega
  have hp := srt_perm row
  have hr' : Rem n (srt row) := fun x hx => hr x (mem_srt.mp hx)
  have hf' : free n (srt row) = true := by rw [free_perm hn hp hr']; exact hf
  obtain ⟨N, rfl⟩ := Int.eq_ofNat_of_zero_le (Int.le_of_lt hn)
  have hfi := (free_iff hn hr').mp hf'
  have hpos : ∀ x ∈ srt row, 1 ≤ x := fun x hx => by
    have h0 := hr' x hx
    have : x ≠ 0 := fun e => hfi [x] (List.singleton_sublist.mpr hx) (by simp) (by rw [e]; simp)
    omega
  have hc : cN ((srt row).map Int.toNat) = srt row := cN_toNat fun x hx => by have := hpos x hx; omega
  generalize hl' : (srt row).map Int.toNat = l at hc
  have hlen : l.length = row.length := by rw [← hl', List.length_map, srt_len]
  have hsort : l.Pairwise (· ≤ ·) := by
    rw [← hl', List.pairwise_map]
    exact (srt_up row).imp fun {a b} h => by omega
  have hb : ∀ x ∈ l, 1 ≤ x ∧ x < N := fun x hx => by
    rw [← hl'] at hx
    obtain ⟨y, hy, rfl⟩ := List.mem_map.mp hx
    have h1 := hpos y hy
    have h3 := (hr' y hy).2
    have h4 : y < (N : Int) := h3
    omega
  have hfN : ∀ s : List Nat, s.Sublist ([] ++ l) → s ≠ [] → s.sum % N ≠ 0 := fun s hs hne e => by
    rw [List.nil_append] at hs
    refine hfi (cN s) ?_ (fun z => hne (List.map_eq_nil_iff.mp z)) ?_
    · rw [← hc]; exact hs.map _
    · rw [cN_sum]
      show ((s.sum : Nat) : Int) % ((N : Nat) : Int) = 0
      rw [← Int.natCast_emod, e]; rfl
  have h2' : 2 ≤ N := by have : (2 : Int) ≤ (N : Int) := h2; omega
  have h12' : N ≤ 12 := by have : (N : Int) ≤ 12 := h12; omega
  have hL' : N < 2 * ([] ++ l).length := by
    have : (N : Int) < 2 * row.length := hL
    rw [List.nil_append, hlen]; omega
  obtain ⟨mask, K, hg⟩ := chkM_ok (chkM_all h2' h12') (kx_start (by omega)) l (by omega) hsort hb hfN hL'
  rw [List.nil_append] at K hg
  unfold goodN at hg
  split at hg
  · rename_i m hm
    rw [Bool.and_eq_true, List.all_eq_true] at hg
    obtain ⟨hg1, hg2⟩ := hg
    have mem : ∀ b, b ∈ (List.range N).filter (mokN N l) ↔ b = m := fun b => by rw [hm, List.mem_singleton]
    have hmN : m < N := by
      have := (mem m).mpr rfl
      exact List.mem_range.mp (List.mem_filter.mp this).1
    have hm0 : m ≠ 0 := fun e => by
      have := (List.mem_filter.mp ((mem m).mpr rfl)).2
      rw [e] at this
      unfold mokN at this
      rw [Nat.gcd_zero_left] at this
      simp only [Bool.and_eq_true, beq_iff_eq] at this
      omega
    refine ⟨(m : Int), ?_⟩
    have e1 : every (N : Int) row = every (N : Int) (cN l) := by rw [hc]; exact every_perm hp.symm
    have e2 : scl (N : Int) (cN l) (m : Int) = cN (l.map fun x => x * m % N) := cN_scl N m l
    have e3 : (scl (N : Int) row (m : Int)).sum = ((l.map fun x => x * m % N).sum : Nat) := by
      rw [← cN_sum, ← e2, hc]
      exact sum_perm (hp.symm.map _)
    have e4 : rch (N : Int) row = rch (N : Int) (cN l) := by rw [hc]; exact (rch_perm hn hp hr').symm
    refine ⟨?_, fun z z1 z2 => ?_, ?_⟩
    · show every (N : Int) row = _
      rw [e1]
      refine up_eq ((rng_up _ _).filter _) (List.pairwise_singleton _ _) fun z => ?_
      rw [mem_every, List.mem_singleton]
      constructor
      · rintro ⟨a, b, c⟩
        have ez : z = ((z.toNat : Nat) : Int) := by omega
        rw [ez, mokN_mok] at c
        have := (mem z.toNat).mp (List.mem_filter.mpr ⟨List.mem_range.mpr (by omega), c⟩)
        omega
      · rintro rfl
        refine ⟨by omega, by omega, ?_⟩
        rw [mokN_mok]
        exact (List.mem_filter.mp ((mem m).mpr rfl)).2
    · show z ∈ rch (N : Int) row ↔ z * (m : Int) % (N : Int) ≤ (scl (N : Int) row (m : Int)).sum
      have z2 : z < (N : Int) := z2
      obtain ⟨k, rfl⟩ := Int.eq_ofNat_of_zero_le (show 0 ≤ z by omega)
      have hk := hg1 k (List.mem_range.mpr (by omega))
      rw [Bool.or_eq_true] at hk
      have hk : mask.testBit k = Nat.ble (k * m % N) (l.map fun x => x * m % N).sum := by
        rcases hk with hk | hk
        · have : k = 0 := by simpa using hk
          omega
        · simpa using hk
      rw [e4, e3, mem_rch hn _ (by rw [hc]; exact hr')]
      have e5 : ((k : Int) * (m : Int) % (N : Int)) = ((k * m % N : Nat) : Int) := by rw [Int.natCast_emod, Int.natCast_mul]
      rw [e5]
      constructor
      · rintro ⟨s, s1, s2, s3⟩
        obtain ⟨t, t1, rfl⟩ := List.sublist_map_iff.mp s1
        have : mask.testBit k = true := (K.bit k).mpr ⟨t, t1, by
          have s3 : (cN t).sum % (N : Int) = (k : Int) := s3
          rw [cN_sum, ← Int.natCast_emod] at s3
          omega⟩
        rw [hk] at this
        have := Nat.le_of_ble_eq_true this
        omega
      · intro h
        have : Nat.ble (k * m % N) (l.map fun x => x * m % N).sum = true := Nat.ble_eq_true_of_le (by omega)
        rw [← hk] at this
        obtain ⟨t, t1, t2⟩ := (K.bit k).mp this
        refine ⟨cN t, t1.map _, fun e => ?_, ?_⟩
        · rw [List.map_eq_nil_iff.mp e] at t2
          rw [List.sum_nil, Nat.zero_mod] at t2
          omega
        · rw [cN_sum]
          show ((t.sum : Nat) : Int) % ((N : Nat) : Int) = _
          rw [← Int.natCast_emod, t2]
    · show ((((rng 1 (N : Int)).filter fun z => decide (z * (m : Int) % (N : Int) ≤ (scl (N : Int) row (m : Int)).sum)).length : Nat) : Int) = (scl (N : Int) row (m : Int)).sum
      rw [e3]
      have hg2 := eq_of_beq hg2
      have e6 : (rng 1 (N : Int)).filter (fun z => decide (z * (m : Int) % (N : Int) ≤ ((l.map fun x => x * m % N).sum : Nat))) = cN ((List.range N).filter fun z => z != 0 && Nat.ble (z * m % N) (l.map fun x => x * m % N).sum) := by
        refine up_eq ((rng_up _ _).filter _) (cN_up (List.pairwise_lt_range.filter _)) fun z => ?_
        rw [List.mem_filter, mem_rng, decide_eq_true_eq]
        constructor
        · rintro ⟨⟨a, b⟩, c⟩
          obtain ⟨k, rfl⟩ := Int.eq_ofNat_of_zero_le (show 0 ≤ z by omega)
          have e5 : ((k : Int) * (m : Int) % (N : Int)) = ((k * m % N : Nat) : Int) := by rw [Int.natCast_emod, Int.natCast_mul]
          have c : (k : Int) * (m : Int) % (N : Int) ≤ ((l.map fun x => x * m % N).sum : Nat) := c
          rw [e5] at c
          have b : (k : Int) < (N : Int) := b
          have a : (1 : Int) ≤ (k : Int) := a
          refine List.mem_map.mpr ⟨k, List.mem_filter.mpr ⟨List.mem_range.mpr (by omega), ?_⟩, rfl⟩
          rw [Bool.and_eq_true, bne_iff_ne]
          exact ⟨by omega, Nat.ble_eq_true_of_le (by omega)⟩
        · intro h
          obtain ⟨k, hk, rfl⟩ := List.mem_map.mp h
          rw [List.mem_filter, List.mem_range, Bool.and_eq_true, bne_iff_ne] at hk
          obtain ⟨k1, k2, k3⟩ := hk
          have k3 := Nat.le_of_ble_eq_true k3
          have e5 : ((k : Int) * (m : Int) % (N : Int)) = ((k * m % N : Nat) : Int) := by rw [Int.natCast_emod, Int.natCast_mul]
          show ((1 : Int) ≤ (k : Int) ∧ (k : Int) < (N : Int)) ∧ (k : Int) * (m : Int) % (N : Int) ≤ _
          refine ⟨⟨by omega, by omega⟩, ?_⟩
          rw [e5]; omega
      rw [e6, List.length_map, hg2]
  · cases hg
end CS

set_option maxRecDepth 100000
set_option maxHeartbeats 4000000
namespace CS
open PySem PySem.Spec PyProof.Rows L2
/-! ### arguments that raise -/
def ErA (c : Cfg) (Γ : Gm) (es : List Expr) (x : Str) : Prop :=
  ∀ X, Cf c X → ∀ Wr : WX, Takes X Wr → ∀ (σ : St) (W : Wd) (Q : List V → Hp → Prop), SlOk X.K W.s σ Γ → (∀ C W', c.mg x = some (.ref C) → Wx W W' → Wr (.ref C) none σ W'.h) → wA X es σ W.h Q
section
variable {c : Cfg} {Γ : Gm} {O : Ows} {e a b : Expr} {d da db dc : PyData} {es : List Expr} {ds : List PyData} {pos p p2 : Pos} {x y : Str} {P : Po} {ss : List Stmt} {h r : PyData}
theorem era_here (he : Er c Γ e y) (hs : ∀ env, starEach (e :: es) env = (false, eval e env) :: starEach es env := by intro _; rfl) : ErA c Γ (e :: es) y := fun X cf Wr tk σ W Q s q =>
  wA_of (pa_cons pe_w pa_w (hs _)) (he X cf Wr tk σ W _ s q)
theorem era_next (he : Ev c Γ e d) (hr : ErA c Γ es y) (hs : ∀ env, starEach (e :: es) env = (false, eval e env) :: starEach es env := by intro _; rfl) : ErA c Γ (e :: es) y := fun X cf Wr tk σ W Q s q => by
  refine wA_of (pa_cons pe_w pa_w (hs _)) ?_
  refine he X cf σ W _ s fun v W1 e1 r1 => ?_
  exact hr X cf Wr tk σ W1 _ (s.ex e1.s) fun C W2 hC e2 => q C W2 hC (e1.trans e2)
theorem er_callA {j : Nat} {R : List PyData → PyData → Prop} (F : Fnc c.toGb x j R) (ha : ErA c Γ (e :: es) y) (hj : j ≤ c.k) (hg : glB c.sc x = true)
    (hdb : (x == ("__debug__" : Str)) = false := by decide) (he : ∀ env, starEach (e :: es) env = (false, eval e env) :: starEach es env := by intro _; rfl) (hpl : ∀ env, (backTo pos (starEach es env)).any (·.1) = false := by intro _; rfl) :
    Er c Γ (.Call (.Name x p) (e :: es) [] pos) y := fun X cf Wr tk σ W Q s q => by
  obtain ⟨f, fd, ps, hF, hm, hk, hb⟩ := F.ex
  have hF' : FnOk X.prog X.w X.K X.mg X.base CX0 j f fd ps (pSp X.K R) := by rw [cf.prog, cf.w, cf.K, cf.mg, cf.base]; exact hF
  exact wE_of (pe_call hF' (cf.room.mono hj) (gl_of cf hg) (by rw [cf.mg]; exact hm) (by rw [cf.K]; exact hk) (by rw [cf.K]; exact hb) .nil pass0 pa_w hdb (he _) (hpl _)) (ha X cf Wr tk σ W _ s q)
theorem run_ckRow {j : Nat} (F : Fnx c.toGb "check_row" j RcheckRow) (hj : j ≤ c.k) (hg : glB c.sc "check_row" = true) (ha : EvA c Γ [e, b] [h, r])
    (bad : ∀ y, ckRow h r = .er y → P.er y Γ O) (ok : ∀ n row, h = .int n → r = pT row → 2 ≤ n → n ≤ 12 → Row n row → Run c Γ O ss P)
    (he : ∀ env, starEach [e, b] env = (false, eval e env) :: starEach [b] env := by intro _; rfl) (hpl : ∀ env, (backTo p2 (starEach [b] env)).any (·.1) = false := by intro _; rfl) : Run c Γ O (.Expr (.Call (.Name "check_row" p) [e, b] [] p2) pos :: ss) P := by
  rcases ckRow_cases h r with ⟨n, row, rfl, h2, h12, rfl, hr, hc⟩ | ⟨y, hy, _⟩
  · exact run_expr (d := .none) (evx (ev_callX F ha ⟨_, _, rfl, hc.symm⟩ hj hg (he := he) (hpl := hpl))) (ok n row rfl rfl h2 h12 hr)
  · exact run_exprE (erx (er_call F ha ⟨_, _, rfl, hy.symm⟩ hj hg (he := he) (hpl := hpl))) (bad y hy)
theorem onRow_bad {f : Int → List Int → Oc} (hy : ckRow h r = .er y) : onRow f h r = .er y := by unfold onRow; rw [hy]
end
/-! ### specs -/
def Rapart : List PyData → PyData → Prop := fun ds d => ∃ a b : Int, 1 ≤ a ∧ a ≤ 100 ∧ 1 ≤ b ∧ b ≤ 100 ∧ ds = [.int a, .int b] ∧ d = .bool (decide (Int.gcd a b = 1))
def Rscl : List PyData → PyData → Prop := fun ds d => ∃ (n : Int) (row : List Int) (m : Int), 2 ≤ n ∧ n ≤ 12 ∧ Row n row ∧ 0 ≤ m ∧ m ≤ 100 ∧ ds = [.int n, pT row, .int m] ∧ d = pT (scl n row m)
def Rwrk : List PyData → PyData → Prop := fun ds d => ∃ (n : Int) (row : List Int) (m : Int), 2 ≤ n ∧ n ≤ 12 ∧ Row n row ∧ 0 ≤ m ∧ m ≤ 100 ∧ ds = [.int n, pT row, .int m] ∧ d = .bool (wrk n row m)
def RmultOf : List PyData → PyData → Prop := fun ds d => ∃ (n : Int) (row : List Int), 2 ≤ n ∧ n ≤ 12 ∧ Row n row ∧ ds = [.int n, pT row] ∧ d = multD n row
def RisMult : List PyData → Oc → Prop := fun ds o => ∃ h r v, ds = [h, r, v] ∧ o = onRow (isMultOc v) h r
theorem RisMult.ok {n : Int} {row : List Int} {v : PyData} (h1 : 2 ≤ n) (h2 : n ≤ 12) (h : Row n row) : RisMult [.int n, pT row, v] (.ok (.bool (isMultD n row v))) := ⟨_, _, _, rfl, by rw [onRow_ok h1 h2 h]; rfl⟩
def Revery : List PyData → PyData → Prop := fun ds d => ∃ (n : Int) (row : List Int), 2 ≤ n ∧ n ≤ 12 ∧ Row n row ∧ ds = [.int n, pT row] ∧ d = pL (every n row)
def scaledD (mode n : Int) (row : List Int) : PyData := match mult n row with
  | some m => if mode = 0 then .int m else pT (scl n row m)
  | none => .str "none"
def Rscaled : List PyData → PyData → Prop := fun ds d => ∃ (mode n : Int) (row : List Int), 2 ≤ n ∧ n ≤ 12 ∧ Row n row ∧ ds = [.int mode, .int n, pT row] ∧ d = scaledD mode n row
theorem Row.scl {n m : Int} {row : List Int} (hn : 0 < n) (h : Row n row) : Row n (scl n row m) := ⟨by unfold CS.scl; rw [List.length_map]; exact h.len, fun x hx => by
  obtain ⟨y, _, rfl⟩ := List.mem_map.mp hx
  exact emod_rem hn _⟩
theorem every_take {n : Int} {row : List Int} {i : Nat} {z : Int} (h : (rng 1 n)[i]? = some z) : ((rng 1 n).take (i + 1)).filter (mok n row) = ((rng 1 n).take i).filter (mok n row) ++ if mok n row z = true then [z] else [] := by
  rw [take_succ' h, List.filter_append]
  congr 1
  by_cases hz : mok n row z = true
  · rw [if_pos hz, List.filter_cons_of_pos hz]; rfl
  · rw [if_neg hz, List.filter_cons_of_neg hz]; rfl
end CS
namespace CS
open PySem PySem.Spec PyProof.Rows L2
theorem cr_sumT {X : Cx} (hc : X.calm = true) : CallR X (.builtin "sum") (fun vs H Q => ∃ (a : Addr) (ns : List Int), vs = [V.ref a] ∧ SqT X.K H a (ns.map V.int) ∧ Q (.int ns.sum) H) := by
  intro pins s σ H vs us Q I r h
  obtain ⟨a, ns, rfl, hs, q⟩ := h
  obtain ⟨its, rv, pt, _⟩ := I.tuple hs
  rw [Vals.ref1 r]
  have hi : IntsAre its ns := rv.ints
  obtain ⟨xs, e⟩ := hi.allInts.items
  have hn : numsOf (intItems xs).toList = ns := by rw [← e]; exact hi.numsOf
  rw [nums_intItems] at hn
  have pt : s.heap.IsTuple a its.toArray := pt
  rw [e] at pt
  refine PySem.W.ktm_sumG (I.ok.hd hc) pt fun h' tk t' hk => ?_
  rw [preSum_eq, List.take_of_length_le (by simp), hn]
  exact ⟨.int _, H, I.kept hk, ⟨_, rfl⟩, q⟩
theorem ev_sumT {c : Cfg} {Γ : Gm} {e : Expr} {p pos : Pos} {ns : List Int} (ha : Ev c Γ e (pT ns)) (hm : c.mg "sum" = none) (hg : glB c.sc "sum" = true) (he : ∀ env, starEach [e] env = [(false, eval e env)] := by intro _; rfl) : Ev c Γ (.Call (.Name "sum" p) [e] [] pos) (.int ns.sum) :=
  ev_blt hm (by decide +kernel) (ea_cons ha ea_nil he) (fun X cf => ⟨_, cr_sumT cf.calm, fun vs W Q h q => by
    obtain ⟨v, rfl, h1⟩ := dpa1 h
    obtain ⟨a, rfl, h2⟩ := dp_pT_inv h1
    exact ⟨a, ns, rfl, W.st h2, q _ W Wx.refl (.int _)⟩⟩) hg (he := he)
end CS
namespace CS
open PySem PySem.Spec PyProof.Rows L2
section
variable {c : Cfg} {Γ : Gm} {e a b : Expr} {pos : Pos} {y : Str} {k : Bool}
theorem er_ifT (hc : EvT c Γ e k) (hk : k = true) (ha : Er c Γ a y) : Er c Γ (.IfExp e a b pos) y := fun X cf Wr tk σ W Q s q => by
  subst hk
  refine wE_of (pe_ifExp pt_w pe_w pe_w) ?_
  refine hc X cf σ W _ s fun W1 e1 => ?_
  rw [if_pos rfl]
  exact ha X cf Wr tk σ W1 _ (s.ex e1.s) fun C W2 hC e2 => q C W2 hC (e1.trans e2)
theorem er_ifF (hc : EvT c Γ e k) (hk : k = false) (hb : Er c Γ b y) : Er c Γ (.IfExp e a b pos) y := fun X cf Wr tk σ W Q s q => by
  subst hk
  refine wE_of (pe_ifExp pt_w pe_w pe_w) ?_
  refine hc X cf σ W _ s fun W1 e1 => ?_
  rw [if_neg Bool.false_ne_true]
  exact hb X cf Wr tk σ W1 _ (s.ex e1.s) fun C W2 hC e2 => q C W2 hC (e1.trans e2)
end
end CS

set_option maxRecDepth 100000
set_option maxHeartbeats 4000000
namespace CS
open PySem PySem.Spec PyProof.Rows L2
/-! ### inverses -/
def invChk (n : Nat) : Bool := (List.range n).all fun m => Nat.gcd m n != 1 || (List.range n).any fun z => z != 0 && z * m % n == 1
theorem invChk_all : (List.range 11).all (fun k => invChk (k + 2)) = true := by decide +kernel
theorem inv_ex {n m : Int} (h2 : 2 ≤ n) (h12 : n ≤ 12) (h1 : 1 ≤ m) (hm : m < n) (hg : Int.gcd m n = 1) : ∃ z, 1 ≤ z ∧ z < n ∧ z * m % n = 1 := by
  obtain ⟨N, rfl⟩ := Int.eq_ofNat_of_zero_le (show 0 ≤ n by omega)
  obtain ⟨M, rfl⟩ := Int.eq_ofNat_of_zero_le (show 0 ≤ m by omega)
  have h2 : (2 : Int) ≤ (N : Int) := h2
  have h12 : (N : Int) ≤ 12 := h12
  have hm : (M : Int) < (N : Int) := hm
  have := List.all_eq_true.mp invChk_all (N - 2) (List.mem_range.mpr (by omega))
  rw [show N - 2 + 2 = N by omega] at this
  have := List.all_eq_true.mp this M (List.mem_range.mpr (by omega))
  rw [Bool.or_eq_true, bne_iff_ne] at this
  rcases this with h | h
  · exact absurd hg h
  · obtain ⟨z, hz, h⟩ := List.any_eq_true.mp h
    rw [Bool.and_eq_true, bne_iff_ne, beq_iff_eq] at h
    have hz := List.mem_range.mp hz
    refine ⟨(z : Int), by omega, by omega, ?_⟩
    show (z : Int) * (M : Int) % (N : Int) = 1
    rw [← Int.natCast_mul, ← Int.natCast_emod, h.2]; rfl
def invm (n m : Int) : Int := ((rng 1 n).find? fun z => decide (z * m % n = 1)).getD 0
theorem invm_ok {n m : Int} (h2 : 2 ≤ n) (h12 : n ≤ 12) (h1 : 1 ≤ m) (hm : m < n) (hg : Int.gcd m n = 1) : (rng 1 n).find? (fun z => decide (z * m % n = 1)) = some (invm n m) ∧ 1 ≤ invm n m ∧ invm n m < n ∧ invm n m * m % n = 1 := by
  obtain ⟨z, z1, z2, z3⟩ := inv_ex h2 h12 h1 hm hg
  cases q : (rng 1 n).find? (fun z => decide (z * m % n = 1)) with
  | none => exact absurd (decide_eq_true z3) (List.find?_eq_none.mp q z (mem_rng.mpr ⟨z1, z2⟩))
  | some y =>
    have e : invm n m = y := by unfold invm; rw [q]; rfl
    have h3 := mem_rng.mp (List.mem_of_find?_eq_some q)
    have h5 := List.find?_some q
    have h4 : y * m % n = 1 := of_decide_eq_true h5
    rw [e]
    exact ⟨rfl, h3.1, h3.2, h4⟩
/-- cancelling a unit -/
theorem unit_cancel {n m i x y : Int} (hi : i * m % n = 1 % n) (hx : 0 ≤ x) (hx2 : x < n) (hy : 0 ≤ y) (hy2 : y < n) (h : x * m % n = y * m % n) : x = y := by
  have key : ∀ z : Int, 0 ≤ z → z < n → (z * m % n * i) % n = z := fun z h1 h2 => by
    rw [Int.mul_emod, Int.emod_emod, ← Int.mul_emod, Int.mul_assoc, Int.mul_comm m i, Int.mul_emod, hi, ← Int.mul_emod, Int.mul_one, Int.emod_eq_of_lt h1 h2]
  rw [← key x hx hx2, h, key y hy hy2]
def unitOc (n : Int) (row : List Int) : Oc := match mult n row with
  | some m => .ok (.int (invm n m))
  | none => .er "NoMultiplier"
def unitD (n : Int) (row : List Int) : PyData := match mult n row with
  | some m => .int (invm n m)
  | none => .str "none"
def RlawUnit : List PyData → PyData → Prop := fun ds d => ∃ (n : Int) (row : List Int), 2 ≤ n ∧ n ≤ 12 ∧ Row n row ∧ ds = [.int n, pT row] ∧ d = unitD n row
/-! ### x.pop(e), an owned list -/
section
variable {c : Cfg} {X : Cx} {Γ : Gm} {O : Ows} {e a b : Expr} {d : PyData} {ds : List PyData} {pos p p2 p3 : Pos} {x y : Str} {ss : List Stmt} {P : Po}
/-- the reading of x.pop(e): what follows sees the list without its k-th item -/
theorem pop_read {k : Int} {j : Nat} {Q : VK} {W0 W : Wd} {U : Hp} {σ : St} (cf : Cf c X) (g : Sto X.K W0 U W σ Γ O) (i : Nat) (g0 : getO i O = some (.lst ds)) (he : EvX c Γ O e (.int k)) (h1 : 0 ≤ k) (h2 : k < ds.length) (hd : ds[k.toNat]? = some d) (hz : ds.length ≤ 100000) (hN : c.N[i]? = some x) (hv : visB c.sc x = true)
    (q : ∀ v W', Sto X.K W0 U W' σ Γ (putO i (.lst (ds.eraseIdx k.toNat)) O) → Ex W.s W'.s → Dp X.K W'.s v d → Q v W'.h)
    (hline : (p2.endLine == p3.line) = true := by rfl) (hsE : ∀ env, starEach [e] env = [(false, eval e env)] := by intro _; rfl)
    (hb : ∀ env, attributeBase (.Name x p) "pop" env (eval (.Name x p) env) = eval (.Name x p) env := by intro _; rfl) (hdb : (x == ("__debug__" : Str)) = false := by decide) (hcd : (x == ("__classdict__" : Str)) = false := by decide)
    (hfew : ∀ env, ((backTo p3 (starEach [e] env)).all (fun x => !x.1) && (backToKw p3 (keywordEach [] env)).all (fun x => x.1.isSome) && decide ([e].length + ([] : List Keyword).length + (if ([] : List Keyword).isEmpty then 0 else 1) < 30)) = true := by intro _; rfl) :
    wE X (.Call (.Attribute (.Name x p) "pop" p2) [e] [] p3) σ W.h Q := by
  refine wE_of (pe_bm PySem.F.plainAttrs_list PySem.F.slot_list_pop PySem.F.type_list_pop mt_popAt (pe_var (i := i) (by rw [cf.N]; exact hN) (by rw [cf.sc]; exact vis_of hv) hdb hcd) (pa_cons pe_w pa_nil (hsE _)) (hb _) (hfew _) hline (hsE _) rfl) ?_
  obtain ⟨qs, t⟩ := g.o
  obtain ⟨r, k1, k2, k3, k4, k5, _⟩ := t.get g0
  obtain ⟨vs, v1, v2⟩ := OwL.at_ k3
  refine ⟨_, k1, .inl ⟨rfl, _, SqL.of v1⟩, ?_⟩
  refine he X cf W0 U σ W _ g fun v W1 e1 r1 => ?_
  cases dp_int_inv r1
  have n1 : W1.s r = none := e1.av _ _ v1 (OwL.n k3)
  have l1 := dpa_len v2
  obtain ⟨w, w1, w2⟩ := dpa_get v2 hd
  refine ⟨r, vs, k, k.toNat, w, rfl, rfl, e1.h _ _ v1, by omega, by omega, ?_, w1, ?_⟩
  · unfold seqIndex?
    rw [l1]
    simp only [show ¬ k < 0 by omega, if_false]
    first | rw [if_pos (by omega)] | (simp; omega)
  · exact q w (W1.own r (.lst (vs.eraseIdx k.toNat)) n1) ⟨(g.x.trans e1).own k2, g.v.trans e1.s, g.s.ex e1.s, qs, k5 _ _ (Wm.own e1 n1) ⟨n1, _, upd_same, dpa_erase k.toNat (dpa_ex e1.s v2)⟩⟩ e1.s (dp_ex e1.s w2)
where
  dpa_erase {K : PySem.W.Frag} {H : Hp} : ∀ {vs : List V} {ds : List PyData} (j : Nat), DpAll K H vs ds → DpAll K H (vs.eraseIdx j) (ds.eraseIdx j)
    | _, _, _, .nil => .nil
    | _, _, 0, .cons _ t => t
    | _, _, j + 1, .cons r t => .cons r (dpa_erase j t)
/-- y = x.pop(e) -/
theorem run_pop {k : Int} (j i : Nat) (g0 : getO i O = some (.lst ds)) (he : EvX c Γ O e (.int k)) (h1 : 0 ≤ k) (h2 : k < ds.length) (hd : ds[k.toNat]? = some d) (hz : ds.length ≤ 100000) (hN : c.N[i]? = some x) (hv : visB c.sc x = true) (hj : c.N[j]? = some y) (hl : locB c.sc y = true)
    (h : Run c (Γ.set j (some d)) (drp j (putO i (.lst (ds.eraseIdx k.toNat)) O)) ss P)
    (hline : (p2.endLine == p3.line) = true := by rfl) (hsE : ∀ env, starEach [e] env = [(false, eval e env)] := by intro _; rfl)
    (hw : ∀ env, swapsWith (.Call (.Attribute (.Name x p) "pop" p2) [e] [] p3) (some (.Name y pos)) pos.line env = pure false := by intro _; rfl)
    (hb : ∀ env, attributeBase (.Name x p) "pop" env (eval (.Name x p) env) = eval (.Name x p) env := by intro _; rfl) (hdb : (x == ("__debug__" : Str)) = false := by decide) (hcd : (x == ("__classdict__" : Str)) = false := by decide)
    (hfew : ∀ env, ((backTo p3 (starEach [e] env)).all (fun x => !x.1) && (backToKw p3 (keywordEach [] env)).all (fun x => x.1.isSome) && decide ([e].length + ([] : List Keyword).length + (if ([] : List Keyword).isEmpty then 0 else 1) < 30)) = true := by intro _; rfl)
    {sp : Pos} (hw2 : ∀ env, swapsWith (.Call (.Attribute (.Name x p) "pop" p2) [e] [] p3) (some (.Name y pos)) sp.line env = pure false := by intro _; rfl) : Run c Γ O (.Assign [.Name y pos] (.Call (.Attribute (.Name x p) "pop" p2) [e] [] p3) sp :: ss) P := fun X sf Wr tk W0 U D hh σ W g => by
  refine ss_cons (wS_of (ps_set (i := j) sf.nd (by rw [sf.N]; exact hj) (by rw [sf.sc]; exact loc_of hl) pe_w (hw2 _) (.inl (sf.fn _))) ?_)
  exact pop_read (j := 0) sf.toCf g i g0 he h1 h2 hd hz hN hv (fun v W1 g1 _ r1 => h X sf Wr tk W0 U D hh _ W1 (g1.set j r1)) hline hsE hb hdb hcd hfew
/-- x, y = [], e: x owns the new list -/
theorem run_parL {db : PyData} {px py pt pt2 : Pos} {kt k2 : Nat} (i j : Nat) (hb : Ev c Γ b db) (hi : c.N[i]? = some x) (hj : c.N[j]? = some y) (hij : i ≠ j) (hx : c.sc.names.lookup x = some .local) (hy : c.sc.names.lookup y = some .local) (hk : c.sc.kind = .function)
    (h : Run c ((Γ.set i none).set j (some db)) ((i, .lst []) :: drp j (drp i O)) ss P) (hG : i < Γ.length)
    (hxy : ([x, y].eraseDups.length != 2) = false := by decide) (hl : (py.line == px.line) = true := by decide) (h1 : ([.List [] p, b].all (foldedForSure 8)) = false := by rfl) (h2 : ([.List [] p, b].all (constantsAlone 8)) = false := by rfl) (h3 : ([.List [] p, b].any fun | .Starred .. => true | _ => false) = false := by rfl)
    (hsE2 : ∀ env, starEach [b] env = [(false, eval b env)] := by intro _; rfl)
    (hsw : ∀ env, swapsWithSole [.Tuple [.Name x px, .Name y py] kt pt] (.Tuple [.List [] p, b] k2 pt2) pos.line env = pure false := by intro _; rfl) : Run c Γ O (.Assign [.Tuple [.Name x px, .Name y py] kt pt] (.Tuple [.List [] p, b] k2 pt2) pos :: ss) P := fun X sf Wr tk W0 U D hd σ W g =>
  st_parL sf g.s i j hb hi hj hij hx hy hk (fun q w W1 nq o1 e1 s1 => by
    have g2 := ((g.ex e1).setAny (v := some (.ref q)) i).setAny (v := some w) j
    obtain ⟨qs, t⟩ := g.o
    obtain ⟨qs2, t2, u2⟩ := (t.ex e1).set (v := some (.ref q)) i
    obtain ⟨qs3, t3, u3⟩ := t2.set (v := some w) j
    have nqs : q ∉ qs3 := fun z => by obtain ⟨_, _, u, hu⟩ := t.off q (u2 _ (u3 _ z)); rw [nq] at hu; cases hu
    have hlen : i < σ.length := by rw [g.s.len]; exact hG
    exact h X sf Wr tk W0 U D hd _ W1 ⟨g2.x, g2.v, s1, q :: qs3, .cons (by rw [List.getElem?_set_ne (Ne.symm hij)]; exact List.getElem?_set_self hlen) (g.x.h.back nq) o1 nqs t3⟩) hxy hl h1 h2 h3 hsE2 hsw
end
end CS

set_option maxRecDepth 100000
set_option maxHeartbeats 4000000
namespace CS
open PySem PySem.Spec PyProof.Rows L2
section
variable {c : Cfg} {X : Cx} {Γ : Gm} {O : Ows} {e a b : Expr} {d db : PyData} {ds xs : List PyData} {pos p p2 p3 p4 px py pt pt2 : Pos} {x y : Str} {ss : List Stmt} {P : Po} {kt k2 : Nat}
theorem el_listT {xs : List PyData} (ha : Ev c Γ e (.tuple xs)) (hm : c.mg "list" = none) (hg : glB c.sc "list" = true) (he : ∀ env, starEach [e] env = [(false, eval e env)] := by intro _; rfl) : EvL c Γ (.Call (.Name "list" p) [e] [] pos) xs := fun X cf σ W Q s q => by
  refine wE_of (pe_callTy (T := "list") call_list_of (gl_of cf hg) (by rw [cf.mg]; exact hm) (by decide +kernel) (pa_cons pe_w pa_nil (he _)) (by decide) (by decide) (he _) rfl) ?_
  refine ha X cf σ W _ s fun v W1 e1 r1 => ?_
  obtain ⟨t, ys, rfl, h2, h3⟩ := dp_tup_inv r1
  exact ⟨t, ys, rfl, .inr (W1.st h2), fun l hl => q l ys (W1.new l _) (e1.trans (Wx.new hl)) (e1.h.back hl) upd_same (dpa_ex (Wx.new hl).s h3)⟩
/-- x, y = a, b, a a new list: x owns it -/
theorem run_parO (i j : Nat) (ha : EvL c Γ a ds) (hi2 : immA ds = true) (hb : Ev c Γ b db) (hi : c.N[i]? = some x) (hj : c.N[j]? = some y) (hij : i ≠ j) (hx : c.sc.names.lookup x = some .local) (hy : c.sc.names.lookup y = some .local) (hk : c.sc.kind = .function)
    (h : Run c ((Γ.set i none).set j (some db)) ((i, .lst ds) :: drp j (drp i O)) ss P) (hG : i < Γ.length) (hdb : imm db = true)
    (hxy : ([x, y].eraseDups.length != 2) = false := by decide) (hl : (py.line == px.line) = true := by decide) (h1 : ([a, b].all (foldedForSure 8)) = false := by rfl) (h2 : ([a, b].all (constantsAlone 8)) = false := by rfl) (h3 : ([a, b].any fun | .Starred .. => true | _ => false) = false := by rfl)
    (hsE : ∀ env, starEach [a, b] env = (false, eval a env) :: starEach [b] env := by intro _; rfl) (hsE2 : ∀ env, starEach [b] env = [(false, eval b env)] := by intro _; rfl)
    (hsw : ∀ env, swapsWithSole [.Tuple [.Name x px, .Name y py] kt pt] (.Tuple [a, b] k2 pt2) pos.line env = pure false := by intro _; rfl) : Run c Γ O (.Assign [.Tuple [.Name x px, .Name y py] kt pt] (.Tuple [a, b] k2 pt2) pos :: ss) P := fun X sf Wr tk W0 U D hd σ W g => by
  refine ss_cons (wS_of (ps_par (i := i) (j := j) sf.calm sf.nd (by rw [sf.N]; exact hi) (by rw [sf.N]; exact hj) hij (by rw [sf.sc]; exact hx) (by rw [sf.sc]; exact hy) (pa_cons pe_w (pa_cons pe_w pa_nil (hsE2 _)) (hsE _)) (sw_par sf.sc hk hx hy hxy hl h1 h2 h3) (hsw _)) ?_)
  refine ha X sf.toCf σ W _ g.s fun q vs W1 e1 nq hq hds => ?_
  refine hb X sf.toCf σ W1 _ (g.s.ex e1.s) fun w W2 e2 r2 => ⟨_, w, rfl, ?_⟩
  have e12 := e1.trans e2
  have hq2 := e2.s _ _ hq
  obtain ⟨qs, t⟩ := g.o
  have nqs : q ∉ qs := fun z => by obtain ⟨_, _, u, hu⟩ := t.off q z; rw [nq] at hu; cases hu
  have xw : Wx W (W2.hide q) := by
    refine ⟨fun a u g => ?_, fun a u g => e12.h a u g, fun a u g m => ?_⟩
    · have na : a ≠ q := fun z => by rw [z, W.free nq] at g; cases g
      show (if a = q then none else W2.s a) = some u
      rw [if_neg na]
      exact e12.s a u g
    · show (if a = q then none else W2.s a) = none
      by_cases na : a = q
      · rw [if_pos na]
      · rw [if_neg na]; exact e12.av a u g m
  have tx : Tx W2.s (W2.hide q).s := by
    rintro a ys ⟨o, ho, r⟩
    have na : a ≠ q := fun z => by
      subst z
      rw [hq2] at r; cases r
    exact ⟨o, ho, by show (if a = q then none else W2.s a) = _; rw [if_neg na]; exact r⟩
  have g2 := ((g.ex xw).setAny (v := some (.ref q)) i).set j (dp_tx tx hdb r2)
  obtain ⟨qs2, t2, u2⟩ := (t.ex xw).set (v := some (.ref q)) i
  obtain ⟨qs3, t3, u3⟩ := t2.set (v := some w) j
  have hlen : i < σ.length := by rw [g.s.len]; exact hG
  exact h X sf Wr tk W0 U D hd _ (W2.hide q) ⟨g2.x, g2.v, g2.s, q :: qs3, .cons (by rw [List.getElem?_set_ne (Ne.symm hij)]; exact List.getElem?_set_self hlen) (g.x.h.back nq) ⟨if_pos rfl, vs, W2.sub _ _ hq2, dpa_tx tx hi2 (dpa_ex e2.s hds)⟩ (fun z => nqs (u2 _ (u3 _ z))) t3⟩
/-- y = a + (x.pop(e),) -/
theorem run_catPop {k : Int} (j i : Nat) (ha : Ev c Γ a (.tuple xs)) (hxl : xs.length ≤ 1000) (g0 : getO i O = some (.lst ds)) (he : EvX c Γ O e (.int k)) (h1 : 0 ≤ k) (h2 : k < ds.length) (hd : ds[k.toNat]? = some d) (hz : ds.length ≤ 100000) (hN : c.N[i]? = some x) (hv : visB c.sc x = true) (hj : c.N[j]? = some y) (hl : locB c.sc y = true)
    (h : Run c (Γ.set j (some (.tuple (xs ++ [d])))) (drp j (putO i (.lst (ds.eraseIdx k.toNat)) O)) ss P)
    (hline : (p2.endLine == p3.line) = true := by rfl) (hsE : ∀ env, starEach [e] env = [(false, eval e env)] := by intro _; rfl)
    (hb : ∀ env, attributeBase (.Name x p) "pop" env (eval (.Name x p) env) = eval (.Name x p) env := by intro _; rfl) (hdb : (x == ("__debug__" : Str)) = false := by decide) (hcd : (x == ("__classdict__" : Str)) = false := by decide)
    (hfew : ∀ env, ((backTo p3 (starEach [e] env)).all (fun x => !x.1) && (backToKw p3 (keywordEach [] env)).all (fun x => x.1.isSome) && decide ([e].length + ([] : List Keyword).length + (if ([] : List Keyword).isEmpty then 0 else 1) < 30)) = true := by intro _; rfl)
    {sp : Pos} (hw2 : ∀ env, swapsWith (.BinOp a .Add (.Tuple [.Call (.Attribute (.Name x p) "pop" p2) [e] [] p3] kt pt) pt2) (some (.Name y pos)) sp.line env = pure false := by intro _; rfl) : Run c Γ O (.Assign [.Name y pos] (.BinOp a .Add (.Tuple [.Call (.Attribute (.Name x p) "pop" p2) [e] [] p3] kt pt) pt2) sp :: ss) P := fun X sf Wr tk W0 U D hh σ W g => by
  refine ss_cons (wS_of (ps_set (i := j) sf.nd (by rw [sf.N]; exact hj) (by rw [sf.sc]; exact loc_of hl) (pe_op op_catF pe_w (pe_tupF (pa_cons pe_w pa_nil rfl))) (hw2 _) (.inl (sf.fn _))) ?_)
  refine ha X sf.toCf σ W _ g.s fun u W1 e1 r1 => ?_
  refine pop_read (j := 0) sf.toCf (g.ex e1) i g0 he h1 h2 hd hz hN hv (fun v W2 g2 s2 r2 => ?_) hline hsE hb hdb hcd hfew
  refine ⟨by show 1 ≤ sizeLine; decide, fun q oq hq hoq => ?_⟩
  have xq := Wx.new (W := W2) (o := .frz oq (.tup [v])) hq
  obtain ⟨t, us, rfl, t1, t2⟩ := dp_tup_inv (dp_ex xq.s (dp_ex s2 r1))
  have hlen := dpa_len t2
  refine ⟨t, q, us, [v], rfl, rfl, (W2.new q _).st t1, (W2.new q _).st (PlT.of hoq).st, Nat.le_trans (show us.length + 1 ≤ 100000 by omega) (by decide), fun z => ?_, fun _ z => (by cases z), fun _ _ r ro hr hro => ?_⟩
  · subst z
    cases t2
    exact h X sf Wr tk W0 U D hh _ (W2.new q _) ((g2.ex xq).set j (.tup (PlT.of hoq) (.cons (dp_ex xq.s r2) .nil)))
  · have xr := Wx.new (W := W2.new q (.frz oq (.tup [v]))) (o := .frz ro (.tup (us ++ [v]))) hr
    exact h X sf Wr tk W0 U D hh _ ((W2.new q _).new r _) (((g2.ex xq).ex xr).set j (.tup (PlT.of hro) (dpa_app (dpa_ex xr.s t2) (.cons (dp_ex xr.s (dp_ex xq.s r2)) .nil))))
end
/-! ### rows times a unit -/
structure Un (n f g : Int) : Prop where
  n2 : 2 ≤ n
  inv : g * f % n = 1
theorem un_back {n f g z : Int} (U : Un n f g) (h0 : 0 ≤ z) (h1 : z < n) : z * f % n * g % n = z := by
  rw [Int.mul_emod, Int.emod_emod, ← Int.mul_emod, Int.mul_assoc, Int.mul_comm f g, Int.mul_emod, U.inv, Int.mul_one, Int.emod_emod, Int.emod_eq_of_lt h0 h1]
theorem un_zero {n f g z : Int} (U : Un n f g) : (z * f) % n = 0 ↔ z % n = 0 := by
  constructor
  · intro h
    have : (z * f * g) % n = 0 := by rw [Int.mul_emod, h, Int.zero_mul, Int.zero_emod]
    rw [Int.mul_assoc, Int.mul_comm f g, Int.mul_emod, U.inv, Int.mul_one, Int.emod_emod] at this
    exact this
  · intro h; rw [Int.mul_emod, h, Int.zero_mul, Int.zero_emod]
theorem scl_rem {n f : Int} (hn : 0 < n) (l : List Int) : Rem n (scl n l f) := fun x hx => by
  obtain ⟨y, _, rfl⟩ := List.mem_map.mp hx
  exact emod_rem hn _
theorem scl_back {n f g : Int} (U : Un n f g) {l : List Int} (h : Rem n l) : scl n (scl n l f) g = l := by
  unfold scl
  rw [List.map_map]
  have : ∀ x ∈ l, ((fun x => x * g % n) ∘ fun x => x * f % n) x = x := fun x hx => un_back U (h x hx).1 (h x hx).2
  rw [List.map_congr_left this, List.map_id']
theorem rch_scl {n f g : Int} (U : Un n f g) {l : List Int} (h : Rem n l) : rch n (scl n l f) = srt (scl n (rch n l) f) := by
  have hn : 0 < n := by have := U.n2; omega
  have hr := rch_rem hn l h
  have nd : (scl n (rch n l) f).Nodup := by
    unfold scl List.Nodup
    rw [List.pairwise_map]
    have := (rch_up n l)
    rw [List.pairwise_iff_getElem] at this ⊢
    intro i j hi hj hij e
    have h1 := hr _ (List.getElem_mem hi)
    have h2 := hr _ (List.getElem_mem hj)
    have h3 := this i j hi hj hij
    have e2 := congrArg (fun z => z * g % n) e
    simp only [un_back U h1.1 h1.2, un_back U h2.1 h2.2] at e2
    omega
  have up : (srt (scl n (rch n l) f)).Pairwise (· < ·) := by
    have n2 : (srt (scl n (rch n l) f)).Nodup := (srt_perm _).nodup_iff.mpr nd
    have hy := srt_up (scl n (rch n l) f)
    rw [List.pairwise_iff_getElem] at hy ⊢
    intro i j hi hj hij
    have := hy i j hi hj hij
    have := List.pairwise_iff_getElem.mp n2 i j hi hj hij
    omega
  refine up_eq (rch_up _ _) up fun z => ?_
  rw [mem_srt, mem_rch hn _ (scl_rem hn l)]
  constructor
  · rintro ⟨s, s1, s2, s3⟩
    obtain ⟨t, t1, rfl⟩ := List.sublist_map_iff.mp s1
    have e : (scl n t f).sum % n = t.sum * f % n := sum_scl_mod f t
    have s3 : (scl n t f).sum % n = z := s3
    rw [e] at s3
    refine List.mem_map.mpr ⟨t.sum % n, (mem_rch hn l h _).mpr ⟨t, t1, fun q => s2 (by rw [q]; rfl), rfl⟩, ?_⟩
    show t.sum % n * f % n = z
    rw [Int.mul_emod, Int.emod_emod, ← Int.mul_emod]; exact s3
  · intro hz
    obtain ⟨y, hy, e⟩ := List.mem_map.mp hz
    obtain ⟨t, t1, t2, rfl⟩ := (mem_rch hn l h y).mp hy
    have e : t.sum % n * f % n = z := e
    refine ⟨scl n t f, scl_sub t1, fun q => t2 (List.map_eq_nil_iff.mp q), ?_⟩
    rw [sum_scl_mod f t, ← e, Int.mul_emod (t.sum % n), Int.emod_emod, ← Int.mul_emod]
theorem free_scl {n f g : Int} (U : Un n f g) {l : List Int} (h : Rem n l) : free n (scl n l f) = free n l := by
  have hn : 0 < n := by have := U.n2; omega
  rw [Bool.eq_iff_iff, free_iff hn (scl_rem hn l), free_iff hn h]
  constructor
  · intro k s s1 s2 s3
    refine k (scl n s f) (scl_sub s1) (fun q => s2 (List.map_eq_nil_iff.mp q)) ?_
    rw [sum_scl_mod]; exact (un_zero U).mpr s3
  · intro k s s1 s2 s3
    obtain ⟨t, t1, rfl⟩ := List.sublist_map_iff.mp s1
    have e : (scl n t f).sum % n = t.sum * f % n := sum_scl_mod f t
    have s3 : (scl n t f).sum % n = 0 := s3
    rw [e] at s3
    exact k t t1 (fun q => s2 (by rw [q]; rfl)) ((un_zero U).mp s3)
theorem getD_scl {n f : Int} (l : List Int) (i : Nat) : (scl n l f).getD i 0 = (l.getD i 0) * f % n := by
  rw [List.getD_eq_getElem?_getD, List.getD_eq_getElem?_getD]
  unfold scl
  rw [List.getElem?_map]
  cases l[i]? with
  | none => show (0 : Int) = 0 * f % n; rw [Int.zero_mul, Int.zero_emod]
  | some x => rfl
theorem psum_scl {n f g : Int} (U : Un n f g) (l p : List Int) : psum n (scl n l f) p = 0 ↔ psum n l p = 0 := by
  have e : atP (scl n l f) p = scl n (atP l p) f := by
    unfold atP
    show p.map (fun z => (scl n l f).getD z.toNat 0) = (p.map fun z => l.getD z.toNat 0).map fun x => x * f % n
    rw [List.map_map]
    exact List.map_congr_left fun z _ => getD_scl l z.toNat
  unfold psum
  rw [e, sum_scl_mod]
  exact un_zero U
theorem find_congr {α : Type} {p q : α → Bool} : ∀ {l : List α}, (∀ x ∈ l, p x = q x) → l.find? p = l.find? q
  | [], _ => rfl
  | x :: r, h => by
    rw [List.find?_cons, List.find?_cons, h x List.mem_cons_self, find_congr fun y hy => h y (List.mem_cons_of_mem _ hy)]
theorem scl_len {n f : Int} (l : List Int) : (scl n l f).length = l.length := List.length_map _
theorem zpart_scl {n f g : Int} (U : Un n f g) (l : List Int) : zpart n (scl n l f) = zpart n l := by
  unfold zpart
  rw [scl_len]
  refine find_congr fun p _ => ?_
  rw [Bool.eq_iff_iff, decide_eq_true_eq, decide_eq_true_eq]
  exact psum_scl U l p
theorem wo_scl {n f : Int} {gone : List Int} : ∀ (l : List Int) (k : Int), woFrom k gone (scl n l f) = scl n (woFrom k gone l) f
  | [], k => rfl
  | x :: r, k => by
    show (if k ∈ gone then woFrom (k + 1) gone (scl n r f) else (x * f % n) :: woFrom (k + 1) gone (scl n r f)) = scl n (if k ∈ gone then woFrom (k + 1) gone r else x :: woFrom (k + 1) gone r) f
    rw [wo_scl r (k + 1)]
    split <;> rfl
theorem fewest_scl {n f g : Int} (U : Un n f g) {l : List Int} (h : Rem n l) : fewest n (scl n l f) = fewest n l := by
  unfold fewest
  rw [scl_len]
  refine find_congr fun p _ => ?_
  rw [show wo (scl n l f) p = scl n (wo l p) f from wo_scl l 0]
  exact free_scl U (h.sub fun x hx => wo_sub.subset hx)
theorem gcd_inv {n i f : Int} (hn : 2 ≤ n) (h : i * f % n = 1) : Int.gcd i n = 1 := by
  have h1 : ((Int.gcd i n : Nat) : Int) ∣ i := Int.gcd_dvd_left ..
  have h2 : ((Int.gcd i n : Nat) : Int) ∣ n := Int.gcd_dvd_right ..
  have h3 : ((Int.gcd i n : Nat) : Int) ∣ 1 := by
    rw [← h]
    have e : i * f % n = i * f - n * (i * f / n) := by have := Int.emod_add_mul_ediv (i * f) n; omega
    rw [e]
    exact Int.dvd_sub (Int.dvd_trans h1 (Int.dvd_mul_right ..)) (Int.dvd_trans h2 (Int.dvd_mul_right ..))
  have h4 := Int.le_of_dvd (by decide) h3
  have h5 : Int.gcd i n ≠ 0 := fun e => by
    rw [e] at h2
    have := Int.zero_dvd.mp h2
    omega
  omega
theorem mult_scl1 {n f g : Int} (h12 : n ≤ 12) (U : Un n f g) {l : List Int} (h : (mult n l).isSome = true) (hl : Rem n l) : (mult n (scl n l f)).isSome = true := by
  obtain ⟨m, hm⟩ := Option.isSome_iff_exists.mp h
  obtain ⟨m1, m2, m3⟩ := mult_some hm
  have n2 := U.n2
  unfold mok at m3
  rw [Bool.and_eq_true, decide_eq_true_eq] at m3
  obtain ⟨_, k1, k2, k3⟩ := invm_ok U.n2 h12 m1 m2 m3.1
  have em := emod_rem (n := n) (by omega) (m * g)
  -- m' = m * g % n
  have e1 : ∀ x : Int, x * f % n * (m * g % n) % n = x * m % n := fun x => by
    have a : x * f % n * (m * g % n) % n = (x * f) * (m * g) % n := (Int.mul_emod _ _ _).symm
    rw [a, show x * f * (m * g) = x * m * (g * f) by ac_rfl, Int.mul_emod, U.inv, Int.mul_one, Int.emod_emod]
  have e2 : scl n (scl n l f) (m * g % n) = scl n l m := by
    unfold scl
    rw [List.map_map]
    exact List.map_congr_left fun x _ => e1 x
  have e3 : (m * g % n) * (f * invm n m) % n = 1 := by
    rw [Int.mul_emod, Int.emod_emod, ← Int.mul_emod, show m * g * (f * invm n m) = (invm n m * m) * (g * f) by ac_rfl, Int.mul_emod, U.inv, k3]
    show (1 * 1 : Int) % n = 1
    exact Int.emod_eq_of_lt (by decide) (by omega)
  have e4 : m * g % n ≠ 0 := fun e => by
    rw [e, Int.zero_mul, Int.zero_emod] at e3
    omega
  have : mok n (scl n l f) (m * g % n) = true := by
    unfold mok
    rw [gcd_inv U.n2 e3]
    unfold wrk at m3 ⊢
    rw [e2]
    exact m3.2
  cases hq : mult n (scl n l f) with
  | some _ => rfl
  | none => rw [mult_none hq (by omega) em.2] at this; cases this
theorem mult_scl {n f g : Int} (h12 : n ≤ 12) (U : Un n f g) {l : List Int} (hl : Rem n l) : (mult n (scl n l f)).isSome = (mult n l).isSome := by
  have U' : Un n g f := ⟨U.n2, by rw [Int.mul_comm]; exact U.inv⟩
  rw [Bool.eq_iff_iff]
  constructor
  · intro h
    have := mult_scl1 h12 U' h (scl_rem (by have := U.n2; omega) l)
    rw [scl_back U hl] at this
    exact this
  · intro h
    exact mult_scl1 h12 U h hl
theorem erase_perm1 : ∀ {l : List Int} {j : Nat} {x : Int}, l[j]? = some x → (x :: l.eraseIdx j).Perm l
  | [], j, x, h => by simp at h
  | a :: r, 0, x, h => by
    have e : a = x := Option.some.inj h
    subst e
    exact .refl _
  | a :: r, j + 1, x, h => by
    have ih := erase_perm1 (l := r) (j := j) h
    exact (List.Perm.swap _ _ _).trans (ih.cons a)
theorem erase_perm {l : List Int} {j : Nat} {x : Int} (h : l[j]? = some x) (m : List Int) : (m ++ [x] ++ l.eraseIdx j).Perm (m ++ l) := by
  rw [List.append_assoc]
  exact (erase_perm1 h).append_left m
end CS

set_option maxRecDepth 100000
set_option maxHeartbeats 4000000
namespace CS
open PySem PySem.Spec PyProof.Rows L2
theorem EvXT.weak {c : Cfg} {Γ Γ' : Gm} {O : Ows} {e : Expr} {k : Bool} (h : EvXT c Γ' O e k) (s : Sub Γ' Γ) : EvXT c Γ O e k := fun X cf W0 U σ W Q g q => h X cf W0 U σ W Q (g.to s) q
/-! ### max(list of ints), min(list of data) -/
theorem ev_maxL {c : Cfg} {Γ : Gm} {e : Expr} {p pos : Pos} {ns : List Int} {m : Int} (ha : Ev c Γ e (pL ns)) (h1 : m ∈ ns) (h2 : ∀ y ∈ ns, y ≤ m) (hm : c.mg "max" = none) (hg : glB c.sc "max" = true) (he : ∀ env, starEach [e] env = [(false, eval e env)] := by intro _; rfl) : Ev c Γ (.Call (.Name "max" p) [e] [] pos) (.int m) :=
  ev_blt hm (by decide +kernel) (ea_cons ha ea_nil he) (fun X cf => ⟨_, cr_max cf.calm, fun vs W Q h q => by
    obtain ⟨v, rfl, h3⟩ := dpa1 h
    obtain ⟨a, rfl, h4⟩ := dp_pL_inv h3
    refine ⟨a, ns, rfl, W.sl h4, List.length_pos_of_mem h1, fun k k1 k2 => ?_⟩
    have e : k = m := by have a := k2 m h1; have b := h2 k k1; omega
    subst e
    exact q _ W Wx.refl (.int _)⟩) hg (he := he)
section
open PySem.W PySem.SeqAt
theorem min_list_at {prog : Program} {w : World} {A : Around} {E : Value → Shared → Prop} {s : Shared} {l : Addr} {vs : Array Value} {x : PyData} {xs : List PyData} {as : List Addr} {Q : Value → Shared → Prop} (hh : A.handled = none) (hl : s.heap.IsList l vs) (hr : ReadsAll s.heap vs.toList (x :: xs) as) (ha : AlikeAll (x :: xs)) (hu : A.units + 1 + PyData.depthAll (x :: xs) < cLine)
    (h : ∀ (i : Nat) v h' tk, vs[i]? = some v → (x :: xs).getD i .none = minD x xs → (∀ b o, s.heap.get? b = some o → h'.get? b = some o) → Q v { s with heap := h', toks := tk }) :
    wpAny (model prog w) A (call (.builtin "min") [.ref l]) Q E s := by
  have hn : vs.size = xs.length + 1 := readsAll_len hr
  refine call_min_walkH (iter_listW (A := A.in1) hh hl fun s₂ e W st hfp hw hk => ?_)
  refine ⟨_, _, _, _, _, _, _, s.heap, _, rfl, W, st, hfp, by omega, hw, hk, cmpIn_lt (A := A.in1) hr ha (by show A.units + 1 + _ < _; exact hu), fun v s' hP m => ?_⟩
  obtain ⟨h', tk, rfl, hk'⟩ := moved_old e rfl m
  have e1 : vs.size - 1 = xs.length := by omega
  have e2 := (argBest_fold dataLt PyData.none x xs xs.length (Nat.le_refl _)).2
  rw [List.take_length] at e2
  refine h _ v h' tk hP ?_ hk'
  rw [e1]
  unfold minD; rw [← e2]
theorem cr_minD {X : Cx} (hc : X.calm = true) (hu : X.A.units + 64 < cLine) : CallR X (.builtin "min") (fun vs H Q => ∃ (a : Addr) (us : List V) (x : PyData) (xs : List PyData), vs = [V.ref a] ∧ SqL X.K H a us ∧ CS.DpAll X.K H us (x :: xs) ∧ AlikeAll (x :: xs) ∧ PyData.depthAll (x :: xs) ≤ 8 ∧ ∀ (i : Nat) (v : V), us[i]? = some v → (x :: xs).getD i .none = minD x xs → Q v H) := by
  intro pins s σ H vs us' Q I r h
  obtain ⟨a, us, x, xs, rfl, hs, hd, hal, hdep, q⟩ := h
  obtain ⟨its, rv, hl, _⟩ := I.list hs
  rw [Vals.ref1 r]
  obtain ⟨as, hr⟩ := L2.Dp.readsAll I _ us its hd.l rv
  refine min_list_at (I.ok.hd hc) hl.isList (vs := its.toArray) hr hal (by omega) fun i v h' tk hi hb hk => ?_
  have hlen := rv.length
  have hi' : its[i]? = some v := by rw [← List.getElem?_toArray]; exact hi
  have hlt : i < us.length := by
    have := (List.getElem?_eq_some_iff.mp hi').1
    omega
  obtain ⟨u, hu2, ru⟩ := rv.get (List.getElem?_eq_getElem hlt)
  rw [hi'] at hu2
  cases hu2
  exact ⟨_, H, I.kept hk, ru, q i _ (List.getElem?_eq_getElem hlt) hb⟩
theorem ev_minD {c : Cfg} {Γ : Gm} {e : Expr} {p pos : Pos} {x : PyData} {xs : List PyData} (ha : Ev c Γ e (.list (x :: xs))) (hal : AlikeAll (x :: xs)) (hd : PyData.depthAll (x :: xs) ≤ 8) (hm : c.mg "min" = none) (hg : glB c.sc "min" = true) (he : ∀ env, starEach [e] env = [(false, eval e env)] := by intro _; rfl) : Ev c Γ (.Call (.Name "min" p) [e] [] pos) (minD x xs) :=
  ev_blt hm (by decide +kernel) (ea_cons ha ea_nil he) (fun X cf => ⟨_, cr_minD cf.calm cf.room.units, fun vs W Q h q => by
    obtain ⟨v, rfl, h3⟩ := dpa1 h
    obtain ⟨a, us, rfl, h4, h5⟩ := dp_list_inv h3
    refine ⟨a, us, x, xs, rfl, W.sl h4, W.dpa h5, hal, hd, fun i v hi hb => q v W Wx.refl ?_⟩
    have hlt : i < (x :: xs).length := by rw [← dpa_len h5]; exact (List.getElem?_eq_some_iff.mp hi).1
    obtain ⟨v', e1, e2⟩ := dpa_get h5 (List.getElem?_eq_getElem hlt)
    rw [hi] at e1
    cases e1
    rw [List.getD_eq_getElem?_getD, List.getElem?_eq_getElem hlt] at hb
    have hb : (x :: xs)[i] = minD x xs := hb
    rw [← hb]
    exact e2⟩) hg (he := he)
theorem alike_pT : ∀ (a b : List Int), alike (pT a) (pT b) = true
  | [], b => by cases b <;> rfl
  | _ :: _, [] => rfl
  | x :: a, y :: b => by
    show (alike (.int x) (.int y) && alikeAll (iL a) (iL b)) = true
    have := alike_pT a b
    rw [show alikeAll (iL a) (iL b) = true from this]; rfl
theorem alikeAll_pT (l : List (List Int)) : AlikeAll (l.map pT) := by
  refine ⟨fun x hx y hy => ?_, fun x hx => ?_⟩
  · obtain ⟨a, _, rfl⟩ := List.mem_map.mp hx
    obtain ⟨b, _, rfl⟩ := List.mem_map.mp hy
    exact alike_pT a b
  · obtain ⟨a, _, rfl⟩ := List.mem_map.mp hx
    intro h; cases h
theorem depth_pT (l : List (List Int)) : PyData.depthAll (l.map pT) ≤ 8 := (shpA (n := 8) fun x hx => by
    obtain ⟨z, _, rfl⟩ := List.mem_map.mp hx
    exact (shp_pT (n := 0) z).mono (by decide)).2
end
/-! ### the largest sets -/
def strt (row : List Int) : Int := match row.getLast? with
  | some l => l + 1
  | none => 1
def exts (n : Int) (row : List Int) : List (List Int) := ((rng (strt row) n).map fun o => row ++ [o]).filter (free n)
def nextL (n : Int) (level : List (List Int)) : List (List Int) := level.flatMap (exts n)
def lv (n : Int) : Nat → List (List Int)
  | 0 => [[]]
  | k + 1 => nextL n (lv n k)
def lawLv (n : Int) : Nat → List (List Int)
  | 0 => [[]]
  | k + 1 => lawLv n k ++ ((lawLv n k).filter fun row => free n (row ++ [(k : Int) + 1])).map fun row => row ++ [(k : Int) + 1]
/-- the last level that is not empty: its head -/
def mdK (n : Int) : Nat := ((List.range 9).find? fun k => (lv n (k + 1)).isEmpty).getD 0
def mostDiff (n : Int) : List Int := (lv n (mdK n)).headD []
def mdChk (n : Int) : Bool := ((List.range 10).all fun k => (lv n k).length ≤ 1000) && (lv n (mdK n + 1)).isEmpty && ((List.range (mdK n + 1)).all fun k => !(lv n k).isEmpty)
def maxLen (l : List (List Int)) : Int := l.foldl (fun m r => max m (r.length : Int)) 0
def lawChk (n : Int) : Bool :=
  let L := lawLv n (n.toNat - 1)
  let m := maxLen L
  (((List.range 10).all fun k => decide ((lawLv n k).length ≤ 1000)) && decide (m ∈ L.map fun r => (r.length : Int)) && (L.all fun r => decide ((r.length : Int) ≤ m))) &&
    match L.filter fun r => decide ((r.length : Int) = m) with
    | [] => false
    | x :: xs => decide ((xs.foldl (fun a y => if PySem.W.dataLt (pT y) (pT a) then y else a) x) = mostDiff n)
theorem mdAll : ([2, 3, 4, 5, 6, 7, 8, 9].all fun n => mdChk n) = true := by decide +kernel
theorem lawAll : ([2, 3, 4, 5, 6, 7, 8, 9].all fun n => lawChk n) = true := by decide +kernel
theorem mem29 {n : Int} (h2 : 2 ≤ n) (h9 : n ≤ 9) : n ∈ [(2 : Int), 3, 4, 5, 6, 7, 8, 9] := by
  have : n = 2 ∨ n = 3 ∨ n = 4 ∨ n = 5 ∨ n = 6 ∨ n = 7 ∨ n = 8 ∨ n = 9 := by omega
  rcases this with rfl | rfl | rfl | rfl | rfl | rfl | rfl | rfl <;> decide
theorem md_ok {n : Int} (h2 : 2 ≤ n) (h9 : n ≤ 9) : (∀ k, k < 10 → (lv n k).length ≤ 1000) ∧ lv n (mdK n + 1) = [] ∧ (∀ k, k ≤ mdK n → lv n k ≠ []) := by
  have := List.all_eq_true.mp mdAll n (mem29 h2 h9)
  unfold mdChk at this
  rw [Bool.and_eq_true, Bool.and_eq_true, List.all_eq_true, List.all_eq_true] at this
  obtain ⟨⟨a, b⟩, c⟩ := this
  refine ⟨fun k hk => of_decide_eq_true (a k (List.mem_range.mpr hk)), List.isEmpty_iff.mp b, fun k hk e => ?_⟩
  have := c k (List.mem_range.mpr (by omega))
  rw [e] at this
  cases this
theorem mdK_lt (n : Int) : mdK n < 9 := by
  unfold mdK
  cases h : (List.range 9).find? fun k => (lv n (k + 1)).isEmpty with
  | none => decide
  | some k => exact List.mem_range.mp (List.mem_of_find?_eq_some h)
/-- rows of a level -/
theorem lv_mem {n : Int} : ∀ {k : Nat} {row : List Int}, row ∈ lv n k → row.length = k ∧ ∀ x ∈ row, 1 ≤ x ∧ x < n
  | 0, row, h => by
    have e : row = [] := by simpa [lv] using h
    subst e
    exact ⟨rfl, fun x hx => by cases hx⟩
  | k + 1, row, h => by
    unfold lv nextL at h
    obtain ⟨r, hr, h⟩ := List.mem_flatMap.mp h
    obtain ⟨h, _⟩ := List.mem_filter.mp h
    obtain ⟨o, ho, rfl⟩ := List.mem_map.mp h
    obtain ⟨i1, i2⟩ := lv_mem hr
    have ho := mem_rng.mp ho
    have hs : 1 ≤ strt r := by
      unfold strt
      cases q : r.getLast? with
      | none => exact Int.le_refl _
      | some l =>
        obtain ⟨ys, rfl⟩ := List.getLast?_eq_some_iff.mp q
        have := (i2 l (List.mem_append_right _ (List.mem_singleton.mpr rfl))).1
        show 1 ≤ l + 1
        omega
    refine ⟨by rw [List.length_append, i1]; rfl, fun x hx => ?_⟩
    rcases List.mem_append.mp hx with hx | hx
    · exact i2 x hx
    · rw [List.mem_singleton] at hx; subst hx; omega
theorem strt_pos {n : Int} {k : Nat} {row : List Int} (h : row ∈ lv n k) : 1 ≤ strt row ∧ strt row ≤ max n 1 := by
  unfold strt
  cases q : row.getLast? with
  | none => exact ⟨Int.le_refl _, by show (1 : Int) ≤ max n 1; omega⟩
  | some l =>
    obtain ⟨ys, rfl⟩ := List.getLast?_eq_some_iff.mp q
    have := (lv_mem h).2 l (List.mem_append_right _ (List.mem_singleton.mpr rfl))
    show 1 ≤ l + 1 ∧ l + 1 ≤ max n 1
    omega
def RmostD : List PyData → Oc → Prop := fun ds o => ∃ v, ds = [v] ∧ o = if inR v 2 9 = true then .ok (pT (mostDiff (unI v))) else .er "InvalidHours"
def Rdifferent : List PyData → PyData → Prop := fun ds d => ∃ v, ds = [v] ∧ d = if inR v 2 9 = true then pT (mostDiff (unI v)) else .str "hours"
theorem nextL_take {n : Int} {l : List (List Int)} {i : Nat} {x : List Int} (h : l[i]? = some x) : nextL n (l.take (i + 1)) = nextL n (l.take i) ++ exts n x := by
  unfold nextL
  rw [take_succ' h, List.flatMap_append]
  simp
theorem nextL_le (n : Int) (l : List (List Int)) (i : Nat) : (nextL n (l.take i)).length ≤ (nextL n l).length := by
  have e : nextL n l = nextL n (l.take i) ++ nextL n (l.drop i) := by
    unfold nextL
    rw [← List.flatMap_append, List.take_append_drop]
  rw [e, List.length_append]
  omega
theorem lawLv_mem {n : Int} : ∀ {k : Nat} {row : List Int}, row ∈ lawLv n k → row.length ≤ k ∧ ∀ x ∈ row, 1 ≤ x ∧ x ≤ k
  | 0, row, h => by
    have e : row = [] := by simpa [lawLv] using h
    subst e
    exact ⟨Nat.le_refl _, fun x hx => by cases hx⟩
  | k + 1, row, h => by
    unfold lawLv at h
    rcases List.mem_append.mp h with h | h
    · obtain ⟨a, b⟩ := lawLv_mem h
      exact ⟨by omega, fun x hx => by have := b x hx; omega⟩
    · obtain ⟨r, hr, rfl⟩ := List.mem_map.mp h
      obtain ⟨a, b⟩ := lawLv_mem (List.mem_filter.mp hr).1
      refine ⟨by rw [List.length_append]; show r.length + 1 ≤ k + 1; omega, fun x hx => ?_⟩
      rcases List.mem_append.mp hx with hx | hx
      · have := b x hx; omega
      · rw [List.mem_singleton] at hx; subst hx; omega
end CS

set_option maxRecDepth 100000
set_option maxHeartbeats 4000000
namespace CS
open PySem PySem.Spec PyProof.Rows L2
/-! ### all free rows in ascending order -/
def strt0 (row : List Int) : Int := match row.getLast? with
  | some l => l
  | none => 1
def exts0 (n : Int) (row : List Int) : List (List Int) := ((rng (strt0 row) n).map fun o => row ++ [o]).filter (free n)
def nextF (n : Int) (level : List (List Int)) : List (List Int) := level.flatMap (exts0 n)
def fr (n : Int) : Nat → List (List Int)
  | 0 => [[]]
  | k + 1 => nextF n (fr n k)
theorem nextF_take {n : Int} {l : List (List Int)} {i : Nat} {x : List Int} (h : l[i]? = some x) : nextF n (l.take (i + 1)) = nextF n (l.take i) ++ exts0 n x := by
  unfold nextF
  rw [take_succ' h, List.flatMap_append]
  simp
theorem nextF_le (n : Int) (l : List (List Int)) (i : Nat) : (nextF n (l.take i)).length ≤ (nextF n l).length := by
  have e : nextF n l = nextF n (l.take i) ++ nextF n (l.drop i) := by
    unfold nextF
    rw [← List.flatMap_append, List.take_append_drop]
  rw [e, List.length_append]
  omega
theorem fr_mem {n : Int} : ∀ {k : Nat} {row : List Int}, row ∈ fr n k → row.length = k ∧ (∀ x ∈ row, 1 ≤ x ∧ x < n) ∧ (1 ≤ k → free n row = true)
  | 0, row, h => by
    have e : row = [] := by simpa [fr] using h
    subst e
    exact ⟨rfl, fun x hx => (by cases hx), fun h => by omega⟩
  | k + 1, row, h => by
    unfold fr nextF at h
    obtain ⟨r, hr, h⟩ := List.mem_flatMap.mp h
    obtain ⟨h, hf⟩ := List.mem_filter.mp h
    obtain ⟨o, ho, rfl⟩ := List.mem_map.mp h
    obtain ⟨i1, i2, _⟩ := fr_mem hr
    have ho := mem_rng.mp ho
    have hs : 1 ≤ strt0 r := by
      unfold strt0
      cases q : r.getLast? with
      | none => exact Int.le_refl _
      | some l =>
        obtain ⟨ys, rfl⟩ := List.getLast?_eq_some_iff.mp q
        exact (i2 l (List.mem_append_right _ (List.mem_singleton.mpr rfl))).1
    refine ⟨by rw [List.length_append, i1]; rfl, fun x hx => ?_, fun _ => hf⟩
    rcases List.mem_append.mp hx with hx | hx
    · exact i2 x hx
    · rw [List.mem_singleton] at hx; subst hx; omega
theorem strt0_pos {n : Int} {k : Nat} {row : List Int} (h : row ∈ fr n k) : 1 ≤ strt0 row ∧ strt0 row ≤ max n 1 := by
  unfold strt0
  cases q : row.getLast? with
  | none => exact ⟨Int.le_refl _, by show (1 : Int) ≤ max n 1; omega⟩
  | some l =>
    obtain ⟨ys, rfl⟩ := List.getLast?_eq_some_iff.mp q
    have := (fr_mem h).2.1 l (List.mem_append_right _ (List.mem_singleton.mpr rfl))
    show 1 ≤ l ∧ l ≤ max n 1
    omega
/-! ### partings -/
def prt : Nat → Int → Int → Int
  | 0, t, _ => if t = 0 then 1 else 0
  | m + 1, t, most => ((rng 1 ((if most < t then most else t) + 1)).map fun o => prt m (t - o) o).sum
def cnt (n : Int) (L : Nat) : Int := ((unitsOf n).length : Int) * ((rng L n).map fun t => prt L t t).sum
def frChk (n : Int) : Bool := (List.range 9).all fun L => decide ((fr n L).length ≤ 1000) && (!decide (n ≤ L) || (fr n L).isEmpty) && (!decide (n < 2 * (L : Int)) || decide (((fr n L).length : Int) = cnt n L))
theorem frAll : ([2, 3, 4, 5, 6, 7, 8, 9].all fun n => frChk n) = true := by decide +kernel
theorem fr_ok {n : Int} (h2 : 2 ≤ n) (h9 : n ≤ 9) {L : Nat} (hL : L < 9) : (fr n L).length ≤ 1000 ∧ (n ≤ L → fr n L = []) ∧ (n < 2 * (L : Int) → ((fr n L).length : Int) = cnt n L) := by
  have := List.all_eq_true.mp frAll n (mem29 h2 h9)
  unfold frChk at this
  have := List.all_eq_true.mp this L (List.mem_range.mpr hL)
  rw [Bool.and_eq_true, Bool.and_eq_true] at this
  obtain ⟨⟨a, b⟩, c⟩ := this
  refine ⟨of_decide_eq_true a, fun h => ?_, fun h => ?_⟩
  · rw [decide_eq_true h] at b
    exact List.isEmpty_iff.mp b
  · rw [decide_eq_true h] at c
    exact of_decide_eq_true c
/-! ### specs -/
def ckSmall (h l : PyData) : Oc := if inR h 2 9 = true then (if inR l 0 8 = true then .ok .none else .er "InvalidNumber") else .er "InvalidHours"
def RckSmall : List PyData → Oc → Prop := fun ds o => ∃ h l, ds = [h, l] ∧ o = ckSmall h l
def RfreeRows : List PyData → PyData → Prop := fun ds d => ∃ (n : Int) (L : Nat), 2 ≤ n ∧ n ≤ 9 ∧ L < 9 ∧ ds = [.int n, .int L] ∧ d = lT (fr n L)
def allFreeOc (h l : PyData) : Oc := if inR h 2 9 = true then (if inR l 0 8 = true then .ok (lT (fr (unI h) (unI l).toNat)) else .er "InvalidNumber") else .er "InvalidHours"
def RallFree : List PyData → Oc → Prop := fun ds o => ∃ h l, ds = [h, l] ∧ o = allFreeOc h l
def Rprt (M : Nat) : List PyData → PyData → Prop := fun ds d => ∃ (t : Int) (m : Nat) (most : Int), m ≤ M ∧ 0 ≤ t ∧ t ≤ 20 ∧ 0 ≤ most ∧ most ≤ 20 ∧ ds = [.int t, .int m, .int most] ∧ d = .int (prt m t most)
def cntOc (h l : PyData) : Oc := if inR h 2 12 = true then (if inR l (unI h / 2 + 1) 11 = true then .ok (.int (cnt (unI h) (unI l).toNat)) else .er "InvalidNumber") else .er "InvalidHours"
def Rcnt : List PyData → Oc → Prop := fun ds o => ∃ h l, ds = [h, l] ∧ o = cntOc h l
def ocD (f : Str → Str) : Oc → PyData
  | .ok d => d
  | .er x => .str (f x)
def nmL (x : Str) : Str := if x = "InvalidHours" then "hours" else "number"
def Rlisted : List PyData → PyData → Prop := fun ds d => ∃ (mode : Int) (h l : PyData), ds = [.int mode, h, l] ∧ d = ocD nmL (if mode = 0 then allFreeOc h l else cntOc h l)
def hasC (a b : Int) : Bool := !apart a b
def RhasC : List PyData → PyData → Prop := fun ds d => ∃ a b : Int, 1 ≤ a ∧ a ≤ 100 ∧ 1 ≤ b ∧ b ≤ 100 ∧ ds = [.int a, .int b] ∧ d = .bool (hasC a b)
end CS

set_option maxRecDepth 100000
set_option maxHeartbeats 4000000
namespace CS
open PySem PySem.Spec PyProof.Rows L2
/-! ### texts -/
abbrev sT (i : Int) : Str := Str.ofString (toString i)
theorem sT_len {i : Int} (h0 : 0 ≤ i) (h : i < 100) : (sT i).length ≤ 2 := toString_length_le (k := 2) h0 (by decide) (by omega)
theorem log_small {i : Int} (h0 : 0 ≤ i) (h : i < 1000) : i.natAbs.log2 < 1920 := by
  have h1 : i.natAbs < 2 ^ 10 := by omega
  have h2 : i.natAbs.log2 < 10 := by
    by_cases hz : i.natAbs = 0
    · rw [hz]; decide
    · exact (Nat.log2_lt hz).mpr h1
  omega
theorem dpa_strs {K : PySem.W.Frag} {H : Hp} : ∀ {ys : List Str} {vs : List V}, DpAll K H vs (ys.map PyData.str) → vs = ys.map V.str
  | [], _, h => by cases h; rfl
  | y :: ys, _, h => by
    cases h with
    | cons h1 h2 => rw [dp_str_inv h1, dpa_strs h2]; rfl
section
variable {c : Cfg} {Γ : Gm} {e a b : Expr} {pos p p2 apos : Pos} {i : Int} {x y : Str}
theorem ev_strI (ha : Ev c Γ e (.int i)) (hi : i.natAbs.log2 < 1920) (hm : c.mg "str" = none) (hg : glB c.sc "str" = true) (he : ∀ env, starEach [e] env = [(false, eval e env)] := by intro _; rfl) : Ev c Γ (.Call (.Name "str" p) [e] [] pos) (.str (sT i)) :=
  ev_bty hm boot_str' (ea_cons ha ea_nil he) (fun X cf => ⟨_, call_str_int, fun vs W Q h q => by
    obtain ⟨v, rfl, h1⟩ := dpa1 h
    cases dp_int_inv h1
    exact ⟨i, rfl, hi, q _ W Wx.refl (.str _)⟩⟩) hg (he := he)
theorem ev_strS (ha : Ev c Γ e (.str x)) (hm : c.mg "str" = none) (hg : glB c.sc "str" = true) (he : ∀ env, starEach [e] env = [(false, eval e env)] := by intro _; rfl) : Ev c Γ (.Call (.Name "str" p) [e] [] pos) (.str x) :=
  ev_bty hm boot_str' (ea_cons ha ea_nil he) (fun X cf => ⟨_, SkE.call_str_str, fun vs W Q h q => by
    obtain ⟨v, rfl, h1⟩ := dpa1 h
    cases dp_str_inv h1
    exact ⟨x, rfl, q _ W Wx.refl (.str _)⟩⟩) hg (he := he)
theorem ev_fmtI (ha : Ev c Γ e (.int i)) (hi : i.natAbs.log2 < 1920) : Ev c Γ (.FormattedValue e (-1) none pos) (.str (sT i)) := fun X cf σ W Q s q => by
  refine wE_of (pe_fmt pe_w) ?_
  refine ha X cf σ W _ s fun v W1 e1 r1 => ?_
  cases dp_int_inv r1
  exact .inr ⟨i, rfl, hi, q _ W1 e1 (.str _)⟩
theorem ev_joined2 (ha : Ev c Γ a (.str x)) (hb : Ev c Γ b (.str y)) (hx : (Str.empty ++ x).length ≤ 100000) (hy : (Str.empty ++ x ++ y).length ≤ 100000) : Ev c Γ (.JoinedStr [a, b] pos) (.str (Str.empty ++ x ++ y)) := fun X cf σ W Q s q => by
  refine wE_of (pe_joined (.cons pe_w (.cons pe_w .nil))) ?_
  refine ha X cf σ W _ s fun v W1 e1 r1 => ⟨x, dp_str_inv r1, Nat.le_trans hx (by decide), ?_⟩
  refine hb X cf σ W1 _ (s.ex e1.s) fun u W2 e2 r2 => ⟨y, dp_str_inv r2, Nat.le_trans hy (by decide), ?_⟩
  exact q _ W2 (e1.trans e2) (.str _)
theorem ev_joinL {ys : List Str} (ha : Ev c Γ a (.str x)) (hb : Ev c Γ b (.list (ys.map PyData.str))) (hz : (ys.map (·.length)).sum + ys.length * x.length ≤ 16777216)
    (hs : ∀ env, starEach [b] env = [(false, eval b env)] := by intro _; rfl) (hbase : ∀ env, attributeBase a "join" env (eval a env) = eval a env := by intro _; rfl) (hline : (apos.endLine == pos.line) = true := by rfl) :
    Ev c Γ (.Call (.Attribute a "join" apos) [b] [] pos) (.str (Txt.join x ys)) := fun X cf σ W Q s q => by
  refine wE_of (pe_join pe_w pe_w (hs _) (hbase _) hline) ?_
  refine ha X cf σ W _ s fun v W1 e1 r1 => ⟨⟨x, dp_str_inv r1⟩, ?_⟩
  refine hb X cf σ W1 _ (s.ex e1.s) fun u W2 e2 r2 => ?_
  obtain ⟨l, vs, rfl, h1, h2⟩ := dp_list_inv r2
  rw [dpa_strs h2] at h1
  exact ⟨x, l, ys, dp_str_inv r1, rfl, .inl (W2.sl h1), hz, q _ W2 (e1.trans e2) (.str _)⟩
end
def txtOf (n : Int) (row : List Int) : Str := Txt.join " " ((Str.empty ++ sT n ++ ":") :: row.map sT)
def RtextOf : List PyData → PyData → Prop := fun ds d => ∃ (n : Int) (row : List Int), 0 ≤ n ∧ n < 100 ∧ row.length ≤ 50 ∧ (∀ x ∈ row, 0 ≤ x ∧ x < 100) ∧ ds = [.int n, pT row] ∧ d = .str (txtOf n row)
def fmtOc (n : Int) (row : List Int) : Oc := .ok (.str (txtOf n row))
theorem sum_lens {k : Nat} : ∀ {ys : List Str}, (∀ y ∈ ys, y.length ≤ k) → (ys.map (·.length)).sum ≤ ys.length * k
  | [], _ => Nat.zero_le _
  | y :: ys, h => by
    have h1 := h y List.mem_cons_self
    have h2 := sum_lens (k := k) fun z hz => h z (List.mem_cons_of_mem _ hz)
    rw [List.map_cons, List.sum_cons, List.length_cons, Nat.add_mul]
    omega
theorem str_app_len (x y : Str) : (x ++ y).length = x.length + y.length := by
  show (x.cps ++ y.cps).size = x.cps.size + y.cps.size
  exact Array.size_append
/-! ### data of a shape -/
structure Gd (v : PyData) : Prop where
  sh : Shp 4 v
  len : ∀ xs, v = .tuple xs → xs.length ≤ 40 ∧ ∀ x ∈ xs, Shp 3 x
theorem gdT {xs : List PyData} (h : xs.length ≤ 40) (hs : ∀ x ∈ xs, Shp 3 x) : Gd (.tuple xs) := ⟨shp_tup hs, fun ys e => by cases e; exact ⟨h, hs⟩⟩
theorem eqv_nT (xs : List PyData) : PyData.eqv (.tuple xs) (.tuple []) = xs.isEmpty := by cases xs <;> rfl
theorem eqv_nL (xs : List PyData) : PyData.eqv (.list xs) (.list []) = xs.isEmpty := by cases xs <;> rfl
def RlawIsRow : List PyData → PyData → Prop := fun ds d => ∃ n v, 2 ≤ n ∧ n ≤ 12 ∧ Gd v ∧ ds = [.int n, v] ∧ d = .bool (isRowD n v)
def isRowOc (h v : PyData) : Oc := if inR h 2 12 = true then .ok (.bool (isRowD (unI h) v)) else .er "InvalidHours"
def RisRow : List PyData → Oc → Prop := fun ds o => ∃ h v, ds = [h, v] ∧ o = isRowOc h v
def errS (h r : PyData) : Str := match ckRow h r with
  | .ok _ => "none"
  | .er x => if x = "InvalidHours" then "hours" else "row"
def RlawErr : List PyData → PyData → Prop := fun ds d => ∃ (mode : Int) (h r : PyData), ds = [.int mode, h, r] ∧ d = .str (errS h r)
theorem fewest_ex (n : Int) (row : List Int) : ∃ gd, fewest n row = some gd := by
  obtain ⟨g', hg'⟩ := fewest_some n row
  unfold fewest
  have e : partsTo row.length (row.length + 1) = partsTo row.length row.length ++ parts row.length row.length := rfl
  rw [e, List.find?_append, hg']
  cases (partsTo row.length row.length).find? (fun g => free n (wo row g)) with
  | none => exact ⟨_, rfl⟩
  | some z => exact ⟨_, rfl⟩
end CS

set_option maxRecDepth 100000
set_option maxHeartbeats 4000000
namespace CS
open PySem PySem.Spec PyProof.Rows L2
/-! ### methods of tuples -/
section
variable {X : Cx}
/-- o.name(e), o a tuple with no dict -/
def tTM (r : V → List V → Hp → VK → Prop) (to te : TE) : TE := fun σ H Q => to σ H fun x H1 => (∃ a xs, x = .ref a ∧ PlT H1 a xs) ∧ te σ H1 fun y H2 => r x [y] H2 Q
theorem pe_tm {o e : Expr} {to te : TE} {id : String} {name : Str} {apos pos : Pos} {r : V → List V → Hp → VK → Prop} (slot : Slot "tuple" name id) (ty : typeOf (.builtin id) = pure (.type "method_descriptor")) (rule : MtR X id r) (ho : PE X o to) (he : PE X e te)
    (hs : starEach [e] X.env = [(false, eval e X.env)] := by rfl) (hbase : attributeBase o name X.env (eval o X.env) = eval o X.env := by rfl) (hline : (apos.endLine == pos.line) = true := by rfl) :
    PE X (.Call (.Attribute o name apos) [e] [] pos) (tTM r to te) := by
  refine ⟨fun pins s σ H Q I h => ?_⟩
  refine PySem.Call_method1 hbase hs hline (thn (ho.run pins s σ H _ I h) fun v t ⟨x, G, J, rx, q⟩ => ?_)
  obtain ⟨⟨a, xs, rfl, ob, hd, hg⟩, q⟩ := q
  cases rx
  obtain ⟨g1, _, its, _, hT⟩ := J.hok a _ hg
  refine ⟨"tuple", _, F.plainAttrs_tuple, slot, ty, IsTup.typeIs hT, (fun b e => by cases e; exact ⟨ob, g1, hd⟩), Calls.callWith_builtin rfl (Calls.evalArgs_plain (Calls.spliced_cons ?_))⟩
  exact thn (he.run pins t σ G _ J q) fun u s2 ⟨y, G2, J2, r2, q2⟩ => Calls.spliced_nil (rule pins s2 σ G2 (.ref a) [y] _ [u] Q J2 rfl (.cons r2 .nil) q2)
theorem mt_tcount : MtR X "tuple.count" (fun x xs H Q => ∃ (p : Addr) (ns : List Int) (k : Int), x = .ref p ∧ xs = [.int k] ∧ SqT X.K H p (ns.map V.int) ∧ Q (.int (ns.count k : Nat)) H) := by
  intro pins s σ H x xs v us Q I rx rxs h
  obtain ⟨p, ns, k, rfl, rfl, hs, q⟩ := h
  cases rx
  obtain ⟨u, rfl, ru⟩ := rxs.one
  obtain ⟨t, rfl⟩ := ru
  obtain ⟨its, rv, ⟨⟨cls, dd, data, sl⟩, ho, hc, n, hd⟩, hlen⟩ := I.tuple hs
  simp only at hc hd
  subst hc hd
  have hi := ints_of_vals rv
  refine call_meets F.slot_tuple_count ⟨_, ho, rfl⟩ F.entry_tuple_count (F.args_tuple_count_2 _ _) (SeqAt.tuple_countAt p its.toArray n dd sl (.int k t) (eqk k)) ⟨ho, fun y hy => (eqk_gives hi y (by simpa using hy)).at _ _, ?_⟩
  refine ⟨.int (ns.count k : Nat), H, I.tok _, ⟨s.toks, ?_⟩, q⟩
  rw [show its.toArray.toList.countP (eqk k) = ns.count k from eqk_count hi]
end
section
variable {c : Cfg} {Γ : Gm} {a b : Expr} {pos apos : Pos} {ns : List Int} {k : Int}
theorem dp_pT_plain {K : PySem.W.Frag} {H : Hp} {v : V} (h : Dp K H v (pT ns)) : ∃ a, v = .ref a ∧ PlT H a (ns.map V.int) := by
  cases h with
  | tup h t => rw [dpa_ints t] at h; exact ⟨_, rfl, h⟩
theorem ev_countT (ha : Ev c Γ a (pT ns)) (hb : Ev c Γ b (.int k)) (hs : ∀ env, starEach [b] env = [(false, eval b env)] := by intro _; rfl) (hbase : ∀ env, attributeBase a "count" env (eval a env) = eval a env := by intro _; rfl) (hline : (apos.endLine == pos.line) = true := by rfl) :
    Ev c Γ (.Call (.Attribute a "count" apos) [b] [] pos) (.int (ns.count k : Nat)) := fun X cf σ W Q s q => by
  refine wE_of (pe_tm F.slot_tuple_count F.type_tuple_count mt_tcount pe_w pe_w (hs _) (hbase _) hline) ?_
  refine ha X cf σ W _ s fun v W1 e1 r1 => ?_
  obtain ⟨t, rfl, h1⟩ := dp_pT_plain r1
  refine ⟨⟨t, _, rfl, h1.ex W1.sub⟩, ?_⟩
  refine hb X cf σ W1 _ (s.ex e1.s) fun u W2 e2 r2 => ?_
  cases dp_int_inv r2
  exact ⟨t, ns, k, rfl, rfl, ((h1.ex e2.s).ex W2.sub).st, q _ W2 (e1.trans e2) (.int _)⟩
theorem ev_countL (ha : Ev c Γ a (pL ns)) (hb : Ev c Γ b (.int k)) (hs : ∀ env, starEach [b] env = [(false, eval b env)] := by intro _; rfl) (hbase : ∀ env, attributeBase a "count" env (eval a env) = eval a env := by intro _; rfl) (hline : (apos.endLine == pos.line) = true := by rfl)
    (hfew : ∀ env, ((backTo pos (starEach [b] env)).all (fun x => !x.1) && (backToKw pos (keywordEach [] env)).all (fun x => x.1.isSome) && decide ([b].length + ([] : List Keyword).length + (if ([] : List Keyword).isEmpty then 0 else 1) < 30)) = true := by intro _; rfl) :
    Ev c Γ (.Call (.Attribute a "count" apos) [b] [] pos) (.int (ns.count k : Nat)) := fun X cf σ W Q s q => by
  refine wE_of (pe_bm F.plainAttrs_list F.slot_list_count F.type_list_count mt_lcount pe_w (pa_cons pe_w pa_nil (hs _)) (hbase _) (hfew _) hline (hs _) rfl) ?_
  refine ha X cf σ W _ s fun v W1 e1 r1 => ?_
  obtain ⟨t, rfl, h1⟩ := dp_pL_inv r1
  refine ⟨.inl ⟨rfl, _, W1.sl h1⟩, ?_⟩
  refine hb X cf σ W1 _ (s.ex e1.s) fun u W2 e2 r2 => ?_
  cases dp_int_inv r2
  exact ⟨t, ns, k, rfl, rfl, W2.sl (sl_ex e2.s h1), q _ W2 (e1.trans e2) (.int _)⟩
end
/-! ### how often the unit occurs -/
theorem ones_ge : ∀ {l : List Int}, (∀ x ∈ l, 1 ≤ x) → 2 * (l.length : Int) - l.sum ≤ (l.count 1 : Int)
  | [], _ => by decide
  | x :: r, h => by
    have ih := ones_ge (l := r) fun y hy => h y (List.mem_cons_of_mem _ hy)
    have hx := h x List.mem_cons_self
    rw [List.length_cons, List.sum_cons, List.count_cons]
    by_cases e : x = 1
    · subst e
      rw [if_pos (by simp)]; omega
    · rw [if_neg (by simpa using e)]; omega
theorem count_scl {n m i : Int} (hn : 2 ≤ n) (hi : i * m % n = 1) (h1 : 1 ≤ i) (h2 : i < n) {row : List Int} (hr : Rem n row) : (scl n row m).count 1 = row.count i := by
  unfold scl
  induction row with
  | nil => rfl
  | cons x r ih =>
    rw [List.map_cons, List.count_cons, List.count_cons, ih fun y hy => hr y (List.mem_cons_of_mem _ hy)]
    congr 1
    have hx := hr x List.mem_cons_self
    have key : (x * m % n = 1) ↔ x = i := by
      constructor
      · intro e
        exact unit_cancel (i := i) (by rw [hi, Int.emod_eq_of_lt (by decide) (by omega)]) hx.1 hx.2 (by omega) h2 (by rw [e, hi])
      · rintro rfl; exact hi
    by_cases e : x = i
    · rw [if_pos (by simpa using key.mpr e), if_pos (by simpa using e)]
    · rw [if_neg (by simpa using fun z => e (key.mp z)), if_neg (by simpa using e)]
end CS

set_option maxRecDepth 100000
set_option maxHeartbeats 4000000
namespace CS
open PySem PySem.Spec PyProof.Rows L2
theorem EvW.cast {c : Cfg} {Γ : Gm} {e : Expr} {b b' : Bool} (h : EvW c Γ e b) (q : b = b') : EvW c Γ e b' := q ▸ h
/-! ### answers and candidates -/
def okAns (n : Int) : PyData → Bool
  | .tuple [x, y] => inR x 1 (n - 1) && inR y 0 8
  | _ => false
def ckAns (h l a : PyData) : Oc := match ckSmall h l with
  | .er x => .er x
  | .ok _ => match a with
    | .tuple xs => if xs.all (okAns (unI h)) = true then .ok .none else .er "InvalidAnswers"
    | _ => .er "InvalidAnswers"
def RckAns : List PyData → Oc → Prop := fun ds o => ∃ h l a, (∀ xs, a = .tuple xs → xs.length ≤ 100) ∧ ds = [h, l, a] ∧ o = ckAns h l a
/-- the rows that agree with all answers -/
def agree (ans : List (Int × Int)) (row : List Int) : Bool := (ans.filter fun p => !decide ((row.count p.1 : Int) = p.2)).isEmpty
def cands (n : Int) (L : Nat) (ans : List (Int × Int)) : List (List Int) := (fr n L).filter (agree ans)
abbrev pP (p : Int × Int) : PyData := .tuple [.int p.1, .int p.2]
def unP : PyData → Int × Int
  | .tuple [.int x, .int y] => (x, y)
  | _ => (0, 0)
def ansOf : PyData → List (Int × Int)
  | .tuple xs => xs.map unP
  | _ => []
def candOc (h l a : PyData) : Oc := match ckAns h l a with
  | .er x => .er x
  | .ok _ => .ok (lT (cands (unI h) (unI l).toNat (ansOf a)))
def Rcand : List PyData → Oc → Prop := fun ds o => ∃ h l a, (∀ xs, a = .tuple xs → xs.length ≤ 100) ∧ ds = [h, l, a] ∧ o = candOc h l a
/-- answers that are well made -/
theorem ckAns_cases (h l a : PyData) : (∃ (n : Int) (L : Nat) (ans : List (Int × Int)), h = .int n ∧ 2 ≤ n ∧ n ≤ 9 ∧ l = .int L ∧ L < 9 ∧ a = .tuple (ans.map pP) ∧ (∀ p ∈ ans, 1 ≤ p.1 ∧ p.1 < n ∧ 0 ≤ p.2 ∧ p.2 ≤ 8) ∧ ckAns h l a = .ok .none) ∨ ∃ x, ckAns h l a = .er x ∧ (x = "InvalidHours" ∨ x = "InvalidNumber" ∨ x = "InvalidAnswers") := by
  unfold ckAns
  cases hs : ckSmall h l with
  | er x =>
    refine .inr ⟨x, rfl, ?_⟩
    unfold ckSmall at hs
    split at hs
    · split at hs
      · cases hs
      · cases hs; exact .inr (.inl rfl)
    · cases hs; exact .inl rfl
  | ok d =>
    unfold ckSmall at hs
    split at hs
    · rename_i h1
      split at hs
      · rename_i h2
        obtain ⟨n, rfl, n2, n9⟩ := inR_int h1
        obtain ⟨L, rfl, l0, l8⟩ := inR_int h2
        cases a with
        | tuple xs =>
          show (∃ _, _) ∨ ∃ x, (if xs.all (okAns n) = true then Oc.ok .none else .er "InvalidAnswers") = .er x ∧ _
          by_cases hx : xs.all (okAns n) = true
          · left
            have key : ∀ xs : List PyData, xs.all (okAns n) = true → xs = (xs.map unP).map pP ∧ ∀ p ∈ xs.map unP, 1 ≤ p.1 ∧ p.1 < n ∧ 0 ≤ p.2 ∧ p.2 ≤ 8 := by
              intro xs
              induction xs with
              | nil => intro _; exact ⟨rfl, fun p hp => by cases hp⟩
              | cons x r ih =>
                intro h
                rw [List.all_cons, Bool.and_eq_true] at h
                obtain ⟨i1, i2⟩ := ih h.2
                have hx := h.1
                unfold okAns at hx
                split at hx
                · rename_i y z
                  rw [Bool.and_eq_true] at hx
                  obtain ⟨y', rfl, y1, y2⟩ := inR_int hx.1
                  obtain ⟨z', rfl, z1, z2⟩ := inR_int hx.2
                  refine ⟨congrArg (PyData.tuple [.int y', .int z'] :: ·) i1, fun p hp => ?_⟩
                  rcases List.mem_cons.mp hp with rfl | hp
                  · show 1 ≤ y' ∧ y' < n ∧ 0 ≤ z' ∧ z' ≤ 8
                    omega
                  · exact i2 p hp
                · cases hx
            obtain ⟨k1, k2⟩ := key xs hx
            refine ⟨n, L.toNat, xs.map unP, rfl, n2, n9, by rw [Int.toNat_of_nonneg l0], by omega, congrArg PyData.tuple k1, k2, ?_⟩
            show (if xs.all (okAns n) = true then Oc.ok .none else .er "InvalidAnswers") = _
            rw [if_pos hx]
          · exact .inr ⟨_, by rw [if_neg hx], .inr (.inr rfl)⟩
        | _ => exact .inr ⟨_, rfl, .inr (.inr rfl)⟩
      · cases hs
    · cases hs
theorem ansOf_pP (ans : List (Int × Int)) : ansOf (.tuple (ans.map pP)) = ans := by
  show (ans.map pP).map unP = ans
  rw [List.map_map]
  exact List.map_id' ans
/-- a comprehension over pairs of ints -/
theorem el_lcP {c : Cfg} {Γ : Gm} {iter elt : Expr} {ifs : List Expr} {tp p1 p2 pos : Pos} {kk : Nat} {x y : Str} {scope : Scope} (i j : Nat) (hN : c.N[i]? = some x) (hM : c.N[j]? = some y) {l : List (Int × Int)} {q : Int × Int → Bool} {f : Int × Int → PyData} (hi : EvI0 c Γ (.Tuple [.Name x p1, .Name y p2] kk tp) iter (l.map pP)) (hl : l.length ≤ 100000) (hb : blkC c.N c.sc scope [(x, i), (y, j)] = true) (ho : ownB scope x = true) (ho2 : ownB scope y = true)
    (ht : ∀ z ∈ l, EvTs (c.blk scope) (((wipeG Γ [i, j]).set i (some (.int z.1))).set j (some (.int z.2))) ifs (q z)) (he : ∀ z ∈ l, q z = true → Ev (c.blk scope) (((wipeG Γ [i, j]).set i (some (.int z.1))).set j (some (.int z.2))) elt (f z))
    (hs : ∀ env x, foldedSetIterable iter env x = pure x := by intro _ _; rfl) : EvL c Γ (.ListComp elt [⟨.Tuple [.Name x p1, .Name y p2] kk tp, iter, ifs, 0⟩] scope pos) ((l.filter q).map f) := by
  have key := el_lc (own := [(x, i), (y, j)]) (P := q ∘ unP) (f := f ∘ unP) (bind := fun d => ((wipeG Γ [i, j]).set i (some (.int (unP d).1))).set j (some (.int (unP d).2))) (pos := pos) (scope := scope) (ifs := ifs) (elt := elt) hi.i (by rw [List.length_map]; exact hl) hb (fun d hd => by
    obtain ⟨z, hz, rfl⟩ := List.mem_map.mp hd
    exact tgB2 i j hN hM (List.mem_cons_self) (List.mem_cons_of_mem _ List.mem_cons_self) ho ho2) (fun d hd => by
    obtain ⟨z, hz, rfl⟩ := List.mem_map.mp hd
    exact ht z hz) (fun d hd hq => by
    obtain ⟨z, hz, rfl⟩ := List.mem_map.mp hd
    exact he z hz hq) hs
  refine key.cast ?_
  rw [List.filter_map, List.map_map]
  rfl
end CS

set_option maxRecDepth 100000
set_option maxHeartbeats 4000000
namespace CS
open PySem PySem.Spec PyProof.Rows L2
/-! ### the best remainder -/
def mxL (l : List Int) : Int := l.foldl max 0
theorem mxF_le : ∀ {l : List Int} {a : Int}, a ≤ l.foldl max a ∧ ∀ y ∈ l, y ≤ l.foldl max a
  | [], a => ⟨Int.le_refl _, fun y h => by cases h⟩
  | x :: r, a => by
    obtain ⟨h1, h2⟩ := mxF_le (l := r) (a := max a x)
    refine ⟨?_, fun y hy => ?_⟩
    · show a ≤ r.foldl max (max a x)
      omega
    · show y ≤ r.foldl max (max a x)
      rcases List.mem_cons.mp hy with rfl | hy
      · omega
      · exact h2 y hy
theorem mxF_mem : ∀ {l : List Int} {a : Int}, l.foldl max a = a ∨ l.foldl max a ∈ l
  | [], a => .inl rfl
  | x :: r, a => by
    show r.foldl max (max a x) = a ∨ r.foldl max (max a x) ∈ x :: r
    rcases mxF_mem (l := r) (a := max a x) with h | h
    · rw [h]
      by_cases hx : a ≤ x
      · rw [show max a x = x by omega]; exact .inr List.mem_cons_self
      · exact .inl (by omega)
    · exact .inr (List.mem_cons_of_mem _ h)
/-- how many are left at worst -/
def wst (here : List Int) : Int := mxL ((rng 0 9).map fun t => (here.count t : Int))
theorem wst_all (here : List Int) : wst here ∈ (rng 0 9).map (fun t => (here.count t : Int)) ∧ ∀ y ∈ (rng 0 9).map (fun t => (here.count t : Int)), y ≤ wst here := by
  have h2 := (mxF_le (l := (rng 0 9).map fun t => (here.count t : Int)) (a := 0)).2
  refine ⟨?_, h2⟩
  rcases mxF_mem (l := (rng 0 9).map fun t => (here.count t : Int)) (a := 0) with h | h
  · have h0 : (here.count 0 : Int) ∈ (rng 0 9).map (fun t => (here.count t : Int)) := List.mem_map.mpr ⟨0, mem_rng.mpr ⟨by decide, by decide⟩, rfl⟩
    have := h2 _ h0
    have e : wst here = (here.count 0 : Int) := by
      show ((rng 0 9).map fun t => (here.count t : Int)).foldl max 0 = _
      omega
    rw [e]; exact h0
  · exact h
theorem wst_here {here : List Int} (hn : here ≠ []) (hb : ∀ z ∈ here, 0 ≤ z ∧ z < 9) : wst here ∈ here.map (fun t => (here.count t : Int)) ∧ ∀ y ∈ here.map (fun t => (here.count t : Int)), y ≤ wst here := by
  obtain ⟨h1, h2⟩ := wst_all here
  have h3 : ∀ y ∈ here.map (fun t => (here.count t : Int)), y ≤ wst here := fun y hy => by
    obtain ⟨t, ht, rfl⟩ := List.mem_map.mp hy
    exact h2 _ (List.mem_map.mpr ⟨t, mem_rng.mpr (hb t ht), rfl⟩)
  refine ⟨?_, h3⟩
  obtain ⟨t, ht, e⟩ := List.mem_map.mp h1
  obtain ⟨z, r, rfl⟩ := List.exists_cons_of_ne_nil hn
  have hz := h3 _ (List.mem_map.mpr ⟨z, List.mem_cons_self, rfl⟩)
  have hc : 1 ≤ (z :: r).count z := List.count_pos_iff.mpr List.mem_cons_self
  have ht2 : t ∈ z :: r := List.count_pos_iff.mp (by omega)
  exact List.mem_map.mpr ⟨t, ht2, e⟩
def hereOf (found : List (List Int)) (one : Int) : List Int := found.map fun r => (r.count one : Int)
def better (w : Int) : Option (Int × Int) → Bool
  | none => true
  | some p => decide (w < p.1)
def bestStep (found : List (List Int)) (b : Option (Int × Int)) (one : Int) : Option (Int × Int) :=
  if (decide (wst (hereOf found one) < found.length) && better (wst (hereOf found one)) b) = true then some (wst (hereOf found one), one) else b
def bestTo (found : List (List Int)) (l : List Int) : Option (Int × Int) := l.foldl (bestStep found) none
theorem bestTo_take {found : List (List Int)} {l : List Int} {i : Nat} {x : Int} (h : l[i]? = some x) : bestTo found (l.take (i + 1)) = bestStep found (bestTo found (l.take i)) x := by
  unfold bestTo
  rw [take_succ' h, List.foldl_append]; rfl
def bestD : Option (Int × Int) → PyData
  | none => .none
  | some p => pP p
def best2D : Option (Int × Int) → PyData
  | none => .none
  | some p => .int p.2
def bestOc (h l a : PyData) : Oc := match ckAns h l a with
  | .er x => .er x
  | .ok _ => if (cands (unI h) (unI l).toNat (ansOf a)).isEmpty = true then .er "InvalidAnswers" else .ok (best2D (bestTo (cands (unI h) (unI l).toNat (ansOf a)) (rng 1 (unI h))))
def Rbest : List PyData → Oc → Prop := fun ds o => ∃ h l a, (∀ xs, a = .tuple xs → xs.length ≤ 100) ∧ ds = [h, l, a] ∧ o = bestOc h l a
def nmA (x : Str) : Str := if x = "InvalidHours" then "hours" else if x = "InvalidNumber" then "number" else "answers"
def Rhidden : List PyData → PyData → Prop := fun ds d => ∃ (mode : Int) (h l a : PyData), (∀ xs, a = .tuple xs → xs.length ≤ 100) ∧ ds = [.int mode, h, l, a] ∧ d = ocD nmA (if mode = 0 then candOc h l a else bestOc h l a)
theorem cands_len {n : Int} {L : Nat} {ans : List (Int × Int)} (h2 : 2 ≤ n) (h9 : n ≤ 9) (hL : L < 9) : (cands n L ans).length ≤ 1000 := Nat.le_trans (List.length_filter_le _ _) (fr_ok h2 h9 hL).1
section
variable {c : Cfg} {Γ : Gm} {e : Expr} {p pos : Pos}
theorem ev_intB {k : Bool} (ha : Ev c Γ e (.bool k)) (hm : c.mg "int" = none) (hg : glB c.sc "int" = true) (he : ∀ env, starEach [e] env = [(false, eval e env)] := by intro _; rfl) : Ev c Γ (.Call (.Name "int" p) [e] [] pos) (.int (if k then 1 else 0)) :=
  ev_bty hm boot_int' (ea_cons ha ea_nil he) (fun X cf => ⟨_, call_int1, fun vs W Q h q => by
    obtain ⟨v, rfl, h1⟩ := dpa1 h
    cases dp_bool_inv h1
    exact .inr ⟨k, rfl, q _ W Wx.refl (.int _)⟩⟩) hg (he := he)
end
/-! ### the law's answers -/
def ansAt (D hid : List Int) (n : Int) (t : Nat) : Int × Int := (1 + dr D (3 + t) % (n - 1), (hid.count (1 + dr D (3 + t) % (n - 1)) : Int) + (if decide (dr D (20 + t) % 7 = 0) = true then 1 else 0))
def ansTo (D hid : List Int) (n : Int) (k : Nat) : List (Int × Int) := (List.range k).map (ansAt D hid n)
theorem ansTo_succ (D hid : List Int) (n : Int) (k : Nat) : ansTo D hid n (k + 1) = ansTo D hid n k ++ [ansAt D hid n k] := by
  unfold ansTo
  rw [List.range_succ, List.map_append]; rfl
theorem ansTo_ok {D hid : List Int} {n : Int} {k : Nat} (h2 : 2 ≤ n) (hh : hid.length ≤ 7) : (ansTo D hid n k).length = k ∧ ∀ p ∈ ansTo D hid n k, 1 ≤ p.1 ∧ p.1 < n ∧ 0 ≤ p.2 ∧ p.2 ≤ 8 := by
  refine ⟨by unfold ansTo; rw [List.length_map, List.length_range], fun p hp => ?_⟩
  obtain ⟨t, _, rfl⟩ := List.mem_map.mp hp
  have h1 := emod_rem (n := n - 1) (by omega) (dr D (3 + t))
  have h3 := List.count_le_length (l := hid) (a := 1 + dr D (3 + t) % (n - 1))
  show 1 ≤ 1 + dr D (3 + t) % (n - 1) ∧ 1 + dr D (3 + t) % (n - 1) < n ∧ 0 ≤ (hid.count (1 + dr D (3 + t) % (n - 1)) : Int) + _ ∧ (hid.count (1 + dr D (3 + t) % (n - 1)) : Int) + _ ≤ 8
  refine ⟨by omega, by omega, ?_, ?_⟩
  · split <;> omega
  · split <;> omega
theorem okAns_pP {n : Int} {p : Int × Int} (h : 1 ≤ p.1 ∧ p.1 < n ∧ 0 ≤ p.2 ∧ p.2 ≤ 8) : okAns n (pP p) = true := by
  show (((decide (1 ≤ p.1) && decide (p.1 ≤ n - 1)) : Bool) && (decide (0 ≤ p.2) && decide (p.2 ≤ 8))) = true
  rw [decide_eq_true h.1, decide_eq_true (by omega : p.1 ≤ n - 1), decide_eq_true h.2.2.1, decide_eq_true h.2.2.2]; rfl
theorem ckSmall_ok {n : Int} {L : Nat} (h2 : 2 ≤ n) (h9 : n ≤ 9) (hL : L < 9) : ckSmall (.int n) (.int L) = .ok .none := by
  unfold ckSmall
  have e1 : inR (.int n) 2 9 = true := by
    show (decide (2 ≤ n) && decide (n ≤ 9)) = true
    rw [decide_eq_true h2, decide_eq_true h9]; rfl
  have e2 : inR (.int L) 0 8 = true := by
    show (decide ((0 : Int) ≤ L) && decide ((L : Int) ≤ 8)) = true
    rw [decide_eq_true (by omega), decide_eq_true (by omega)]; rfl
  rw [if_pos e1, if_pos e2]
theorem ckAns_ok {n : Int} {L : Nat} {ans : List (Int × Int)} (h2 : 2 ≤ n) (h9 : n ≤ 9) (hL : L < 9) (ha : ∀ p ∈ ans, 1 ≤ p.1 ∧ p.1 < n ∧ 0 ≤ p.2 ∧ p.2 ≤ 8) : ckAns (.int n) (.int L) (.tuple (ans.map pP)) = .ok .none := by
  unfold ckAns
  rw [ckSmall_ok h2 h9 hL]
  show (if (ans.map pP).all (okAns n) = true then Oc.ok .none else .er "InvalidAnswers") = _
  rw [if_pos]
  rw [List.all_eq_true]
  intro x hx
  obtain ⟨p, hp, rfl⟩ := List.mem_map.mp hx
  exact okAns_pP (ha p hp)
theorem ckAns_wrong {n : Int} {L : Nat} {xs : List PyData} {w : PyData} (h2 : 2 ≤ n) (h9 : n ≤ 9) (hL : L < 9) (hw : okAns n w = false) : ckAns (.int n) (.int L) (.tuple (xs ++ [w])) = .er "InvalidAnswers" := by
  unfold ckAns
  rw [ckSmall_ok h2 h9 hL]
  show (if (xs ++ [w]).all (okAns n) = true then Oc.ok .none else .er "InvalidAnswers") = _
  rw [if_neg]
  intro h
  have := List.all_eq_true.mp h w (List.mem_append_right _ List.mem_cons_self)
  rw [hw] at this; cases this
theorem ckAns_list {n : Int} {L : Nat} {xs : List PyData} (h2 : 2 ≤ n) (h9 : n ≤ 9) (hL : L < 9) : ckAns (.int n) (.int L) (.list xs) = .er "InvalidAnswers" := by
  unfold ckAns
  rw [ckSmall_ok h2 h9 hL]
def hidD (mode : Int) (h l a : PyData) : PyData := ocD nmA (if mode = 0 then candOc h l a else bestOc h l a)
theorem hid_er {mode : Int} {h l a : PyData} {x : Str} (e : ckAns h l a = .er x) : hidD mode h l a = .str (nmA x) := by
  unfold hidD candOc bestOc
  rw [e]
  split <;> rfl
theorem cand_ok {n : Int} {L : Nat} {ans : List (Int × Int)} (h2 : 2 ≤ n) (h9 : n ≤ 9) (hL : L < 9) (ha : ∀ p ∈ ans, 1 ≤ p.1 ∧ p.1 < n ∧ 0 ≤ p.2 ∧ p.2 ≤ 8) : candOc (.int n) (.int L) (.tuple (ans.map pP)) = .ok (lT (cands n L ans)) := by
  unfold candOc
  rw [ckAns_ok h2 h9 hL ha]
  show Oc.ok (lT (cands n L (ansOf _))) = _
  rw [ansOf_pP]
theorem hid_ok {n : Int} {L : Nat} {ans : List (Int × Int)} (h2 : 2 ≤ n) (h9 : n ≤ 9) (hL : L < 9) (ha : ∀ p ∈ ans, 1 ≤ p.1 ∧ p.1 < n ∧ 0 ≤ p.2 ∧ p.2 ≤ 8) : hidD 1 (.int n) (.int L) (.tuple (ans.map pP)) = if (cands n L ans).isEmpty = true then .str "answers" else best2D (bestTo (cands n L ans) (rng 1 n)) := by
  unfold hidD
  rw [if_neg (by decide)]
  unfold bestOc
  rw [ckAns_ok h2 h9 hL ha]
  show ocD nmA (if (cands n L (ansOf _)).isEmpty = true then .er "InvalidAnswers" else .ok (best2D (bestTo (cands n L (ansOf _)) (rng 1 n)))) = _
  rw [ansOf_pP]
  split <;> rfl
/-! ### x = [..], x a cell -/
theorem sw_cell {elt : Expr} {gs : List Comprehension} {scope : Scope} {pos py : Pos} {y : Str} {l : Nat} {env : Env} (hy : env.scope.names.lookup y ≠ some .local) : swapsWith (.ListComp elt gs scope pos) (some (.Name y py)) l env = pure false := by
  have ky : (env.kindOf y == some .local) = false := beq_eq_false_iff_ne.mpr hy
  unfold swapsWith
  simp only [ky, Bool.and_false, Bool.false_and]
theorem run_setC {c : Cfg} {Γ : Gm} {O : Ows} {ss : List Stmt} {P : Po} {elt : Expr} {gs : List Comprehension} {scope : Scope} {lpos p pos : Pos} {x : Str} {d : PyData} (i : Nat) (he : EvX c Γ O (.ListComp elt gs scope lpos) d) (hN : c.N[i]? = some x) (hl : locB c.sc x = true) (hn : c.sc.names.lookup x ≠ some .local) (h : Run c (Γ.set i (some d)) (drp i O) ss P) :
    Run c Γ O (.Assign [.Name x p] (.ListComp elt gs scope lpos) pos :: ss) P := fun X sf Wr tk W0 U D hd σ W g => by
  refine ss_cons (wS_of (ps_set (i := i) sf.nd (by rw [sf.N]; exact hN) (by rw [sf.sc]; exact loc_of hl) pe_w (sw_cell (by rw [sf.sc]; exact hn)) (.inl (sf.fn _))) ?_)
  exact he X sf.toCf W0 U σ W _ g fun v W1 e1 r1 => h X sf Wr tk W0 U D hd _ W1 ((g.ex e1).set i r1)
end CS

set_option maxRecDepth 100000
set_option maxHeartbeats 4000000
namespace CS
open PySem PySem.Spec PyProof.Rows L2
/-! ### a suite: found = [isinstance(e, A), ..]; found = found + [isinstance(e, B), ..] -/
/-- isinstance(n, y) for every y -/
inductive IsEs (n : Str) : List Expr → List Str → Prop
  | nil : IsEs n [] []
  | cons {y : Str} {es : List Expr} {ys : List Str} {q1 q2 q3 q4 : Pos} (r : IsEs n es ys) : IsEs n (.Call (.Name "isinstance" q1) [.Name n q2, .Name y q3] [] q4 :: es) (y :: ys)
theorem IsEs.len {n : Str} {es : List Expr} {ys : List Str} (h : IsEs n es ys) : es.length = ys.length := by
  induction h with
  | nil => rfl
  | cons _ ih => simp only [List.length_cons, ih]
/-- what a suite of c knows -/
structure SuC (c : Cfg) (X : Cx) (cs : List Str) (n : Str) (i : Nat) : Prop where
  sf : Sf c X
  kx : Kx c.toGb cs
  cl : ∀ x ∈ cs, ∃ C, c.mg x = some (.ref C)
  hN : c.N[i]? = some n
  hv : visB c.sc n = true
  hm : c.mg "isinstance" = none
  hg : glB c.sc "isinstance" = true
  hnd : (n == ("__debug__" : Str)) = false
  hncd : (n == ("__classdict__" : Str)) = false
section
variable {c : Cfg} {X : Cx} {cs : List Str} {n x : Str} {i f : Nat} {a C : Addr} {oe : Obj} {pn : List (Addr × Obj)} {τ : St} {G G0 : Hp} {D : Ends}
theorem su_is (S : SuC c X cs n i) (hx : x ∈ cs) (hC : c.mg x = some (.ref C)) (hz : Zc (.ref C) none oe) (hf : ∃ fs, oe.data = .fields fs) (hτ : τ[i]? = some (some (.ref a))) {es : List Expr} {ys : List Str} (hE : IsEs n es ys)
    (hy : ∀ y ∈ ys, y ∈ cs ∧ glB c.sc y = true ∧ (y == ("__debug__" : Str)) = false) : ∀ {Q : List V → Hp → Prop}, Q (ys.map fun y => V.bl (subC x y)) G → wA (X.suite a ((a, oe) :: pn)) es τ G Q := by
  induction hE with
  | nil => intro Q q; exact wA_of pa_nil q
  | @cons y es ys q1 q2 q3 q4 r ih =>
    intro Q q
    obtain ⟨hyc, hgy, hyd⟩ := hy y List.mem_cons_self
    obtain ⟨Cy, hCy⟩ := S.cl y hyc
    have ex : ExcC X.K C := by rw [S.sf.K]; exact S.kx.exc x hx C hC
    have k2 : PySem.W.kitOne X.K (.ref C) (.ref Cy) = some (subC x y) := by rw [S.sf.K]; exact S.kx.kit x hx y hyc C Cy hC hCy
    have pe : PE (X.suite a ((a, oe) :: pn)) (.Name n q2) (tVar i) := pe_var (X := X.suite a ((a, oe) :: pn)) (i := i) (by show X.N[i]? = _; rw [S.sf.N]; exact S.hN) (by show Vis X.env.scope n; rw [S.sf.sc]; exact vis_of S.hv) S.hnd S.hncd
    have py : PE (X.suite a ((a, oe) :: pn)) (.Name y q3) (tC (.ref Cy)) := pe_glob (X := X.suite a ((a, oe) :: pn)) (v := .ref Cy) (gl_of S.sf.toCf hgy) (by show X.mg _ = _; rw [S.sf.mg]; exact hCy) rfl hyd
    refine wA_of (pa_cons (pe_callB (call_isE ex hz hf) (gl_of S.sf.toCf S.hg) (by show X.mg _ = _; rw [S.sf.mg]; exact S.hm) (by decide +kernel) (pa_cons pe (pa_cons py pa_nil))) pa_w) ?_
    refine ⟨_, hτ, .ref Cy, .ref Cy, subC x y, rfl, fun u r => r, k2, ?_⟩
    exact ih (fun z hz => hy z (List.mem_cons_of_mem _ hz)) q
/-- found = [..] -/
theorem dpa_bl {K : PySem.W.Frag} {H : Hp} (x : Str) : ∀ ys : List Str, DpAll K H (ys.map fun y => V.bl (subC x y)) (ys.map fun y => PyData.bool (subC x y))
  | [] => .nil
  | _ :: r => .cons (.bl _) (dpa_bl x r)
theorem su_set {W : Wd} (S : SuC c X cs n i) (hx : x ∈ cs) (hC : c.mg x = some (.ref C)) (hz : Zc (.ref C) none oe) (hf : ∃ fs, oe.data = .fields fs) (hτ : τ[i]? = some (some (.ref a))) {es : List Expr} {ys : List Str} {fn : Str} {p q r : Pos} {ss : List Stmt} (hE : IsEs n es ys)
    (hy : ∀ y ∈ ys, y ∈ cs ∧ glB c.sc y = true ∧ (y == ("__debug__" : Str)) = false) (hl : ys.length ≤ 100) (hF : c.N[f]? = some fn) (hlf : c.sc.names.lookup fn = some .local)
    (h : ∀ v W', Wx W W' → Dp X.K W'.s v (.list (ys.map fun y => PyData.bool (subC x y))) → wSs (X.suite a ((a, oe) :: pn)) ss D (τ.set f (some v)) W'.h) : wSs (X.suite a ((a, oe) :: pn)) (.Assign [.Name fn p] (.List es q) r :: ss) D τ W.h := by
  refine wSs_of (pss_cons (ps_set (X := X.suite a ((a, oe) :: pn)) (i := f) S.sf.nd (by show X.N[f]? = _; rw [S.sf.N]; exact hF) (by show L2.Loc X.env.scope fn; rw [S.sf.sc]; exact .inl hlf) (pe_lst pa_w) rfl (.inr (by show X.env.scope.names.lookup fn = _; rw [S.sf.sc]; exact hlf))) pss_w) ?_
  refine su_is S hx hC hz hf hτ hE hy ⟨?_, fun p hp => h _ (W.new p _) (Wx.new hp) (.lst (SqL.of upd_same) (dpa_bl x ys))⟩
  rw [List.length_map]; exact Nat.le_trans hl (by decide)
/-- found = found + [..] -/
theorem su_more {W : Wd} (S : SuC c X cs n i) (hx : x ∈ cs) (hC : c.mg x = some (.ref C)) (hz : Zc (.ref C) none oe) (hf : ∃ fs, oe.data = .fields fs) (hτ : τ[i]? = some (some (.ref a))) {es : List Expr} {ys : List Str} {fn : Str} {p q r p2 p3 : Pos} {ss : List Stmt} {v : V} {us : List PyData} (hE : IsEs n es ys)
    (hy : ∀ y ∈ ys, y ∈ cs ∧ glB c.sc y = true ∧ (y == ("__debug__" : Str)) = false) (hl : ys.length ≤ 100) (hul : us.length ≤ 100) (hF : c.N[f]? = some fn) (hlf : c.sc.names.lookup fn = some .local) (hvf : visB c.sc fn = true)
    (hfd : (fn == ("__debug__" : Str)) = false) (hfcd : (fn == ("__classdict__" : Str)) = false) (hτf : τ[f]? = some (some v)) (hG : Dp X.K W.s v (.list us))
    (h : ∀ v W', Wx W W' → Dp X.K W'.s v (.list (us ++ ys.map fun y => PyData.bool (subC x y))) → wSs (X.suite a ((a, oe) :: pn)) ss D (τ.set f (some v)) W'.h) : wSs (X.suite a ((a, oe) :: pn)) (.Assign [.Name fn p] (.BinOp (.Name fn p2) .Add (.List es q) p3) r :: ss) D τ W.h := by
  have pf : PE (X.suite a ((a, oe) :: pn)) (.Name fn p2) (tVar f) := pe_var (X := X.suite a ((a, oe) :: pn)) (i := f) (by show X.N[f]? = _; rw [S.sf.N]; exact hF) (by show Vis X.env.scope fn; rw [S.sf.sc]; exact vis_of hvf) hfd hfcd
  refine wSs_of (pss_cons (ps_set (X := X.suite a ((a, oe) :: pn)) (i := f) S.sf.nd (by show X.N[f]? = _; rw [S.sf.N]; exact hF) (by show L2.Loc X.env.scope fn; rw [S.sf.sc]; exact .inl hlf) (pe_op op_catL pf (pe_lst pa_w)) rfl (.inr (by show X.env.scope.names.lookup fn = _; rw [S.sf.sc]; exact hlf))) pss_w) ?_
  obtain ⟨l, vs, rfl, h1, h2⟩ := dp_list_inv hG
  refine ⟨_, hτf, ?_⟩
  refine su_is S hx hC hz hf hτ hE hy ⟨?_, fun b hb => ?_⟩
  · rw [List.length_map]; exact Nat.le_trans hl (by decide)
  · have e1 := Wx.new (o := .lst (ys.map fun y => V.bl (subC x y))) hb
    refine ⟨l, b, vs, ys.map fun y => V.bl (subC x y), rfl, rfl, sl_ex e1.h (W.sl h1), SqL.of upd_same, ?_, fun p hp => ?_⟩
    · rw [List.length_map, dpa_len h2]
      exact Nat.le_trans (Nat.add_le_add hul hl) (by decide)
    · have e2 := Wx.new (W := W.new b (.lst (ys.map fun y => V.bl (subC x y)))) (o := .lst (vs ++ ys.map fun y => V.bl (subC x y))) hp
      exact h _ ((W.new b _).new p _) (e1.trans e2) (.lst (SqL.of upd_same) (dpa_app (dpa_ex (e1.trans e2).s h2) (dpa_bl x ys)))
end
/-! ### try with one clause and a suite that sets slots -/
def SetN (K : PySem.W.Frag) (N : St → Hp → Prop) : List (Nat × PyData) → Wd → St → Prop
  | [], W, τ => N τ W.h
  | (f, d) :: r, W, τ => ∀ v W', Wx W W' → Dp K W'.s v d → SetN K N r W' (τ.set f (some v))
def setG (Γ : Gm) : List (Nat × PyData) → Gm
  | [] => Γ
  | (f, d) :: r => setG (Γ.set f (some d)) r
def drpL (O : Ows) : List (Nat × PyData) → Ows
  | [] => O
  | (f, _) :: r => drpL (drp f O) r
theorem sto_setN {K : PySem.W.Frag} {W0 : Wd} {U : Hp} {N : St → Hp → Prop} : ∀ {E : List (Nat × PyData)} {W : Wd} {τ : St} {Γ : Gm} {O : Ows}, Sto K W0 U W τ Γ O → (∀ τ' W', Sto K W0 U W' τ' (setG Γ E) (drpL O E) → N τ' W'.h) → SetN K N E W τ
  | [], W, τ, Γ, O, g, h => h τ W g
  | (f, d) :: r, W, τ, Γ, O, g, h => fun v W' e hv => sto_setN ((g.ex e).set f hv) h
section
variable {c : Cfg} {Γ : Gm} {O : Ows} {ss body : List Stmt} {P : Po} {cs : List Str}
/-- what a suite does with an exception of the class x -/
def SuOk (c : Cfg) (cs : List Str) (n : Str) (i : Nat) (ln : Nat) (su : List Stmt) (E : Str → List (Nat × PyData)) : Prop :=
  ∀ (X : Cx) (S : SuC c X cs n i) (a : Addr) (oe : Obj) (pn : List (Addr × Obj)) (x : Str) (C : Addr) (τ : St) (W : Wd) (D : Ends), x ∈ cs → c.mg x = some (.ref C) → Zc (.ref C) none oe → (∃ fs, oe.data = .fields fs) → τ.length = ln → τ[i]? = some (some (.ref a)) → SetN X.K D.nx (E x) W τ → wSs (X.suite a ((a, oe) :: pn)) su D τ W.h
def suN (g : Gb) (K : PySem.W.Frag) (cs : List Str) (i ln : Nat) (E : Str → List (Nat × PyData)) : Ts := fun a cl dd D τ G => ∃ x C W, x ∈ cs ∧ g.mg x = some (.ref C) ∧ cl = .ref C ∧ dd = none ∧ τ.length = ln ∧ τ[i]? = some (some (.ref a)) ∧ G = W.h ∧ SetN K D.nx (E x) W τ
theorem run_trySu {n y : Str} {i : Nat} {b0 : Stmt} {su : List Stmt} {E : Str → List (Nat × PyData)} {np ps pos : Pos} (kx : Kx c.toGb cs) (hcl : ∀ x ∈ cs, ∃ C, c.mg x = some (.ref C)) (hy : y ∈ cs) (hgy : glB c.sc y = true) (hyd : (y == ("__debug__" : Str)) = false) (hN : c.N[i]? = some n) (hl : c.sc.names.lookup n = some .local) (hv : visB c.sc n = true)
    (hm : c.mg "isinstance" = none) (hg : glB c.sc "isinstance" = true) (hsu : SuOk c cs n i Γ.length (b0 :: su) E)
    (h : Run c Γ O body { P with nx := fun Γ O => Run c Γ O ss P, er := fun x Γ' O' => x ∈ cs ∧ subC x y = true ∧ i < Γ'.length ∧ Γ'.length = Γ.length ∧ Run c ((setG (Γ'.set i none) (E x)).set i none) (drp i (drpL (drp i O') (E x))) ss P })
    (hnd : (n == ("__debug__" : Str)) = false := by decide) (hncd : (n == ("__classdict__" : Str)) = false := by decide) : Run c Γ O (.Try body [.ExceptHandler (some (.Name y np)) (some n) (b0 :: su) ps] [] [] pos :: ss) P := fun X sf Wr tk W0 U D hd σ W g => by
  obtain ⟨Cy, hCy⟩ := hcl y hy
  have S : SuC c X cs n i := ⟨sf, kx, hcl, hN, hv, hm, hg, hnd, hncd⟩
  have hL : HdAs X n [.ExceptHandler (some (.Name y np)) (some n) (b0 :: su) ps] [(.ref Cy, suN c.toGb X.K cs i Γ.length E)] := .cons (names_of sf hCy hgy hyd) (fun a oe cl dd pn hz hf => ⟨fun pins s τ G D I hw => by
    obtain ⟨x, C, W, hx, hC, rfl, rfl, hln, hτ, rfl, hS⟩ := hw
    exact hsu X S a oe pn x C τ W D hx hC hz hf hln hτ hS pins s I⟩) .nil
  refine st_try (i := i) sf tk hL hN hl fun X' sf' eK tk' => ?_
  refine h X' sf' _ tk' W0 U _ ?_ σ W (by rw [eK]; exact g)
  refine ⟨fun Γ O σ W q z => q X sf Wr tk W0 U D hd σ W (by rw [← eK]; exact z), fun d v W q z r => hd.rt d v W q z (by rw [← eK]; exact r), fun x Γ' O' C σ' W' q hC z => ?_, fun Γ O σ W q z => hd.bk Γ O σ W q (by rw [← eK]; exact z), fun Γ O σ W q z => hd.ct Γ O σ W q (by rw [← eK]; exact z)⟩
  obtain ⟨hx, hsub, hi, hlen, hrun⟩ := q
  rw [eK] at z
  refine ⟨true, by rw [sf.K, kx.exm _ hx _ hy C Cy hC hCy, hsub], fun _ a na => ?_, fun hb => by cases hb⟩
  have hσl : σ'.length = Γ'.length := z.s.len
  refine ⟨x, C, W', hx, hC, rfl, rfl, by rw [List.length_set, hσl, hlen], List.getElem?_set_self (by rw [hσl]; exact hi), rfl, ?_⟩
  refine sto_setN (z.setAny (v := some (.ref a)) i) fun τ' W'' z' => ?_
  exact hrun X sf Wr tk W0 U D hd _ W'' (z'.setAny (v := none) i)
end
end CS

set_option maxRecDepth 100000
set_option maxHeartbeats 4000000
namespace CS
open PySem PySem.Spec PyProof.Rows L2 SrtO
/-! ### sorted(t), t a tuple of ints -/
section
variable {prog : Program} {w : World} {A : Around} {E : Value → Shared → Prop} {s : Shared}
theorem collect_tup {l : Addr} {vs : List Value} {Q : List Value → Shared → Prop} (hl : IsTup s.heap l vs.toArray)
    (h : Q vs { s with heap := (s.heap.push (seqObj "list" #[] 0)).update s.heap.objs.size (Obj.mapSeq (· ++ vs.toArray)) }) (hsz : vs.length ≤ sizeLine := by size_fits) :
    wpAny (model prog w) A (collect (.ref l)) Q E s := by
  obtain ⟨o, ho, hc, n, hd⟩ := id hl
  unfold collect
  refine wpAny_bind (wpAny_runValue (codeAny_builtin entry_proto_collect' ?_))
  show wpAny _ _ (do again (.builtin "list.__iadd__" ⟨[← newList [], .ref l], []⟩)) _ _ s
  refine wpAny_bind (wpAny_newList (wpAny_pure ⟨Code.quiet_builtin _ (by decide +kernel), codeAny_builtin entry_list_iadd' ?_⟩))
  show wpAny _ _ (Builtin.List.listExtendWith (.ref s.heap.objs.size) (.ref l) (.ref s.heap.objs.size)) _ _ { s with heap := s.heap.push (seqObj "list" #[] 0) }
  unfold Builtin.List.listExtendWith
  have ho' : (s.heap.push (seqObj "list" #[] 0)).get? l = some o := Heap.get?_push_of_some _ ho
  refine wpAny_bind (wpAny_typeOf (T := "tuple") ⟨o, ho', hc⟩ ?_)
  have ht : (Value.type "tuple" == Value.type "tuple") = true := by rfl
  rw [if_pos (by rw [ht]; simp)]
  refine wpAny_bind (listItems_at ho' hd ?_)
  refine wpAny_bind (listItems_at (xs := #[]) (n := 0) (Heap.get?_push_size _ rfl) rfl ?_)
  rw [if_neg (by simp)]
  refine wpAny_bind (listUpdate_at (xs := #[]) (n := 0) (Heap.get?_push_size _ rfl) rfl ?_ (Nat.zero_le _) (by show (#[] ++ vs.toArray).size ≤ sizeLine + 1; simp only [Array.size_append, List.size_toArray, List.length_nil]; omega))
  refine wpAny_pure ?_
  show wpAny (model prog w) A (do
      let o ← load s.heap.objs.size
      match o.data with
      | .seq xs _ => pure xs.toList
      | _ => unsupported "internal:collect") Q E { s with heap := (s.heap.push (seqObj "list" #[] 0)).update s.heap.objs.size (Obj.mapSeq (· ++ vs.toArray)) }
  refine wpAny_bind (wpAny_load (get?_update_seq (Heap.get?_push_size _ rfl) _) ?_)
  show wpAny _ _ (pure ((#[] : Array Value) ++ vs.toArray).toList) Q E _
  rw [show ((#[] : Array Value) ++ vs.toArray).toList = vs by simp]
  exact wpAny_pure h
theorem sorted_ordT {l : Addr} {vs : List Value} {ltv : Value → Value → Bool} {Q : Value → Shared → Prop} (O : Swo ltv) (hl : IsTup s.heap l vs.toArray) (hz : vs.length ≤ sizeLine)
    (hS : 2 ≤ vs.length → ∀ (h₁ : Heap) (a : Addr), h₁.get? a = some (seqObj "list" vs.toArray 0) → (∀ b o, s.heap.get? b = some o → b ≠ a ∧ h₁.get? b = some o) → SortableO prog w A.in1.in1 { s with heap := h₁ } a vs ltv)
    (h : ∀ out : List Value, Srtd ltv out → Stb ltv out vs → Q (.ref (s.heap.objs.size + 1)) { s with heap := sortedAll s.heap vs out.toArray }) :
    wpAny (model prog w) A (call (.builtin "sorted") [.ref l]) Q E s := by
  refine Calls.call_function_entry kind_sorted plain_sorted entry_sorted (args_sorted1 _) ?_
  unfold Builtin.«sorted»
  refine wpAny_bind (m := checkCount "sorted" 1 1 _) (wpAny_pure ?_)
  refine wpAny_bind (collect_tup hl ?_ hz)
  refine wpAny_bind (wpAny_newList ?_ hz)
  have hsz : ((s.heap.push (seqObj "list" #[] 0)).update s.heap.objs.size (Obj.mapSeq (· ++ vs.toArray))).objs.size = s.heap.objs.size + 1 := by
    rw [Heap.size_update, size_push']
  have hoL : (((s.heap.push (seqObj "list" #[] 0)).update s.heap.objs.size (Obj.mapSeq (· ++ vs.toArray))).push (seqObj "list" vs.toArray 0)).get? (s.heap.objs.size + 1) = some (seqObj "list" vs.toArray 0) := by
    rw [← hsz]; exact Heap.get?_push_size _ rfl
  have keep : ∀ b o, s.heap.get? b = some o → b ≠ s.heap.objs.size + 1 ∧ (((s.heap.push (seqObj "list" #[] 0)).update s.heap.objs.size (Obj.mapSeq (· ++ vs.toArray))).push (seqObj "list" vs.toArray 0)).get? b = some o := fun b o q => by
    have hlt : b < s.heap.objs.size := Heap.lt_size q
    refine ⟨Nat.ne_of_lt (Nat.lt_succ_of_lt hlt), Heap.get?_push_of_some _ ?_⟩
    rw [Heap.get?_update_ne _ _ _ _ (Nat.ne_of_lt hlt)]
    exact Heap.get?_push_of_some _ q
  show wpAny _ _ _ _ _ { s with heap := ((s.heap.push (seqObj "list" #[] 0)).update s.heap.objs.size (Obj.mapSeq (· ++ vs.toArray))).push (seqObj "list" vs.toArray 0) }
  rw [hsz]
  refine wpAny_bind (wpAny_holding (wpAny_call_entry slot_list_sort ⟨_, hoL, rfl⟩ entry_list_sort (list_sort_ord O hoL hz (fun h2 => hS h2 _ _ hoL keep) fun out hs hb => ⟨_, rfl, ?_⟩) (args_list_sort _)))
  exact wpAny_pure ⟨_, rfl, h out hs hb⟩
end
def rSortedTI (K : PySem.W.Frag) : List V → Hp → VK → Prop := fun vs H Q => ∃ (a : Addr) (ns : List Int), vs = [V.ref a] ∧ SqT K H a (ns.map V.int) ∧
  ∀ (ns' : List Int) (p : Addr), ns'.Perm ns → ns'.Pairwise (· ≤ ·) → H p = none → Q (.ref p) (upd H p (.lst (ns'.map V.int)))
theorem cr_sortedTI {X : Cx} : CallR X (.builtin "sorted") (rSortedTI X.K) := by
  intro pins s σ H vs us Q I r h
  obtain ⟨a, ns, rfl, hs, q⟩ := h
  obtain ⟨its, rv, hl, hz⟩ := I.tuple hs
  rw [Vals.ref1 r]
  have hi := rv.ints
  refine sorted_ordT SrtO.swo_int hl (by rw [← rv.length]; exact hz) (fun h2 h₁ a' _ _ => SrtO.ints_sortable hi h2) fun out h1 h2 => ?_
  obtain ⟨k1, k2, k3⟩ := SrtO.ints_out hi h1 h2
  obtain ⟨ep, he'⟩ := PyProof.Rows.sortedAll_at s.heap its out.toArray
  have hlen : ((out.map SrtO.iv).map V.int).length ≤ sizeLine := by
    rw [List.length_map, k2.length_eq]
    rw [List.length_map] at hz
    exact hz
  exact ⟨.ref _, upd H (s.heap.objs.size + 1) (.lst ((out.map SrtO.iv).map V.int)), I.laid (t' := s.toks) (fun _ _ => PyProof.Rows.sortedAll_old) (Nat.le_succ _) ⟨hlen, out, ep, vals_of_ints k1, he'⟩, rfl, q _ _ k2 k3 (I.hok.fresh (Nat.le_succ _))⟩
theorem ev_sortedT {c : Cfg} {Γ : Gm} {a : Expr} {p pos : Pos} {ns : List Int} (ha : Ev c Γ a (pT ns)) (hm : c.mg "sorted" = none) (hg : glB c.sc "sorted" = true) (he : ∀ env, starEach [a] env = [(false, eval a env)] := by intro _; rfl) : Ev c Γ (.Call (.Name "sorted" p) [a] [] pos) (pL (srt ns)) :=
  ev_blt hm (by decide +kernel) (ea_cons ha ea_nil he) (fun X cf => ⟨_, cr_sortedTI, fun vs W Q h q => by
    obtain ⟨v, rfl, h1⟩ := dpa1 h
    obtain ⟨u, rfl, h2⟩ := dp_pT_inv h1
    refine ⟨u, ns, rfl, W.st h2, fun ys p hp hy hq => ?_⟩
    have ey : ys = srt ns := srt_eq hp hy
    subst ey
    exact q _ _ (Wx.new hq) (.lst (SqL.of upd_same) (dpa_of_ints _))⟩) hg (he := he)
/-! ### specs: joins and splits -/
def ckFr (n : Int) (row : List Int) : Oc := if free n row = true then .ok .none else .er "HasZeroPart"
def RckFree : List PyData → Oc → Prop := RonRow ckFr
def arr (row : List Int) : List Int := srt row
def Rarr : List PyData → PyData → Prop := fun ds d => ∃ row : List Int, (ds = [pT row] ∨ ds = [pL row]) ∧ d = pT (srt row)
def ckPl (len : Nat) (p : PyData) : Oc := if inR p 0 (len - 1) = true then .ok .none else .er "InvalidNumber"
def RckPl : List PyData → Oc → Prop := fun ds o => ∃ (row : List Int) (p : PyData), ds = [pT row, p] ∧ o = ckPl row.length p
def joined (n : Int) (row : List Int) (a b : Int) : List Int := srt (wo row [a, b] ++ [(dr row a.toNat + dr row b.toNat) % n])
def joinOc (a b : PyData) (n : Int) (row : List Int) : Oc := if free n row = true then (if inR a 0 (row.length - 1) = true then (if inR b 0 (row.length - 1) = true then (if unI a = unI b then .er "InvalidNumber" else .ok (pT (joined n row (unI a) (unI b)))) else .er "InvalidNumber") else .er "InvalidNumber") else .er "HasZeroPart"
def Rjoin : List PyData → Oc → Prop := fun ds o => ∃ h r a b, ds = [h, r, a, b] ∧ o = onRow (joinOc a b) h r
def parted (n : Int) (row : List Int) (a p : Int) : List Int := srt (row.take a.toNat ++ row.drop (a.toNat + 1) ++ [p, (dr row a.toNat - p) % n])
def splitOc (a p : PyData) (n : Int) (row : List Int) : Oc := if free n row = true then (if inR a 0 (row.length - 1) = true then (if inR p 1 (n - 1) = true then (if (decide (11 < ((parted n row (unI a) (unI p)).length : Int)) || decide (0 ∈ rch n (parted n row (unI a) (unI p)))) = true then .er "CannotSplit" else .ok (pT (parted n row (unI a) (unI p)))) else .er "InvalidNumber") else .er "InvalidNumber") else .er "HasZeroPart"
def Rsplit : List PyData → Oc → Prop := fun ds o => ∃ h r a p, ds = [h, r, a, p] ∧ o = onRow (splitOc a p) h r
/-- near, where it raises -/
def RnearE : List PyData → Oc → Prop := fun ds o => ∃ h r x, ds = [h, r] ∧ onRow ckFr h r = .er x ∧ o = .er x
/-! ### a, b = x, y where both are cells -/
theorem sw_noC {sc : Scope} {env : Env} {x y : Str} {px py pt pt2 : Pos} {kt k2 : Nat} {a b : Expr} (he : env.scope = sc) (hk : sc.kind = .function) (hx : sc.names.lookup x ≠ some .local) (hy : sc.names.lookup y ≠ some .local)
    (h3 : ([a, b].any fun | .Starred .. => true | _ => false) = false) :
    swappedStores [.Tuple [.Name x px, .Name y py] kt pt] (.Tuple [a, b] k2 pt2) env = pure none := by
  subst he
  have kx : (env.kindOf x == some .local) = false := beq_eq_false_iff_ne.mpr hx
  have ky : (env.kindOf y == some .local) = false := beq_eq_false_iff_ne.mpr hy
  have hb : env.blockKind = .function := by unfold Env.blockKind; rw [hk]; rfl
  unfold swappedStores
  simp only [hb, List.filterMap_cons, List.filterMap_nil, kx, ky, Expr.pos, List.head?_cons, Option.map_some, Option.getD_some, Bool.false_and]
  simp only [List.length_cons, List.length_nil]
  refine (if_neg (by decide)).trans ?_
  refine (if_neg (fun z => Bool.noConfusion (z.symm.trans h3))).trans ?_
  exact if_pos rfl
theorem run_parC {c : Cfg} {Γ : Gm} {O : Ows} {ss : List Stmt} {P : Po} {a b : Expr} {da db : PyData} {x y : Str} {px py pt pt2 pos : Pos} {kt k2 : Nat} (i j : Nat) (ha : Ev c Γ a da) (hb : Ev c Γ b db) (hi : c.N[i]? = some x) (hj : c.N[j]? = some y) (hx : locB c.sc x = true) (hxn : c.sc.names.lookup x ≠ some .local) (hy : locB c.sc y = true) (hyn : c.sc.names.lookup y ≠ some .local) (hk : c.sc.kind = .function)
    (h : Run c ((Γ.set i (some da)).set j (some db)) (drp j (drp i O)) ss P)
    (h3 : ([a, b].any fun | .Starred .. => true | _ => false) = false := by rfl)
    (hsE : ∀ env, starEach [a, b] env = (false, eval a env) :: starEach [b] env := by intro _; rfl) (hsE2 : ∀ env, starEach [b] env = [(false, eval b env)] := by intro _; rfl)
    (hp : ∀ env, (assignEach [.Tuple [.Name x px, .Name y py] kt pt] env).map (·.2) = [assign (.Tuple [.Name x px, .Name y py] kt pt) env] := by intro _; rfl)
    (hsw : ∀ env, swapsWithSole [.Tuple [.Name x px, .Name y py] kt pt] (.Tuple [a, b] k2 pt2) pos.line env = pure false := by intro _; rfl) : Run c Γ O (.Assign [.Tuple [.Name x px, .Name y py] kt pt] (.Tuple [a, b] k2 pt2) pos :: ss) P := fun X sf Wr tk W0 U D hd σ W g => by
  refine ss_cons (wS_of (ps_asg pe_w (pg_tup sf.calm (pgs_cons (pg_name (i := i) sf.nd (by rw [sf.N]; exact hi) (by rw [sf.sc]; exact loc_of hx) (.inl (sf.fn _))) (pgs_cons (pg_name (i := j) sf.nd (by rw [sf.N]; exact hj) (by rw [sf.sc]; exact loc_of hy) (.inl (sf.fn _))) pgs_nil))) (hsw _) (sw_noC sf.sc hk hxn hyn h3) (hp _)) ?_)
  refine ev_tuple (ea_cons ha (ea_cons hb ea_nil hsE2) hsE) (show 2 ≤ 100000 by decide) X sf.toCf σ W _ g.s fun v W1 e1 r1 => ?_
  obtain ⟨t, us, rfl, h1, h2⟩ := dp_tup_inv r1
  obtain ⟨u1, u2, rfl, h5, h4⟩ := dpa2 h2
  exact ⟨t, _, rfl, W1.st h1, rfl, u1, [u2], rfl, u2, [], rfl, rfl, h X sf Wr tk W0 U D hd _ W1 (((g.ex e1).set i h5).set j h4)⟩
/-! ### t.index(k) -/
theorem mt_tindex {X : Cx} : MtR X "tuple.index" (fun x xs H Q => ∃ (p : Addr) (ns : List Int) (k : Int), x = .ref p ∧ xs = [.int k] ∧ SqT X.K H p (ns.map V.int) ∧ k ∈ ns ∧ Q (.int (ns.idxOf k : Nat)) H) := by
  intro pins s σ H x xs v us Q I rx rxs h
  obtain ⟨p, ns, k, rfl, rfl, hs, hk, q⟩ := h
  cases rx
  obtain ⟨u, rfl, ru⟩ := rxs.one
  obtain ⟨t, rfl⟩ := ru
  obtain ⟨its, rv, hT, hlen⟩ := I.tuple hs
  have hi := ints_of_vals rv
  refine SeqAt.tuple_index_ints hT hi hk ⟨.int (ns.idxOf k : Nat), H, I.tok _, ⟨s.toks, rfl⟩, q⟩
theorem ev_indexT {c : Cfg} {Γ : Gm} {a b : Expr} {pos apos : Pos} {ns : List Int} {k : Int} (ha : Ev c Γ a (pT ns)) (hb : Ev c Γ b (.int k)) (hk : k ∈ ns) (hs : ∀ env, starEach [b] env = [(false, eval b env)] := by intro _; rfl) (hbase : ∀ env, attributeBase a "index" env (eval a env) = eval a env := by intro _; rfl) (hline : (apos.endLine == pos.line) = true := by rfl) :
    Ev c Γ (.Call (.Attribute a "index" apos) [b] [] pos) (.int (ns.idxOf k : Nat)) := fun X cf σ W Q s q => by
  refine wE_of (pe_tm F.slot_tuple_index F.type_tuple_index mt_tindex pe_w pe_w (hs _) (hbase _) hline) ?_
  refine ha X cf σ W _ s fun v W1 e1 r1 => ?_
  obtain ⟨t, rfl, h1⟩ := dp_pT_plain r1
  refine ⟨⟨t, _, rfl, h1.ex W1.sub⟩, ?_⟩
  refine hb X cf σ W1 _ (s.ex e1.s) fun u W2 e2 r2 => ?_
  cases dp_int_inv r2
  exact ⟨t, ns, k, rfl, rfl, ((h1.ex e2.s).ex W2.sub).st, hk, q _ W2 (e1.trans e2) (.int _)⟩
/-! ### slices of rows -/
theorem cut_take {row : List Int} {a : Int} (h0 : 0 ≤ a) : cutD (iL row) none (some a) = iL (row.take a.toNat) := by
  unfold cutD
  obtain ⟨k, rfl⟩ := Int.eq_ofNat_of_zero_le h0
  rw [HT.sIx_none, HT.sIx_nat, List.drop_zero, Nat.sub_zero, List.length_map, Int.toNat_natCast]
  unfold iL
  rw [List.map_take]
  by_cases h : k ≤ row.length
  · rw [Nat.min_eq_left h]
  · rw [Nat.min_eq_right (by omega), List.take_of_length_le (by rw [List.length_map]; omega), List.take_of_length_le (by rw [List.length_map]; omega)]
theorem cut_drop {row : List Int} {a : Int} (h0 : 0 ≤ a) : cutD (iL row) (some a) none = iL (row.drop a.toNat) := by
  unfold cutD
  obtain ⟨k, rfl⟩ := Int.eq_ofNat_of_zero_le h0
  rw [HT.sIx_none, HT.sIx_nat, List.length_map, Int.toNat_natCast]
  unfold iL
  rw [List.map_drop, List.take_of_length_le (by rw [List.length_drop, List.length_map]; omega)]
  by_cases h : k ≤ row.length
  · rw [Nat.min_eq_left h]
  · rw [Nat.min_eq_right (by omega), List.drop_of_length_le (by rw [List.length_map]; omega), List.drop_of_length_le (by rw [List.length_map]; omega)]
/-! ### joins and splits of free rows -/
theorem wo2_perm (row : List Int) {a b : Int} (a0 : 0 ≤ a) (a1 : a < row.length) (b0 : 0 ≤ b) (b1 : b < row.length) (hab : a ≠ b) : row.Perm (wo row [a, b] ++ [dr row a.toNat, dr row b.toNat]) := by
  have key : ∀ (r : List Int) (k : Nat), (woFrom k [a, b] r ++ ((if (k : Int) ≤ a ∧ a < k + r.length then [dr r (a.toNat - k)] else []) ++ (if (k : Int) ≤ b ∧ b < k + r.length then [dr r (b.toNat - k)] else []))).Perm r := by
    intro r
    induction r with
    | nil =>
      intro k
      rw [if_neg (by rintro ⟨_, h⟩; simp only [List.length_nil] at h; omega), if_neg (by rintro ⟨_, h⟩; simp only [List.length_nil] at h; omega)]
      exact .refl _
    | cons x r ih =>
      intro k
      have ih := ih (k + 1)
      have hl : ((x :: r).length : Int) = r.length + 1 := by simp
      have hk1 : ((k + 1 : Nat) : Int) = k + 1 := by omega
      have wk : woFrom (k : Int) [a, b] (x :: r) = (if (k : Int) ∈ [a, b] then [] else [x]) ++ woFrom ((k + 1 : Nat) : Int) [a, b] r := by
        rw [hk1]
        show (if (k : Int) ∈ [a, b] then woFrom ((k : Int) + 1) [a, b] r else x :: woFrom ((k : Int) + 1) [a, b] r) = _
        split <;> rfl
      have step : ∀ z : Int, z ≠ k → (if (k : Int) ≤ z ∧ z < k + (x :: r).length then [dr (x :: r) (z.toNat - k)] else []) = (if ((k + 1 : Nat) : Int) ≤ z ∧ z < (k + 1 : Nat) + r.length then [dr r (z.toNat - (k + 1))] else []) := by
        intro z hz
        by_cases h : (k : Int) ≤ z ∧ z < k + (x :: r).length
        · rw [if_pos h, if_pos (by rw [hl] at h; omega)]
          have e : z.toNat - k = (z.toNat - (k + 1)) + 1 := by omega
          rw [e]; rfl
        · rw [if_neg h, if_neg (by rw [hl] at h; omega)]
      by_cases ka : a = k
      · have kb : b ≠ k := by omega
        rw [wk, if_pos (by rw [ka]; simp), step b kb, if_pos (by rw [hl, ka]; omega)]
        rw [if_neg (by rw [hk1, ka]; omega), List.nil_append] at ih
        have e : a.toNat - k = 0 := by omega
        rw [e]
        show (woFrom _ [a, b] r ++ ([x] ++ _)).Perm (x :: r)
        refine List.perm_middle.trans (.cons x ?_)
        exact ih
      · by_cases kb : b = k
        · rw [wk, if_pos (by rw [kb]; simp), step a ka, if_pos (c := (k : Int) ≤ b ∧ _) (by rw [hl, kb]; omega)]
          rw [if_neg (c := ((k + 1 : Nat) : Int) ≤ b ∧ _) (by rw [hk1, kb]; omega), List.append_nil] at ih
          have e : b.toNat - k = 0 := by omega
          rw [e, List.nil_append, ← List.append_assoc]
          show (_ ++ [x]).Perm (x :: r)
          refine (List.perm_append_singleton x _).trans (.cons x ih)
        · rw [wk, if_neg (by simp; omega), step a ka, step b kb]
          exact .cons x ih
  have h := key row 0
  rw [if_pos (by omega), if_pos (by omega), Nat.sub_zero, Nat.sub_zero] at h
  exact h.symm
theorem srt_free {n : Int} (hn : 0 < n) {l : List Int} (h : Rem n l) : free n (srt l) = free n l := free_perm hn (srt_perm l) fun x hx => h x (mem_srt.mp hx)
theorem Rem.perm {n : Int} {l m : List Int} (h : Rem n l) (p : m.Perm l) : Rem n m := fun x hx => h x (p.mem_iff.mp hx)
/-- two remainders put together: still free -/
theorem free_join {n : Int} (hn : 0 < n) {w : List Int} {x y : Int} (h : Rem n (w ++ [x, y])) (hf : free n (w ++ [x, y]) = true) : free n (w ++ [(x + y) % n]) = true := by
  have hw := (Rem.app.mp h).1
  have hR : Rem n (w ++ [(x + y) % n]) := Rem.app.mpr ⟨hw, fun z hz => by rw [List.mem_singleton] at hz; subst hz; exact emod_rem hn _⟩
  rw [free_iff hn h] at hf
  rw [free_iff hn hR]
  intro s hs hne
  rcases sub_snoc.mp hs with h1 | ⟨t, rfl, h1⟩
  · exact hf s (h1.trans (List.sublist_append_left _ _)) hne
  · have h2 := hf (t ++ [x, y]) (h1.append (List.Sublist.refl _)) (by simp)
    rw [List.sum_append] at h2 ⊢
    have e1 : [x, y].sum = x + y := by simp
    have e2 : [(x + y) % n].sum = (x + y) % n := by simp
    rw [e1] at h2
    rw [e2]
    intro e3
    apply h2
    rw [← e3, Int.add_emod, Int.add_emod t.sum, Int.emod_emod]
theorem joined_ok {n : Int} (h2 : 2 ≤ n) {row : List Int} (hrow : Row n row) (hf : free n row = true) {a b : Int} (a0 : 0 ≤ a) (a1 : a < row.length) (b0 : 0 ≤ b) (b1 : b < row.length) (hab : a ≠ b) :
    Row n (joined n row a b) ∧ free n (joined n row a b) = true := by
  have hp := wo2_perm row a0 a1 b0 b1 hab
  have hR := hrow.rem.perm hp.symm
  have hw := (Rem.app.mp hR).1
  have hR2 : Rem n (wo row [a, b] ++ [(dr row a.toNat + dr row b.toNat) % n]) := Rem.app.mpr ⟨hw, fun z hz => by rw [List.mem_singleton] at hz; subst hz; exact emod_rem (by omega) _⟩
  have hl := hp.length_eq
  have hrl := hrow.len
  rw [List.length_append] at hl
  simp only [List.length_cons, List.length_nil] at hl
  unfold joined
  refine ⟨⟨?_, fun x hx => hR2 x (mem_srt.mp hx)⟩, ?_⟩
  · rw [srt_len, List.length_append]
    simp only [List.length_cons, List.length_nil]
    omega
  · rw [srt_free (by omega) hR2]
    refine free_join (by omega) hR ?_
    rw [← free_perm (by omega) hp hrow.rem]; exact hf
/-- the way back -/
theorem parted_joined {n : Int} (h2 : 2 ≤ n) {row : List Int} (hrow : Row n row) {a b : Int} (a0 : 0 ≤ a) (a1 : a < row.length) (b0 : 0 ≤ b) (b1 : b < row.length) (hab : a ≠ b) :
    (dr row a.toNat + dr row b.toNat) % n ∈ joined n row a b ∧ parted n (joined n row a b) ((joined n row a b).idxOf ((dr row a.toNat + dr row b.toNat) % n) : Nat) (dr row a.toNat) = srt row := by
  have hp := wo2_perm row a0 a1 b0 b1 hab
  have ra := dr_rem (by omega) hrow.rem a.toNat
  have rb := dr_rem (by omega) hrow.rem b.toNat
  have hj : (joined n row a b).Perm (wo row [a, b] ++ [(dr row a.toNat + dr row b.toNat) % n]) := srt_perm _
  generalize dr row a.toNat = x at *
  generalize dr row b.toNat = y at *
  generalize joined n row a b = J at *
  generalize wo row [a, b] = w at *
  have hm : (x + y) % n ∈ J := hj.mem_iff.mpr (List.mem_append_right _ List.mem_cons_self)
  refine ⟨hm, ?_⟩
  have hlt := List.idxOf_lt_length_of_mem hm
  unfold parted
  rw [Int.toNat_natCast]
  have hd : dr J (J.idxOf ((x + y) % n)) = (x + y) % n := by
    unfold dr
    rw [List.getD_eq_getElem?_getD, List.getElem?_eq_getElem hlt, List.getElem_idxOf hlt]; rfl
  rw [hd]
  have e1 : ((x + y) % n - x) % n = y := by
    rw [Int.emod_sub_emod, show x + y - x = y by omega]
    exact Int.emod_eq_of_lt rb.1 rb.2
  rw [e1]
  refine srt_same ?_
  refine List.Perm.trans ?_ hp.symm
  refine List.Perm.append_right _ ?_
  have h1 : ((x + y) % n :: (J.take (J.idxOf ((x + y) % n)) ++ J.drop (J.idxOf ((x + y) % n) + 1))).Perm J := by
    have e : J.take (J.idxOf ((x + y) % n)) ++ (x + y) % n :: J.drop (J.idxOf ((x + y) % n) + 1) = J := by
      have := List.take_append_drop (J.idxOf ((x + y) % n)) J
      rw [List.drop_eq_getElem_cons hlt, List.getElem_idxOf hlt] at this
      exact this
    exact List.perm_middle.symm.trans (.of_eq e)
  have h3 : ((x + y) % n :: (J.take (J.idxOf ((x + y) % n)) ++ J.drop (J.idxOf ((x + y) % n) + 1))).Perm ((x + y) % n :: w) := h1.trans (hj.trans (List.perm_append_singleton _ _))
  exact h3.cons_inv
theorem free_ne0 {n : Int} (hn : 0 < n) {row : List Int} (hr : Rem n row) (hf : free n row = true) {x : Int} (hx : x ∈ row) : 1 ≤ x := by
  have h1 := hr x hx
  have h2 := (free_iff hn hr).mp hf [x] (List.singleton_sublist.mpr hx) (by simp)
  have : x ≠ 0 := fun e => h2 (by rw [e]; simp)
  omega
/-! ### the law's asking -/
def nmC (x : Str) : Str := if x = "HasZeroPart" then "zero" else if x = "InvalidNumber" then "number" else "cannot"
def chgOc (mode : Int) (a b : PyData) (n : Int) (row : List Int) : Oc := if mode = 0 then joinOc a b n row else if mode = 1 then splitOc a b n row else .er "HasZeroPart"
def Rchg : List PyData → PyData → Prop := fun ds d => ∃ (mode n : Int) (row : List Int) (a b : PyData), 2 ≤ n ∧ n ≤ 12 ∧ Row n row ∧ (mode = 0 ∨ mode = 1 ∨ free n row = false) ∧ ds = [.int mode, .int n, pT row, a, b] ∧ d = ocD nmC (chgOc mode a b n row)
theorem joinOc_er {a b : PyData} {n : Int} {row : List Int} {y : Str} (h : joinOc a b n row = .er y) : y = "HasZeroPart" ∨ y = "InvalidNumber" ∨ y = "CannotSplit" := by
  unfold joinOc at h
  split at h
  · split at h
    · split at h
      · split at h
        · cases h; exact .inr (.inl rfl)
        · cases h
      · cases h; exact .inr (.inl rfl)
    · cases h; exact .inr (.inl rfl)
  · cases h; exact .inl rfl
theorem splitOc_er {a b : PyData} {n : Int} {row : List Int} {y : Str} (h : splitOc a b n row = .er y) : y = "HasZeroPart" ∨ y = "InvalidNumber" ∨ y = "CannotSplit" := by
  unfold splitOc at h
  split at h
  · split at h
    · split at h
      · split at h
        · cases h; exact .inr (.inr rfl)
        · cases h
      · cases h; exact .inr (.inl rfl)
    · cases h; exact .inr (.inl rfl)
  · cases h; exact .inl rfl
theorem joinOc_nf {a b : PyData} {n : Int} {row : List Int} (h : free n row = false) : joinOc a b n row = .er "HasZeroPart" := by
  unfold joinOc; rw [if_neg (by rw [h]; decide)]
theorem splitOc_nf {a b : PyData} {n : Int} {row : List Int} (h : free n row = false) : splitOc a b n row = .er "HasZeroPart" := by
  unfold splitOc; rw [if_neg (by rw [h]; decide)]
theorem joinOc_ba {a b : PyData} {n : Int} {row : List Int} (h : free n row = true) (ha : inR a 0 (row.length - 1) = false) : joinOc a b n row = .er "InvalidNumber" := by
  unfold joinOc; rw [if_pos h, if_neg (by rw [ha]; decide)]
theorem splitOc_ba {a b : PyData} {n : Int} {row : List Int} (h : free n row = true) (ha : inR a 0 (row.length - 1) = false) : splitOc a b n row = .er "InvalidNumber" := by
  unfold splitOc; rw [if_pos h, if_neg (by rw [ha]; decide)]
theorem inR_yes {a lo hi : Int} (h0 : lo ≤ a) (h1 : a ≤ hi) : inR (.int a) lo hi = true := by
  show (decide (lo ≤ a) && decide (a ≤ hi)) = true
  rw [decide_eq_true h0, decide_eq_true h1]; rfl
theorem inR_no {a lo hi : Int} (h : ¬ (lo ≤ a ∧ a ≤ hi)) : inR (.int a) lo hi = false := by
  show (decide (lo ≤ a) && decide (a ≤ hi)) = false
  rw [← Bool.decide_and]; exact decide_eq_false h
theorem splitOc_bp {p : PyData} {a n : Int} {row : List Int} (h : free n row = true) (a0 : 0 ≤ a) (a1 : a < row.length) (hp : inR p 1 (n - 1) = false) : splitOc (.int a) p n row = .er "InvalidNumber" := by
  unfold splitOc; rw [if_pos h, if_pos (inR_yes a0 (by omega)), if_neg (by rw [hp]; decide)]
theorem splitOc_go {a p n : Int} {row : List Int} (h : free n row = true) (a0 : 0 ≤ a) (a1 : a < row.length) (p0 : 1 ≤ p) (p1 : p < n) (hl : (parted n row a p).length ≤ 11) : splitOc (.int a) (.int p) n row = if free n (parted n row a p) = true then .ok (pT (parted n row a p)) else .er "CannotSplit" := by
  unfold splitOc
  rw [if_pos h, if_pos (inR_yes a0 (by omega)), if_pos (inR_yes p0 (by omega))]
  show (if (decide (11 < ((parted n row a p).length : Int)) || decide (0 ∈ rch n (parted n row a p))) = true then Oc.er "CannotSplit" else .ok (pT (parted n row a p))) = _
  rw [decide_eq_false (by omega), Bool.false_or]
  unfold free
  cases decide (0 ∈ rch n (parted n row a p)) <;> rfl
theorem joinOc_go {a b n : Int} {row : List Int} (h : free n row = true) (a0 : 0 ≤ a) (a1 : a < row.length) (b0 : 0 ≤ b) (b1 : b < row.length) : joinOc (.int a) (.int b) n row = if a = b then .er "InvalidNumber" else .ok (pT (joined n row a b)) := by
  unfold joinOc
  rw [if_pos h, if_pos (inR_yes a0 (by omega)), if_pos (inR_yes b0 (by omega))]
  rfl
theorem parted_row {n : Int} (h2 : 2 ≤ n) {row : List Int} (hrow : Row n row) {a p : Int} (a0 : 0 ≤ a) (a1 : a < row.length) (p0 : 1 ≤ p) (p1 : p < n) (hl : row.length ≤ 10) : Row n (parted n row a p) := by
  refine ⟨?_, fun x hx => ?_⟩
  · unfold parted
    rw [srt_len, List.length_append, List.length_append, List.length_take, List.length_drop]
    simp only [List.length_cons, List.length_nil]
    omega
  · have hx := mem_srt.mp hx
    rcases List.mem_append.mp hx with hx | hx
    · rcases List.mem_append.mp hx with hx | hx
      · exact hrow.mem x (List.mem_of_mem_take hx)
      · exact hrow.mem x (List.mem_of_mem_drop hx)
    · rcases List.mem_cons.mp hx with rfl | hx
      · omega
      · rw [List.mem_singleton] at hx; subst hx; exact emod_rem (by omega) _
end CS

set_option maxRecDepth 100000
set_option maxHeartbeats 4000000
namespace CS
open PySem PySem.Spec PyProof.Rows L2
/-! ### calls that raise (k17) -/
def RisZeroE : List PyData → Oc → Prop := fun ds o => ∃ h r v x, ds = [h, r, v] ∧ ckRow h r = .er x ∧ o = .er x
def RroadE : List PyData → Oc → Prop := fun ds o => ∃ h a b x, ds = [h, a, b] ∧ (onRow ckFr h a = .er x ∨ (onRow ckFr h a = .ok .none ∧ onRow ckFr h b = .er x)) ∧ o = .er x
def odds4 : List PyData := [.none, .str "x", .list [.int 7], .int (-5)]
theorem odds4_in {w : PyData} (h : w ∈ odds4) {lo hi : Int} (hl : 0 ≤ lo) : inR w lo hi = false := by
  simp only [odds4, List.mem_cons, List.not_mem_nil, or_false] at h
  rcases h with rfl | rfl | rfl | rfl
  · rfl
  · rfl
  · rfl
  · exact inR_no (by omega)
theorem odds4_row {w : PyData} (h : w ∈ odds4) : ckRow (.int 5) w = .er "InvalidRow" ∧ ckRow (.int 10) w = .er "InvalidRow" ∧ ckRow w w = .er "InvalidHours" := by
  simp only [odds4, List.mem_cons, List.not_mem_nil, or_false] at h
  rcases h with rfl | rfl | rfl | rfl <;> exact ⟨rfl, rfl, rfl⟩
def askX : List (Str × Int) := [("InvalidHours", 0), ("InvalidHours", 0), ("InvalidRow", 1), ("InvalidRow", 1), ("HasZeroPart", 5), ("HasZeroPart", 5), ("InvalidNumber", 2), ("InvalidRow", 1), ("HasZeroPart", 5), ("InvalidHours", 0), ("InvalidNumber", 2), ("InvalidHours", 0)]
def Rasked : List PyData → Oc → Prop := fun ds o => ∃ (mode : Int) (odd : PyData) (p : Str × Int), odd ∈ odds4 ∧ 0 ≤ mode ∧ mode < 12 ∧ askX[mode.toNat]? = some p ∧ ds = [.int mode, odd] ∧ o = .er p.1
theorem fr23 : ckFr 5 [2, 3] = .er "HasZeroPart" := if_neg (by decide +kernel)
theorem fr1 : free 5 [1] = true := by decide +kernel
theorem fr10 : ckFr 10 [1] = .ok .none := if_pos (by decide +kernel)
theorem fr55 : ckFr 10 [5, 5] = .er "HasZeroPart" := if_neg (by decide +kernel)
theorem row_dec {n : Int} {row : List Int} (h : (decide (row.length ≤ 11) && row.all fun x => decide (0 ≤ x) && decide (x < n)) = true) : Row n row := by
  rw [Bool.and_eq_true, decide_eq_true_eq, List.all_eq_true] at h
  refine ⟨h.1, fun x hx => ?_⟩
  have := h.2 x hx
  rw [Bool.and_eq_true, decide_eq_true_eq, decide_eq_true_eq] at this
  exact this
end CS

set_option maxHeartbeats 40000000
namespace CS
open PySem PySem.Spec PyProof.Rows L2
def topS (i : Nat) : Stmt := PySem.Challenge.pw_clocksums_k17_first_exception.main.body.getD i (.Pass ⟨0, 0, 0, 0⟩)
abbrev s_in_range : Stmt := topS 14
abbrev N_in_range : List Str := ["value", "low", "high"]
theorem sc_in_range : FnScope N_in_range ["value", "low", "high"] (defScope s_in_range) := ⟨rfl, rfl, rfl, by decide +kernel, rfl, by decide +kernel, by decide +kernel⟩
theorem bd_in_range : BindOk "in_range" s_in_range ["value", "low", "high"] := fun _ _ _ _ _ _ us hl => match us, hl with | [_, _, _], _ => rfl
abbrev s_check_hours : Stmt := topS 15
abbrev N_check_hours : List Str := ["hours"]
theorem sc_check_hours : FnScope N_check_hours ["hours"] (defScope s_check_hours) := ⟨rfl, rfl, rfl, by decide +kernel, rfl, by decide +kernel, by decide +kernel⟩
theorem bd_check_hours : BindOk "check_hours" s_check_hours ["hours"] := fun _ _ _ _ _ _ us hl => match us, hl with | [_], _ => rfl
abbrev s_is_row_of : Stmt := topS 16
abbrev N_is_row_of : List Str := ["hours", "value", "one"]
theorem sc_is_row_of : FnScope N_is_row_of ["hours", "value"] (defScope s_is_row_of) := ⟨rfl, rfl, rfl, by decide +kernel, rfl, by decide +kernel, by decide +kernel⟩
theorem bd_is_row_of : BindOk "is_row_of" s_is_row_of ["hours", "value"] := fun _ _ _ _ _ _ us hl => match us, hl with | [_, _], _ => rfl
abbrev s_is_row : Stmt := topS 17
abbrev N_is_row : List Str := ["hours", "value"]
theorem sc_is_row : FnScope N_is_row ["hours", "value"] (defScope s_is_row) := ⟨rfl, rfl, rfl, by decide +kernel, rfl, by decide +kernel, by decide +kernel⟩
theorem bd_is_row : BindOk "is_row" s_is_row ["hours", "value"] := fun _ _ _ _ _ _ us hl => match us, hl with | [_, _], _ => rfl
abbrev s_check_row : Stmt := topS 18
abbrev N_check_row : List Str := ["hours", "row"]
theorem sc_check_row : FnScope N_check_row ["hours", "row"] (defScope s_check_row) := ⟨rfl, rfl, rfl, by decide +kernel, rfl, by decide +kernel, by decide +kernel⟩
theorem bd_check_row : BindOk "check_row" s_check_row ["hours", "row"] := fun _ _ _ _ _ _ us hl => match us, hl with | [_, _], _ => rfl
abbrev s_reached : Stmt := topS 19
abbrev N_reached : List Str := ["hours", "row", "found", "one", "more", "sum_here"]
theorem sc_reached : FnScope N_reached ["hours", "row"] (defScope s_reached) := ⟨rfl, rfl, rfl, by decide +kernel, rfl, by decide +kernel, by decide +kernel⟩
theorem bd_reached : BindOk "reached" s_reached ["hours", "row"] := fun _ _ _ _ _ _ us hl => match us, hl with | [_, _], _ => rfl
abbrev s_sums : Stmt := topS 20
abbrev N_sums : List Str := ["hours", "row"]
theorem sc_sums : FnScope N_sums ["hours", "row"] (defScope s_sums) := ⟨rfl, rfl, rfl, by decide +kernel, rfl, by decide +kernel, by decide +kernel⟩
theorem bd_sums : BindOk "sums" s_sums ["hours", "row"] := fun _ _ _ _ _ _ us hl => match us, hl with | [_, _], _ => rfl
abbrev s_part_sum : Stmt := topS 21
abbrev N_part_sum : List Str := ["hours", "row", "places", "place"]
theorem sc_part_sum : FnScope N_part_sum ["hours", "row", "places"] (defScope s_part_sum) := ⟨rfl, rfl, rfl, by decide +kernel, rfl, by decide +kernel, by decide +kernel⟩
theorem bd_part_sum : BindOk "part_sum" s_part_sum ["hours", "row", "places"] := fun _ _ _ _ _ _ us hl => match us, hl with | [_, _, _], _ => rfl
abbrev s_is_part : Stmt := topS 22
abbrev N_is_part : List Str := ["row", "value", "place", "one", "other"]
theorem sc_is_part : FnScope N_is_part ["row", "value"] (defScope s_is_part) := ⟨rfl, rfl, rfl, by decide +kernel, rfl, by decide +kernel, by decide +kernel⟩
theorem bd_is_part : BindOk "is_part" s_is_part ["row", "value"] := fun _ _ _ _ _ _ us hl => match us, hl with | [_, _], _ => rfl
abbrev s_is_zero_part : Stmt := topS 23
abbrev N_is_zero_part : List Str := ["hours", "row", "value"]
theorem sc_is_zero_part : FnScope N_is_zero_part ["hours", "row", "value"] (defScope s_is_zero_part) := ⟨rfl, rfl, rfl, by decide +kernel, rfl, by decide +kernel, by decide +kernel⟩
theorem bd_is_zero_part : BindOk "is_zero_part" s_is_zero_part ["hours", "row", "value"] := fun _ _ _ _ _ _ us hl => match us, hl with | [_, _, _], _ => rfl
abbrev s_check_free : Stmt := topS 24
abbrev N_check_free : List Str := ["hours", "row"]
theorem sc_check_free : FnScope N_check_free ["hours", "row"] (defScope s_check_free) := ⟨rfl, rfl, rfl, by decide +kernel, rfl, by decide +kernel, by decide +kernel⟩
theorem bd_check_free : BindOk "check_free" s_check_free ["hours", "row"] := fun _ _ _ _ _ _ us hl => match us, hl with | [_, _], _ => rfl
abbrev s_arranged : Stmt := topS 26
abbrev N_arranged : List Str := ["row"]
theorem sc_arranged : FnScope N_arranged ["row"] (defScope s_arranged) := ⟨rfl, rfl, rfl, by decide +kernel, rfl, by decide +kernel, by decide +kernel⟩
theorem bd_arranged : BindOk "arranged" s_arranged ["row"] := fun _ _ _ _ _ _ us hl => match us, hl with | [_], _ => rfl
abbrev s_check_place : Stmt := topS 27
abbrev N_check_place : List Str := ["row", "place"]
theorem sc_check_place : FnScope N_check_place ["row", "place"] (defScope s_check_place) := ⟨rfl, rfl, rfl, by decide +kernel, rfl, by decide +kernel, by decide +kernel⟩
theorem bd_check_place : BindOk "check_place" s_check_place ["row", "place"] := fun _ _ _ _ _ _ us hl => match us, hl with | [_, _], _ => rfl
abbrev s_join : Stmt := topS 28
abbrev N_join : List Str := ["hours", "row", "one", "other", "rest", "place", "number"]
theorem sc_join : FnScope N_join ["hours", "row", "one", "other"] (defScope s_join) := ⟨rfl, rfl, rfl, by decide +kernel, rfl, by decide +kernel, by decide +kernel⟩
theorem bd_join : BindOk "join" s_join ["hours", "row", "one", "other"] := fun _ _ _ _ _ _ us hl => match us, hl with | [_, _, _, _], _ => rfl
abbrev s_split : Stmt := topS 29
abbrev N_split : List Str := ["hours", "row", "place", "part", "result"]
theorem sc_split : FnScope N_split ["hours", "row", "place", "part"] (defScope s_split) := ⟨rfl, rfl, rfl, by decide +kernel, rfl, by decide +kernel, by decide +kernel⟩
theorem bd_split : BindOk "split" s_split ["hours", "row", "place", "part"] := fun _ _ _ _ _ _ us hl => match us, hl with | [_, _, _, _], _ => rfl
abbrev s_near_of : Stmt := topS 30
abbrev N_near_of : List Str := ["hours", "row", "found", "place", "rest", "other", "joined", "part", "longer"]
theorem sc_near_of : FnScope N_near_of ["hours", "row"] (defScope s_near_of) := ⟨rfl, rfl, rfl, by decide +kernel, rfl, by decide +kernel, by decide +kernel⟩
theorem bd_near_of : BindOk "near_of" s_near_of ["hours", "row"] := fun _ _ _ _ _ _ us hl => match us, hl with | [_, _], _ => rfl
abbrev s_road : Stmt := topS 31
abbrev N_road : List Str := ["hours", "one", "other", "start", "goal", "before", "queue", "row", "more", "result"]
theorem sc_road : FnScope N_road ["hours", "one", "other"] (defScope s_road) := ⟨rfl, rfl, rfl, by decide +kernel, rfl, by decide +kernel, by decide +kernel⟩
theorem bd_road : BindOk "road" s_road ["hours", "one", "other"] := fun _ _ _ _ _ _ us hl => match us, hl with | [_, _, _], _ => rfl
abbrev s_free_rows : Stmt := topS 33
abbrev N_free_rows : List Str := ["hours", "length", "found", "time", "longer", "row", "start", "rows", "one"]
theorem sc_free_rows : FnScope N_free_rows ["hours", "length"] (defScope s_free_rows) := ⟨rfl, rfl, rfl, by decide +kernel, rfl, by decide +kernel, by decide +kernel⟩
theorem bd_free_rows : BindOk "free_rows" s_free_rows ["hours", "length"] := fun _ _ _ _ _ _ us hl => match us, hl with | [_, _], _ => rfl
abbrev s_check_small : Stmt := topS 34
abbrev N_check_small : List Str := ["hours", "length"]
theorem sc_check_small : FnScope N_check_small ["hours", "length"] (defScope s_check_small) := ⟨rfl, rfl, rfl, by decide +kernel, rfl, by decide +kernel, by decide +kernel⟩
theorem bd_check_small : BindOk "check_small" s_check_small ["hours", "length"] := fun _ _ _ _ _ _ us hl => match us, hl with | [_, _], _ => rfl
abbrev s_all_free : Stmt := topS 35
abbrev N_all_free : List Str := ["hours", "length"]
theorem sc_all_free : FnScope N_all_free ["hours", "length"] (defScope s_all_free) := ⟨rfl, rfl, rfl, by decide +kernel, rfl, by decide +kernel, by decide +kernel⟩
theorem bd_all_free : BindOk "all_free" s_all_free ["hours", "length"] := fun _ _ _ _ _ _ us hl => match us, hl with | [_, _], _ => rfl
abbrev s_check_answers : Stmt := topS 36
abbrev N_check_answers : List Str := ["hours", "length", "answers", "answer"]
theorem sc_check_answers : FnScope N_check_answers ["hours", "length", "answers"] (defScope s_check_answers) := ⟨rfl, rfl, rfl, by decide +kernel, rfl, by decide +kernel, by decide +kernel⟩
theorem bd_check_answers : BindOk "check_answers" s_check_answers ["hours", "length", "answers"] := fun _ _ _ _ _ _ us hl => match us, hl with | [_, _, _], _ => rfl
abbrev s_candidates : Stmt := topS 37
abbrev N_candidates : List Str := ["hours", "length", "answers", "row", "one", "told"]
theorem sc_candidates : FnScope N_candidates ["hours", "length", "answers"] (defScope s_candidates) := ⟨rfl, rfl, rfl, by decide +kernel, rfl, by decide +kernel, by decide +kernel⟩
theorem bd_candidates : BindOk "candidates" s_candidates ["hours", "length", "answers"] := fun _ _ _ _ _ _ us hl => match us, hl with | [_, _, _], _ => rfl
abbrev s_best_remainder : Stmt := topS 38
abbrev N_best_remainder : List Str := ["hours", "length", "answers", "found", "best", "one", "here", "row", "worst", "told"]
theorem sc_best_remainder : FnScope N_best_remainder ["hours", "length", "answers"] (defScope s_best_remainder) := ⟨rfl, rfl, rfl, by decide +kernel, rfl, by decide +kernel, by decide +kernel⟩
theorem bd_best_remainder : BindOk "best_remainder" s_best_remainder ["hours", "length", "answers"] := fun _ _ _ _ _ _ us hl => match us, hl with | [_, _, _], _ => rfl
abbrev s__law_cell : Stmt := topS 40
abbrev N__law_cell : List Str := ["script", "k"]
theorem sc__law_cell : FnScope N__law_cell ["script", "k"] (defScope s__law_cell) := ⟨rfl, rfl, rfl, by decide +kernel, rfl, by decide +kernel, by decide +kernel⟩
theorem bd__law_cell : BindOk "_law_cell" s__law_cell ["script", "k"] := fun _ _ _ _ _ _ us hl => match us, hl with | [_, _], _ => rfl
abbrev s__law_asked : Stmt := topS 41
abbrev N__law_asked : List Str := ["mode", "odd"]
theorem sc__law_asked : FnScope N__law_asked ["mode", "odd"] (defScope s__law_asked) := ⟨rfl, rfl, rfl, by decide +kernel, rfl, by decide +kernel, by decide +kernel⟩
theorem bd__law_asked : BindOk "_law_asked" s__law_asked ["mode", "odd"] := fun _ _ _ _ _ _ us hl => match us, hl with | [_, _], _ => rfl
abbrev s_law : Stmt := topS 42
abbrev N_law : List Str := ["script", "mode", "odd", "wanted", "found", "e", "at"]
theorem sc_law : FnScope N_law ["script"] (defScope s_law) := ⟨rfl, rfl, rfl, by decide +kernel, rfl, by decide +kernel, by decide +kernel⟩
theorem bd_law : BindOk "law" s_law ["script"] := fun _ _ _ _ _ _ us hl => match us, hl with | [_], _ => rfl
/-- built-in names that the top leaves alone, constants -/
structure Bl (g : Gb) : Prop where
  b_bool : g.mg "bool" = none
  b_enumerate : g.mg "enumerate" = none
  b_int : g.mg "int" = none
  b_isinstance : g.mg "isinstance" = none
  b_len : g.mg "len" = none
  b_max : g.mg "max" = none
  b_range : g.mg "range" = none
  b_sorted : g.mg "sorted" = none
  b_sum : g.mg "sum" = none
  b_tuple : g.mg "tuple" = none
  b_zip : g.mg "zip" = none
  c_MAX_HOURS : ∃ t, g.mg "MAX_HOURS" = some (.int 12 t)
  c_MAX_LENGTH : ∃ t, g.mg "MAX_LENGTH" = some (.int 11 t)
def clsL : List Str := ["ClockError", "InvalidHours", "InvalidRow", "InvalidNumber", "InvalidAnswers", "NoZeroPart", "HasZeroPart", "NoMultiplier", "CannotSplit", "NoRoad"]
/-- what the top has written -/
structure Txt (g : Gb) : Prop where
  b : Bl g
  d_in_range : DefOk g "in_range" s_in_range
  d_check_hours : DefOk g "check_hours" s_check_hours
  d_is_row_of : DefOk g "is_row_of" s_is_row_of
  d_is_row : DefOk g "is_row" s_is_row
  d_check_row : DefOk g "check_row" s_check_row
  d_reached : DefOk g "reached" s_reached
  d_sums : DefOk g "sums" s_sums
  d_part_sum : DefOk g "part_sum" s_part_sum
  d_is_part : DefOk g "is_part" s_is_part
  d_is_zero_part : DefOk g "is_zero_part" s_is_zero_part
  d_check_free : DefOk g "check_free" s_check_free
  d_arranged : DefOk g "arranged" s_arranged
  d_check_place : DefOk g "check_place" s_check_place
  d_join : DefOk g "join" s_join
  d_split : DefOk g "split" s_split
  d_near_of : DefOk g "near_of" s_near_of
  d_road : DefOk g "road" s_road
  d_free_rows : DefOk g "free_rows" s_free_rows
  d_check_small : DefOk g "check_small" s_check_small
  d_all_free : DefOk g "all_free" s_all_free
  d_check_answers : DefOk g "check_answers" s_check_answers
  d_candidates : DefOk g "candidates" s_candidates
  d_best_remainder : DefOk g "best_remainder" s_best_remainder
  d__law_cell : DefOk g "_law_cell" s__law_cell
  d__law_asked : DefOk g "_law_asked" s__law_asked
  d_law : DefOk g "law" s_law
  x_ClockError : ∃ C, Xc g "ClockError" C
  x_InvalidHours : ∃ C, Xc g "InvalidHours" C
  x_InvalidRow : ∃ C, Xc g "InvalidRow" C
  x_InvalidNumber : ∃ C, Xc g "InvalidNumber" C
  x_InvalidAnswers : ∃ C, Xc g "InvalidAnswers" C
  x_NoZeroPart : ∃ C, Xc g "NoZeroPart" C
  x_HasZeroPart : ∃ C, Xc g "HasZeroPart" C
  x_NoMultiplier : ∃ C, Xc g "NoMultiplier" C
  x_CannotSplit : ∃ C, Xc g "CannotSplit" C
  x_NoRoad : ∃ C, Xc g "NoRoad" C
  kx : Kx g clsL
theorem Txt.cls {g : Gb} (T : Txt g) : ∀ x ∈ clsL, ∃ C, g.mg x = some (.ref C) := by
  intro x hx
  simp only [clsL, List.mem_cons, List.not_mem_nil, or_false] at hx
  rcases hx with rfl | rfl | rfl | rfl | rfl | rfl | rfl | rfl | rfl | rfl
  · obtain ⟨C, h⟩ := T.x_ClockError; exact ⟨C, h.gC⟩
  · obtain ⟨C, h⟩ := T.x_InvalidHours; exact ⟨C, h.gC⟩
  · obtain ⟨C, h⟩ := T.x_InvalidRow; exact ⟨C, h.gC⟩
  · obtain ⟨C, h⟩ := T.x_InvalidNumber; exact ⟨C, h.gC⟩
  · obtain ⟨C, h⟩ := T.x_InvalidAnswers; exact ⟨C, h.gC⟩
  · obtain ⟨C, h⟩ := T.x_NoZeroPart; exact ⟨C, h.gC⟩
  · obtain ⟨C, h⟩ := T.x_HasZeroPart; exact ⟨C, h.gC⟩
  · obtain ⟨C, h⟩ := T.x_NoMultiplier; exact ⟨C, h.gC⟩
  · obtain ⟨C, h⟩ := T.x_CannotSplit; exact ⟨C, h.gC⟩
  · obtain ⟨C, h⟩ := T.x_NoRoad; exact ⟨C, h.gC⟩
local macro_rules | `(tactic| walk_at "b") => `(tactic| ((try dsimp only [Cfg.blk]); decide +kernel))
local macro_rules | `(tactic| walk_at "j") => `(tactic| exact Nat.le_of_ble_eq_true rfl)
local macro_rules | `(tactic| walk_at "sub") => `(tactic| repeat (first | exact True.intro | (refine ⟨rfl, ?_⟩)))
local macro_rules | `(tactic| walk_at "sl") => `(tactic| ((repeat rw [List.getElem?_set_ne (by decide)]); first | assumption | exact List.getElem?_set_self (by first | decide | omega | (simp only [List.length_set]; omega))))
local macro_rules | `(tactic| walk_at "R") => `(tactic| first | exact ⟨_, rfl, rfl⟩ | exact ⟨_, _, rfl, rfl⟩ | exact ⟨_, _, _, rfl, rfl⟩ | exact ⟨_, rfl, rfl, by omega⟩ | exact ⟨_, _, rfl, rfl, by omega⟩ | exact ⟨_, _, _, rfl, rfl, by omega⟩ | walk_at "moreR")
local macro_rules | `(tactic| walk_at "n") => `(tactic| first
  | (apply ev_globI; assumption; walk_at "b"; decide) | (apply ev_globS; assumption; walk_at "b"; decide)
)
local macro_rules | `(tactic| walk_at "i") => `(tactic| first | assumption | omega | decide | exact ⟨by omega, by omega⟩ | exact Or.inl ⟨by omega, by omega⟩ | exact Or.inr ⟨by omega, by omega⟩ | exact ⟨by omega, by omega, by decide⟩)
local macro_rules | `(tactic| walk_at "len") => `(tactic| first | decide | (simp only [List.length_map, List.length_append, List.length_cons, List.length_nil, rgD_len]; omega) | assumption)
local macro_rules | `(tactic| walk_at "ts") => `(tactic| first | (intro x h; cases h) | walk_at "more")
local macro_rules | `(tactic| walk_at "sh") => `(tactic| first | rfl | decide)
local macro_rules | `(tactic| walk_at "eo") => `(tactic| first | exact eo_none | (apply eo_some; walk_at "ev"))
local macro_rules | `(tactic| walk_at "ix") => `(tactic| first | (apply Ats.at; assumption; (walk_at "i"); (walk_at "i")) | (apply list_at; (walk_at "i"); (walk_at "i")) | exact rfl | walk_at "moreix")
local macro_rules | `(tactic| walk_at "ei") => `(tactic| first | (apply ei_rng1; walk_at "ev"; assumption; walk_at "b"; (walk_at "i"); (walk_at "i"); exact fun _ => rfl) | (apply ei_rng2; walk_at "ev"; walk_at "ev"; assumption; walk_at "b"; (walk_at "i"); (walk_at "i"); (walk_at "i"); (walk_at "i"); exact (fun _ => rfl); exact fun _ => rfl) | (apply ei_tup; walk_at "ev") | (apply ei_list; walk_at "ev") | walk_at "moreei")
local macro_rules | `(tactic| walk_at "lx") => `(tactic| first | assumption | (simp only [List.length_map, List.length_append, List.length_cons, List.length_nil, rng_len, rgD_len]; omega) | omega)
local macro_rules | `(tactic| walk_at "el") => `(tactic| walk_at "moreel")
local macro_rules | `(tactic| walk_at "evx") => `(tactic| first | (apply evx; walk_at "ev") | (apply evx_sh; walk_at "ev"; exact rfl))
local macro_rules | `(tactic| walk_at "nf") => `(tactic| (conv => arg 2; try simp only [List.set_cons_zero, List.set_cons_succ, List.map_cons, List.map_nil, List.cons_append, List.nil_append, List.replicate_succ, List.replicate_zero]))
local macro_rules | `(tactic| walk_at "ret") => `(tactic| refine run_ret ?_ ?_)
local macro_rules | `(tactic| walk_at "ea") => `(tactic| first | exact ea_nil | (apply ea_cons; walk_at "ev"; walk_at "ea"; exact fun _ => rfl))
local macro_rules | `(tactic| walk_at "ev") => `(tactic| first
  | ((with_reducible show Ev _ _ (.Name _ _) _); first | (walk_at "n") | (walk_at "more"))
  | exact ev_int | exact ev_str | exact ev_none | exact ev_bool
  | ((with_reducible show Ev _ _ (.BinOp _ .Add _ _) _); first | (apply ev_add; walk_at "ev"; walk_at "ev") | (apply ev_catL; walk_at "ev"; walk_at "ev"; walk_at "len") | (apply ev_catT; walk_at "ev"; walk_at "ev"; walk_at "len") | (apply ev_catS; walk_at "ev"; walk_at "ev"; walk_at "len") | (walk_at "more"))
  | ((with_reducible show Ev _ _ (.BinOp _ .Sub _ _) _); first | (apply ev_sub; walk_at "ev"; walk_at "ev"))
  | ((with_reducible show Ev _ _ (.BinOp _ .Mod _ _) _); first | (apply ev_mod; walk_at "ev"; walk_at "ev"; walk_at "i"))
  | ((with_reducible show Ev _ _ (.BinOp _ .Mult _ _) _); first | (apply ev_mul; walk_at "ev"; walk_at "ev"; walk_at "i") | (walk_at "more"))
  | ((with_reducible show Ev _ _ (.BinOp _ .FloorDiv _ _) _); first | (apply ev_fdiv; walk_at "ev"; walk_at "ev"; walk_at "i"))
  | ((with_reducible show Ev _ _ (.BinOp _ .Pow _ _) _); first | (apply ev_pow; walk_at "ev"; walk_at "ev"; walk_at "i"))
  | ((with_reducible show Ev _ _ (.UnaryOp .USub _ _) _); first | (apply ev_neg; walk_at "ev"))
  | ((with_reducible show Ev _ _ (.UnaryOp .Not _ _) _); first | (apply ev_not; walk_at "ev") | (apply ev_notT; walk_at "ev"; walk_at "ts") | (walk_at "more"))
  | ((with_reducible show Ev _ _ (.BoolOp _ [_] _) _); first | (apply ev_one; walk_at "ev"))
  | ((with_reducible show Ev _ _ (.BoolOp .And _ _) _); first | (apply ev_andF; apply Ev.cast; (walk_at "ev"); exact rfl) | (apply ev_and; walk_at "ev"; intro _; walk_at "ev"))
  | ((with_reducible show Ev _ _ (.BoolOp .Or _ _) _); first | (apply ev_orT; apply Ev.cast; (walk_at "ev"); exact rfl) | (apply ev_or; walk_at "ev"; intro _; walk_at "ev"))
  | ((with_reducible show Ev _ _ (.Compare _ [_, _] _ _) _); first | (apply ev_chainLe; walk_at "ev"; walk_at "ev"; walk_at "ev"; with_unfolding_all exact rfl))
  | ((with_reducible show Ev _ _ (.Compare _ [.Lt] _ _) _); first | (apply ev_lt; walk_at "ev"; walk_at "ev"))
  | ((with_reducible show Ev _ _ (.Compare _ [.LtE] _ _) _); first | (apply ev_le; walk_at "ev"; walk_at "ev"))
  | ((with_reducible show Ev _ _ (.Compare _ [.Gt] _ _) _); first | (apply ev_gt; walk_at "ev"; walk_at "ev"))
  | ((with_reducible show Ev _ _ (.Compare _ [.GtE] _ _) _); first | (apply ev_ge; walk_at "ev"; walk_at "ev"))
  | ((with_reducible show Ev _ _ (.Compare _ [.Eq] _ _) _); first | (apply ev_eqI; walk_at "ev"; walk_at "ev") | (walk_at "more") | (apply ev_eq; walk_at "ev"; walk_at "ev"; walk_at "sh"; walk_at "sh"))
  | ((with_reducible show Ev _ _ (.Compare _ [.NotEq] _ _) _); first | (apply ev_neI; walk_at "ev"; walk_at "ev") | (walk_at "more") | (apply ev_ne; walk_at "ev"; walk_at "ev"; walk_at "sh"; walk_at "sh"))
  | ((with_reducible show Ev _ _ (.Compare _ [.Is] _ _) _); first | (apply ev_isN; walk_at "ev"))
  | ((with_reducible show Ev _ _ (.Compare _ [.IsNot] _ _) _); first | (apply ev_notN; walk_at "ev"))
  | ((with_reducible show Ev _ _ (.Compare _ [.In] _ _) _); first | (apply ev_inL; walk_at "ev"; walk_at "ev"; exact rfl) | (apply ev_inT; walk_at "ev"; walk_at "ev"; exact rfl) | (walk_at "more"))
  | ((with_reducible show Ev _ _ (.Compare _ [.NotIn] _ _) _); first | (apply ev_niL; walk_at "ev"; walk_at "ev"; exact rfl) | (apply ev_niT; walk_at "ev"; walk_at "ev"; exact rfl) | (walk_at "more"))
  | ((with_reducible show Ev _ _ (.Call (.Name "isinstance" _) [_, .Name "int" _] [] _) _); first | (apply ev_isInt; walk_at "ev"; assumption; walk_at "b"; assumption; walk_at "b"; exact fun _ => rfl))
  | ((with_reducible show Ev _ _ (.Call (.Name "isinstance" _) [_, .Name "bool" _] [] _) _); first | (apply ev_isBool; walk_at "ev"; assumption; walk_at "b"; assumption; walk_at "b"; exact fun _ => rfl))
  | ((with_reducible show Ev _ _ (.Call (.Name "isinstance" _) [_, .Name "tuple" _] [] _) _); first | (apply ev_isTup; walk_at "ev"; assumption; walk_at "b"; assumption; walk_at "b"; exact fun _ => rfl))
  | ((with_reducible show Ev _ _ (.Call (.Name "isinstance" _) [_, .Name "str" _] [] _) _); first | (apply ev_isStr; walk_at "ev"; assumption; walk_at "b"; assumption; walk_at "b"; exact fun _ => rfl))
  | ((with_reducible show Ev _ _ (.Call (.Name "len" _) [_] [] _) _); first | (apply ev_lenL; walk_at "ev"; assumption; walk_at "b"; exact fun _ => rfl) | (apply ev_lenT; walk_at "ev"; assumption; walk_at "b"; exact fun _ => rfl) | (walk_at "more"))
  | ((with_reducible show Ev _ _ (.Call (.Name "sum" _) [_] [] _) _); first | (apply ev_sum; walk_at "ev"; assumption; walk_at "b"; exact fun _ => rfl) | (walk_at "more"))
  | ((with_reducible show Ev _ _ (.Call (.Name "min" _) [_, _] [] _) _); first | (apply ev_min2; walk_at "ev"; walk_at "ev"; assumption; walk_at "b"; exact fun _ => rfl; exact fun _ => rfl; exact fun _ => rfl))
  | ((with_reducible show Ev _ _ (.Call (.Name "max" _) [_, _] [] _) _); first | (apply ev_max2; walk_at "ev"; walk_at "ev"; assumption; walk_at "b"; exact fun _ => rfl; exact fun _ => rfl; exact fun _ => rfl))
  | ((with_reducible show Ev _ _ (.Call (.Name "tuple" _) [_] [] _) _); first | (apply ev_tupleL; walk_at "ev"; assumption; walk_at "b"; exact fun _ => rfl) | (walk_at "more"))
  | ((with_reducible show Ev _ _ (.Call (.Name "list" _) [_] [] _) _); first | (apply ev_listT; walk_at "ev"; assumption; walk_at "b"; exact fun _ => rfl) | (walk_at "more"))
  | ((with_reducible show Ev _ _ (.List _ _) _); first | (apply ev_list; walk_at "ea"; exact Nat.le_of_ble_eq_true rfl))
  | ((with_reducible show Ev _ _ (.Tuple _ _ _) _); first | (apply ev_tuple; walk_at "ea"; exact Nat.le_of_ble_eq_true rfl))
  | ((with_reducible show Ev _ _ (.Call (.Name _ _) _ [] _) _); first | (apply ev_call; assumption; walk_at "ea"; walk_at "R"; walk_at "j"; walk_at "b"; decide; exact fun _ => rfl; exact fun _ => rfl) | (walk_at "more"))
  | ((with_reducible show Ev _ _ (.Subscript _ (.Slice _ _ none _) _) _); first | (apply ev_slT; walk_at "ev"; walk_at "eo"; walk_at "eo") | (apply ev_slL; walk_at "ev"; walk_at "eo"; walk_at "eo") | (walk_at "more"))
  | ((with_reducible show Ev _ _ (.Subscript _ _ _) _); first | (apply ev_ixL; walk_at "ev"; walk_at "ev"; walk_at "ix"; exact fun _ _ => rfl) | (apply ev_ixT; walk_at "ev"; walk_at "ev"; walk_at "ix"; exact fun _ _ => rfl) | (walk_at "more"))
  | ((with_reducible show Ev _ _ (.IfExp _ _ _ _) _); first | (apply ev_if; walk_at "et"; (intro _; walk_at "ev"); (intro _; walk_at "ev")) | (walk_at "more"))
  | ((with_reducible show Ev _ _ (.ListComp _ _ _ _) _); first | (apply EvL.ev; walk_at "el") | (walk_at "more"))
  | walk_at "more")
local macro_rules | `(tactic| walk_at "et") => `(tactic| first
  | ((with_reducible show EvT _ _ (.UnaryOp .Not _ _) _); first | (apply et_not; walk_at "et"))
  | ((with_reducible show EvT _ _ (.BoolOp _ _ _) _); first | (apply EvW.t; walk_at "ew"))
  | ((with_reducible show EvT _ _ (.Compare _ [_, _] _ _) _); first | (apply et_chainLe; walk_at "ev"; walk_at "ev"; walk_at "ev"; with_unfolding_all exact rfl))
  | ((with_reducible show EvT _ _ (.Compare _ [.Lt] _ _) _); first | (apply et_lt; walk_at "ev"; walk_at "ev"))
  | ((with_reducible show EvT _ _ (.Compare _ [.LtE] _ _) _); first | (apply et_le; walk_at "ev"; walk_at "ev"))
  | ((with_reducible show EvT _ _ (.Compare _ [.Gt] _ _) _); first | (apply et_gt; walk_at "ev"; walk_at "ev"))
  | ((with_reducible show EvT _ _ (.Compare _ [.GtE] _ _) _); first | (apply et_ge; walk_at "ev"; walk_at "ev"))
  | ((with_reducible show EvT _ _ (.Compare _ [.Eq] _ _) _); first | (apply et_eqI; walk_at "ev"; walk_at "ev") | (walk_at "moret") | (apply et_eq; walk_at "ev"; walk_at "ev"; walk_at "sh"; walk_at "sh"))
  | ((with_reducible show EvT _ _ (.Compare _ [.NotEq] _ _) _); first | (apply et_neI; walk_at "ev"; walk_at "ev") | (walk_at "moret") | (apply et_ne; walk_at "ev"; walk_at "ev"; walk_at "sh"; walk_at "sh"))
  | ((with_reducible show EvT _ _ (.Compare _ [.Is] _ _) _); first | (apply et_isN; walk_at "ev"))
  | ((with_reducible show EvT _ _ (.Compare _ [.IsNot] _ _) _); first | (apply et_notN; walk_at "ev"))
  | ((with_reducible show EvT _ _ (.Compare _ [.In] _ _) _); first | (apply et_inL; walk_at "ev"; walk_at "ev"; exact rfl) | (apply et_inT; walk_at "ev"; walk_at "ev"; exact rfl) | (walk_at "moret"))
  | ((with_reducible show EvT _ _ (.Compare _ [.NotIn] _ _) _); first | (apply et_niL; walk_at "ev"; walk_at "ev"; exact rfl) | (apply et_niT; walk_at "ev"; walk_at "ev"; exact rfl) | (walk_at "moret"))
  | (apply et_val; walk_at "ev"; exact fun _ _ => rfl)
  | (apply et_truth; walk_at "ev"; walk_at "ts"; exact fun _ _ => rfl)
  | walk_at "moret")
local macro_rules | `(tactic| walk_at "ew") => `(tactic| first | (apply ew_and1; walk_at "et") | (apply ew_or1; walk_at "et") | (apply ew_andF; apply EvT.cast; (walk_at "et"); exact rfl) | (apply ew_orT; apply EvT.cast; (walk_at "et"); exact rfl) | (apply ew_and; walk_at "et"; intro _; walk_at "ew") | (apply ew_or; walk_at "et"; intro _; walk_at "ew"))
section
local macro_rules | `(tactic| walk_at "n") => `(tactic| first | ((with_reducible show Ev _ _ (.Name "value" _) _); exact ev_name 0 rfl rfl (by walk_at "b")) | ((with_reducible show Ev _ _ (.Name "low" _) _); exact ev_name 1 rfl rfl (by walk_at "b")) | ((with_reducible show Ev _ _ (.Name "high" _) _); exact ev_name 2 rfl rfl (by walk_at "b")))
local macro_rules | `(tactic| walk_at "set") => `(tactic| first | ((with_reducible show Run _ _ _ (.Assign [.Name "value" _] _ _ :: _) _); refine run_set 0 (by walk_at "evx") rfl (by walk_at "b") ?_ (fun _ => rfl); walk_at "nf") | ((with_reducible show Run _ _ _ (.Assign [.Name "low" _] _ _ :: _) _); refine run_set 1 (by walk_at "evx") rfl (by walk_at "b") ?_ (fun _ => rfl); walk_at "nf") | ((with_reducible show Run _ _ _ (.Assign [.Name "high" _] _ _ :: _) _); refine run_set 2 (by walk_at "evx") rfl (by walk_at "b") ?_ (fun _ => rfl); walk_at "nf"))
local macro_rules | `(tactic| walk_at "el") => `(tactic| first | ((with_reducible show EvL _ _ (.ListComp _ [⟨.Name "value" _, _, [], 0⟩] _ _) _); apply el_lcI0 0 rfl; walk_at "ei"; walk_at "lx"; walk_at "b"; walk_at "b"; (intro z hz; (try have hz := mem_rng.mp hz); walk_at "ev")) | ((with_reducible show EvL _ _ (.ListComp _ [⟨.Name "low" _, _, [], 0⟩] _ _) _); apply el_lcI0 1 rfl; walk_at "ei"; walk_at "lx"; walk_at "b"; walk_at "b"; (intro z hz; (try have hz := mem_rng.mp hz); walk_at "ev")) | ((with_reducible show EvL _ _ (.ListComp _ [⟨.Name "high" _, _, [], 0⟩] _ _) _); apply el_lcI0 2 rfl; walk_at "ei"; walk_at "lx"; walk_at "b"; walk_at "b"; (intro z hz; (try have hz := mem_rng.mp hz); walk_at "ev")) | ((with_reducible show EvL _ _ (.ListComp _ [⟨.Name "value" _, _, [_], 0⟩] _ _) _); apply el_lcI 0 rfl; walk_at "ei"; walk_at "lx"; walk_at "b"; walk_at "b"; (intro z hz; (try have hz := mem_rng.mp hz); apply ets_one; walk_at "et"); (intro z hz hq; (try have hz := mem_rng.mp hz); walk_at "ev")) | ((with_reducible show EvL _ _ (.ListComp _ [⟨.Name "low" _, _, [_], 0⟩] _ _) _); apply el_lcI 1 rfl; walk_at "ei"; walk_at "lx"; walk_at "b"; walk_at "b"; (intro z hz; (try have hz := mem_rng.mp hz); apply ets_one; walk_at "et"); (intro z hz hq; (try have hz := mem_rng.mp hz); walk_at "ev")) | ((with_reducible show EvL _ _ (.ListComp _ [⟨.Name "high" _, _, [_], 0⟩] _ _) _); apply el_lcI 2 rfl; walk_at "ei"; walk_at "lx"; walk_at "b"; walk_at "b"; (intro z hz; (try have hz := mem_rng.mp hz); apply ets_one; walk_at "et"); (intro z hz hq; (try have hz := mem_rng.mp hz); walk_at "ev")))
local macro_rules | `(tactic| walk_at "go") => `(tactic| (conv => arg 4; whnf); show Run _ [some _, some _, some _] _ _ _)
theorem f_in_range {g : Gb} (T : Txt g) : Fnc g "in_range" 1 Rin := by
  refine fnc_of (k := 0) T.d_in_range sc_in_range bd_in_range (fun ds d h => by obtain ⟨v, lo, hi, rfl, _⟩ := h; rfl) fun X sf ds d σ W Q hR hs q => ?_
  obtain ⟨v, lo, hi, rfl, rfl⟩ := hR
  have B := T.b; cases B
  conv => arg 2; whnf
  refine st_ret sf hs ?_ q
  cases v with
  | dict kvs => exact (hs.nodict 0 rfl).elim
  | _ => apply Ev.cast; (walk_at "ev"); rfl

end
section
local macro_rules | `(tactic| walk_at "n") => `(tactic| first | ((with_reducible show Ev _ _ (.Name "hours" _) _); exact ev_name 0 rfl rfl (by walk_at "b")) | ((with_reducible show Ev _ _ (.Name "row" _) _); exact ev_name 1 rfl rfl (by walk_at "b")) | ((with_reducible show Ev _ _ (.Name "found" _) _); exact ev_name 2 rfl rfl (by walk_at "b")) | ((with_reducible show Ev _ _ (.Name "one" _) _); exact ev_name 3 rfl rfl (by walk_at "b")) | ((with_reducible show Ev _ _ (.Name "more" _) _); exact ev_name 4 rfl rfl (by walk_at "b")) | ((with_reducible show Ev _ _ (.Name "sum_here" _) _); exact ev_name 5 rfl rfl (by walk_at "b")))
local macro_rules | `(tactic| walk_at "set") => `(tactic| first | ((with_reducible show Run _ _ _ (.Assign [.Name "hours" _] _ _ :: _) _); refine run_set 0 (by walk_at "evx") rfl (by walk_at "b") ?_ (fun _ => rfl); walk_at "nf") | ((with_reducible show Run _ _ _ (.Assign [.Name "row" _] _ _ :: _) _); refine run_set 1 (by walk_at "evx") rfl (by walk_at "b") ?_ (fun _ => rfl); walk_at "nf") | ((with_reducible show Run _ _ _ (.Assign [.Name "found" _] _ _ :: _) _); refine run_set 2 (by walk_at "evx") rfl (by walk_at "b") ?_ (fun _ => rfl); walk_at "nf") | ((with_reducible show Run _ _ _ (.Assign [.Name "one" _] _ _ :: _) _); refine run_set 3 (by walk_at "evx") rfl (by walk_at "b") ?_ (fun _ => rfl); walk_at "nf") | ((with_reducible show Run _ _ _ (.Assign [.Name "more" _] _ _ :: _) _); refine run_set 4 (by walk_at "evx") rfl (by walk_at "b") ?_ (fun _ => rfl); walk_at "nf") | ((with_reducible show Run _ _ _ (.Assign [.Name "sum_here" _] _ _ :: _) _); refine run_set 5 (by walk_at "evx") rfl (by walk_at "b") ?_ (fun _ => rfl); walk_at "nf"))
local macro_rules | `(tactic| walk_at "el") => `(tactic| first | ((with_reducible show EvL _ _ (.ListComp _ [⟨.Name "hours" _, _, [], 0⟩] _ _) _); apply el_lcI0 0 rfl; walk_at "ei"; walk_at "lx"; walk_at "b"; walk_at "b"; (intro z hz; (try have hz := mem_rng.mp hz); walk_at "ev")) | ((with_reducible show EvL _ _ (.ListComp _ [⟨.Name "row" _, _, [], 0⟩] _ _) _); apply el_lcI0 1 rfl; walk_at "ei"; walk_at "lx"; walk_at "b"; walk_at "b"; (intro z hz; (try have hz := mem_rng.mp hz); walk_at "ev")) | ((with_reducible show EvL _ _ (.ListComp _ [⟨.Name "found" _, _, [], 0⟩] _ _) _); apply el_lcI0 2 rfl; walk_at "ei"; walk_at "lx"; walk_at "b"; walk_at "b"; (intro z hz; (try have hz := mem_rng.mp hz); walk_at "ev")) | ((with_reducible show EvL _ _ (.ListComp _ [⟨.Name "one" _, _, [], 0⟩] _ _) _); apply el_lcI0 3 rfl; walk_at "ei"; walk_at "lx"; walk_at "b"; walk_at "b"; (intro z hz; (try have hz := mem_rng.mp hz); walk_at "ev")) | ((with_reducible show EvL _ _ (.ListComp _ [⟨.Name "more" _, _, [], 0⟩] _ _) _); apply el_lcI0 4 rfl; walk_at "ei"; walk_at "lx"; walk_at "b"; walk_at "b"; (intro z hz; (try have hz := mem_rng.mp hz); walk_at "ev")) | ((with_reducible show EvL _ _ (.ListComp _ [⟨.Name "sum_here" _, _, [], 0⟩] _ _) _); apply el_lcI0 5 rfl; walk_at "ei"; walk_at "lx"; walk_at "b"; walk_at "b"; (intro z hz; (try have hz := mem_rng.mp hz); walk_at "ev")) | ((with_reducible show EvL _ _ (.ListComp _ [⟨.Name "hours" _, _, [_], 0⟩] _ _) _); apply el_lcI 0 rfl; walk_at "ei"; walk_at "lx"; walk_at "b"; walk_at "b"; (intro z hz; (try have hz := mem_rng.mp hz); apply ets_one; walk_at "et"); (intro z hz hq; (try have hz := mem_rng.mp hz); walk_at "ev")) | ((with_reducible show EvL _ _ (.ListComp _ [⟨.Name "row" _, _, [_], 0⟩] _ _) _); apply el_lcI 1 rfl; walk_at "ei"; walk_at "lx"; walk_at "b"; walk_at "b"; (intro z hz; (try have hz := mem_rng.mp hz); apply ets_one; walk_at "et"); (intro z hz hq; (try have hz := mem_rng.mp hz); walk_at "ev")) | ((with_reducible show EvL _ _ (.ListComp _ [⟨.Name "found" _, _, [_], 0⟩] _ _) _); apply el_lcI 2 rfl; walk_at "ei"; walk_at "lx"; walk_at "b"; walk_at "b"; (intro z hz; (try have hz := mem_rng.mp hz); apply ets_one; walk_at "et"); (intro z hz hq; (try have hz := mem_rng.mp hz); walk_at "ev")) | ((with_reducible show EvL _ _ (.ListComp _ [⟨.Name "one" _, _, [_], 0⟩] _ _) _); apply el_lcI 3 rfl; walk_at "ei"; walk_at "lx"; walk_at "b"; walk_at "b"; (intro z hz; (try have hz := mem_rng.mp hz); apply ets_one; walk_at "et"); (intro z hz hq; (try have hz := mem_rng.mp hz); walk_at "ev")) | ((with_reducible show EvL _ _ (.ListComp _ [⟨.Name "more" _, _, [_], 0⟩] _ _) _); apply el_lcI 4 rfl; walk_at "ei"; walk_at "lx"; walk_at "b"; walk_at "b"; (intro z hz; (try have hz := mem_rng.mp hz); apply ets_one; walk_at "et"); (intro z hz hq; (try have hz := mem_rng.mp hz); walk_at "ev")) | ((with_reducible show EvL _ _ (.ListComp _ [⟨.Name "sum_here" _, _, [_], 0⟩] _ _) _); apply el_lcI 5 rfl; walk_at "ei"; walk_at "lx"; walk_at "b"; walk_at "b"; (intro z hz; (try have hz := mem_rng.mp hz); apply ets_one; walk_at "et"); (intro z hz hq; (try have hz := mem_rng.mp hz); walk_at "ev")))
local macro_rules | `(tactic| walk_at "go") => `(tactic| (conv => arg 4; whnf); show Run _ [some _, some _, none, none, none, none] _ _ _)
theorem f_reached {g : Gb} (T : Txt g) : Fnc g "reached" 1 Rrch := by
  refine fnc_of (k := 0) T.d_reached sc_reached bd_reached (fun ds d h => by obtain ⟨n, row, _, _, _, _, rfl | rfl, _⟩ := h <;> rfl) fun X sf ds d σ W Q hR hs q => ?_
  obtain ⟨n, row, hn2, hn, hr, hl, hds, rfl⟩ := hR
  have B := T.b; cases B
  conv => arg 2; whnf
  obtain ⟨dr, hds, hit⟩ : ∃ dr, ds = [.int n, dr] ∧ ((dr = pT row) ∨ (dr = pL row)) := by
    rcases hds with rfl | rfl
    · exact ⟨_, rfl, .inl rfl⟩
    · exact ⟨_, rfl, .inr rfl⟩
  subst hds
  refine st_newD sf hs 2 rfl (by walk_at "b") fun a W1 na o1 e1 s1 => ?_
  have hc0 : σ.length = 6 := hs.len
  have hi0 : ∀ p1 p2 : Pos, EvI0 ⟨g, N_reached, defScope s_reached, 0⟩ [some (.int n), some dr, none, none, none, none] (.Name "one" p1) (.Name "row" p2) (iL row) := by
    intro p1 p2
    rcases hit with rfl | rfl
    · exact ei_tup (by walk_at "n")
    · exact ei_list (by walk_at "n")
  refine st_for sf (s1.to (by walk_at "sub")) 3 (hi0 _ _) rfl (by walk_at "b") fun W2 e2 => ?_
  refine ⟨fun i σ' W' => Wx W W' ∧ Ex W2.s W'.s ∧ (∃ ks : List Int, OwD W' a ks ∧ ks.Nodup ∧ ∀ z, z ∈ ks ↔ z ∈ rch n (row.take i)) ∧ σ'[2]? = some (some (.ref a)) ∧ SlOk X.K W'.s σ' [some (.int n), some dr, none, none, none, none],
    ⟨e1.trans e2, Ex.refl, ⟨[], o1.ex e2, List.nodup_nil, fun z => by rw [List.take_zero]; rfl⟩, by walk_at "sl", (s1.ex e2.s).to (by walk_at "sub")⟩, fun i σ' W' h => h.2.1, fun i d σ' W' v hi hI hv => ?_, fun σ' W' hI => ?_⟩
  · obtain ⟨x1, x2, ⟨ks, o2, nd, hks⟩, sl2, s2⟩ := hI
    obtain ⟨x, hx, rfl⟩ := get_iL hi
    have hxr := hr x (List.mem_of_getElem? hx)
    have hkr : Rem n ks := fun z hz => rch_rem (by omega) _ (hr.take i) z ((hks z).mp hz)
    have hkl := nodup_len nd hkr
    have s3 := s2.set 3 hv
    have hc : σ'.length = 6 := s2.len
    refine st_setAt sf s3 4 (d := pL (x :: ks.map fun s => (s + x) % n)) (fun Q hQ => ?_) rfl (by walk_at "b") fun v4 W4 e4 r4 s4 => ?_
    · refine catAt sf.toCf s3 (xs := iL [x]) (ys := iL (ks.map fun s => (s + x) % n)) (by walk_at "ev") (fun W5 e5 Q2 hQ2 => ?_) ?_ hQ
      · refine lc_dict (own := [("sum_here", 5)]) (P := fun _ => true) (f := fun d => .int ((unI d + x) % n)) (bind := fun d => [some (.int n), some dr, none, some (.int x), none, some d]) sf.toCf (s3.ex e5.s) 2 (by walk_at "sl") (o2.ex e5) rfl (by walk_at "b") (by omega) (by walk_at "b") (fun d hd => tgB 5 rfl (by decide) (by decide +kernel)) (fun d hd => ets_nil) (fun d hd _ => ?_) fun p xs W6 e6 np hp hd6 => hQ2 _ W6 e6 (.lst (SqL.of hp) ?_)
        · obtain ⟨z, hz, rfl⟩ := List.mem_map.mp hd
          exact ev_mod (ev_add (by walk_at "n") (by walk_at "n")) (by walk_at "n") (by omega)
        · have : ((iL ks).filter fun _ => true).map (fun d => PyData.int ((unI d + x) % n)) = iL (ks.map fun s => (s + x) % n) := comp_all fun z _ => rfl
          rw [this] at hd6
          exact hd6
      · rw [List.length_map, List.length_map, List.length_map]
        show 1 + ks.length ≤ 100000
        omega
    · have hin : ∀ z, z ∈ (x :: ks.map fun s => (s + x) % n) → 0 ≤ z ∧ z < n := by
        intro z hz
        rcases List.mem_cons.mp hz with rfl | hz
        · exact hxr
        · obtain ⟨s, _, rfl⟩ := List.mem_map.mp hz
          exact ⟨Int.emod_nonneg _ (by omega), Int.emod_lt_of_pos _ (by omega)⟩
      generalize hmr : (x :: ks.map fun s => (s + x) % n) = more at s4 hin
      refine st_for sf s4 5 (ei_list (ds := iL more) (by walk_at "n")) rfl (by walk_at "b") fun W5 e5 => ?_
      refine ⟨fun j τ W6 => Wx W W6 ∧ Ex W5.s W6.s ∧ OwD W6 a ((more.take j).foldl addK ks) ∧ τ[2]? = some (some (.ref a)) ∧ SlOk X.K W6.s τ [some (.int n), some dr, none, none, some (pL more), none],
        ⟨(x1.trans e4).trans e5, Ex.refl, o2.ex (e4.trans e5), by walk_at "sl", (s4.ex e5.s).to (by walk_at "sub")⟩, fun j τ W6 h => h.2.1, fun j d τ W6 v2 hj hI2 hv2 => ?_, fun τ W6 hI2 => ?_⟩
      · obtain ⟨y1, y2, y3, y4, y5⟩ := hI2
        obtain ⟨z, hz, rfl⟩ := get_iL hj
        have hc2 : τ.length = 6 := y5.len
        have ll : ((more.take j).foldl addK ks).length < 100000 := by
          have := nodup_len (lo := 0) (hi := n) (l := (more.take j).foldl addK ks) (addKs_nodup nd) fun w hw => by
            rcases mem_addKs.mp hw with hw | hw
            · exact hkr w hw
            · exact hin w (List.mem_of_mem_take hw)
          omega
        refine st_dput sf (y5.set 5 hv2) 2 (by walk_at "sl") y3 y1 na (by walk_at "n") rfl (by walk_at "b") ll fun W7 z1 z2 z3 z4 => ?_
        exact ss_nil ⟨W7, rfl, z1, y2.trans z2, by rw [take_fold hz]; exact z3, by walk_at "sl", z4.to (by walk_at "sub")⟩
      · obtain ⟨y1, y2, y3, y4, y5⟩ := hI2
        rw [List.length_map, List.take_length] at y3
        refine ss_nil ⟨W6, rfl, y1, (x2.trans (e4.trans e5).s).trans y2, ⟨_, y3, addKs_nodup nd, fun z => ?_⟩, y4, y5.to (by walk_at "sub")⟩
        rw [rch_take hx, mem_rchStep, mem_addKs, ← hmr, List.mem_cons, List.mem_map, hks]
        refine or_congr Iff.rfl (or_congr Iff.rfl ?_)
        constructor
        · rintro ⟨s, h1, h2⟩; exact ⟨s, (hks s).mp h1, h2⟩
        · rintro ⟨s, h1, h2⟩; exact ⟨s, (hks s).mpr h1, h2⟩
  · obtain ⟨x1, x2, ⟨ks, o2, nd, hks⟩, sl2, s2⟩ := hI
    rw [List.length_map, List.take_length] at hks
    have hkr : Rem n ks := fun z hz => rch_rem (by omega) _ hr z ((hks z).mp hz)
    have hkl := nodup_len nd hkr
    have ea : rch n row = asc ks := asc_eq (rch_up n row) fun z => (hks z).symm
    refine st_retAt (d := pL (asc ks)) (fun Q hQ => sorted_dict sf.toCf 2 sl2 o2 nd rfl (by walk_at "b") (by omega) (by assumption) (by walk_at "b") hQ) fun v W3 e3 r3 => q v W3 (x1.trans e3) ?_
    rw [ea]
    exact r3

end
section
local macro_rules | `(tactic| walk_at "n") => `(tactic| first | ((with_reducible show Ev _ _ (.Name "hours" _) _); exact ev_name 0 rfl rfl (by walk_at "b")) | ((with_reducible show Ev _ _ (.Name "row" _) _); exact ev_name 1 rfl rfl (by walk_at "b")) | ((with_reducible show Ev _ _ (.Name "places" _) _); exact ev_name 2 rfl rfl (by walk_at "b")) | ((with_reducible show Ev _ _ (.Name "place" _) _); exact ev_name 3 rfl rfl (by walk_at "b")))
local macro_rules | `(tactic| walk_at "set") => `(tactic| first | ((with_reducible show Run _ _ _ (.Assign [.Name "hours" _] _ _ :: _) _); refine run_set 0 (by walk_at "evx") rfl (by walk_at "b") ?_ (fun _ => rfl); walk_at "nf") | ((with_reducible show Run _ _ _ (.Assign [.Name "row" _] _ _ :: _) _); refine run_set 1 (by walk_at "evx") rfl (by walk_at "b") ?_ (fun _ => rfl); walk_at "nf") | ((with_reducible show Run _ _ _ (.Assign [.Name "places" _] _ _ :: _) _); refine run_set 2 (by walk_at "evx") rfl (by walk_at "b") ?_ (fun _ => rfl); walk_at "nf") | ((with_reducible show Run _ _ _ (.Assign [.Name "place" _] _ _ :: _) _); refine run_set 3 (by walk_at "evx") rfl (by walk_at "b") ?_ (fun _ => rfl); walk_at "nf"))
local macro_rules | `(tactic| walk_at "el") => `(tactic| first | ((with_reducible show EvL _ _ (.ListComp _ [⟨.Name "hours" _, _, [], 0⟩] _ _) _); apply el_lcI0 0 rfl; walk_at "ei"; walk_at "lx"; walk_at "b"; walk_at "b"; (intro z hz; (try have hz := mem_rng.mp hz); walk_at "ev")) | ((with_reducible show EvL _ _ (.ListComp _ [⟨.Name "row" _, _, [], 0⟩] _ _) _); apply el_lcI0 1 rfl; walk_at "ei"; walk_at "lx"; walk_at "b"; walk_at "b"; (intro z hz; (try have hz := mem_rng.mp hz); walk_at "ev")) | ((with_reducible show EvL _ _ (.ListComp _ [⟨.Name "places" _, _, [], 0⟩] _ _) _); apply el_lcI0 2 rfl; walk_at "ei"; walk_at "lx"; walk_at "b"; walk_at "b"; (intro z hz; (try have hz := mem_rng.mp hz); walk_at "ev")) | ((with_reducible show EvL _ _ (.ListComp _ [⟨.Name "place" _, _, [], 0⟩] _ _) _); apply el_lcI0 3 rfl; walk_at "ei"; walk_at "lx"; walk_at "b"; walk_at "b"; (intro z hz; (try have hz := mem_rng.mp hz); walk_at "ev")) | ((with_reducible show EvL _ _ (.ListComp _ [⟨.Name "hours" _, _, [_], 0⟩] _ _) _); apply el_lcI 0 rfl; walk_at "ei"; walk_at "lx"; walk_at "b"; walk_at "b"; (intro z hz; (try have hz := mem_rng.mp hz); apply ets_one; walk_at "et"); (intro z hz hq; (try have hz := mem_rng.mp hz); walk_at "ev")) | ((with_reducible show EvL _ _ (.ListComp _ [⟨.Name "row" _, _, [_], 0⟩] _ _) _); apply el_lcI 1 rfl; walk_at "ei"; walk_at "lx"; walk_at "b"; walk_at "b"; (intro z hz; (try have hz := mem_rng.mp hz); apply ets_one; walk_at "et"); (intro z hz hq; (try have hz := mem_rng.mp hz); walk_at "ev")) | ((with_reducible show EvL _ _ (.ListComp _ [⟨.Name "places" _, _, [_], 0⟩] _ _) _); apply el_lcI 2 rfl; walk_at "ei"; walk_at "lx"; walk_at "b"; walk_at "b"; (intro z hz; (try have hz := mem_rng.mp hz); apply ets_one; walk_at "et"); (intro z hz hq; (try have hz := mem_rng.mp hz); walk_at "ev")) | ((with_reducible show EvL _ _ (.ListComp _ [⟨.Name "place" _, _, [_], 0⟩] _ _) _); apply el_lcI 3 rfl; walk_at "ei"; walk_at "lx"; walk_at "b"; walk_at "b"; (intro z hz; (try have hz := mem_rng.mp hz); apply ets_one; walk_at "et"); (intro z hz hq; (try have hz := mem_rng.mp hz); walk_at "ev")))
local macro_rules | `(tactic| walk_at "go") => `(tactic| (conv => arg 4; whnf); show Run _ [some _, some _, some _, none] _ _ _)

end
section
local macro_rules | `(tactic| walk_at "n") => `(tactic| first | ((with_reducible show Ev _ _ (.Name "row" _) _); exact ev_name 0 rfl rfl (by walk_at "b")))
local macro_rules | `(tactic| walk_at "set") => `(tactic| first | ((with_reducible show Run _ _ _ (.Assign [.Name "row" _] _ _ :: _) _); refine run_set 0 (by walk_at "evx") rfl (by walk_at "b") ?_ (fun _ => rfl); walk_at "nf"))
local macro_rules | `(tactic| walk_at "el") => `(tactic| first | ((with_reducible show EvL _ _ (.ListComp _ [⟨.Name "row" _, _, [], 0⟩] _ _) _); apply el_lcI0 0 rfl; walk_at "ei"; walk_at "lx"; walk_at "b"; walk_at "b"; (intro z hz; (try have hz := mem_rng.mp hz); walk_at "ev")) | ((with_reducible show EvL _ _ (.ListComp _ [⟨.Name "row" _, _, [_], 0⟩] _ _) _); apply el_lcI 0 rfl; walk_at "ei"; walk_at "lx"; walk_at "b"; walk_at "b"; (intro z hz; (try have hz := mem_rng.mp hz); apply ets_one; walk_at "et"); (intro z hz hq; (try have hz := mem_rng.mp hz); walk_at "ev")))
local macro_rules | `(tactic| walk_at "go") => `(tactic| (conv => arg 4; whnf); show Run _ [some _] _ _ _)
theorem f_arranged {g : Gb} (T : Txt g) : Fnc g "arranged" 1 Rarr := by
  refine fnc_run (k := 0) T.d_arranged sc_arranged bd_arranged (fun ds d h => by obtain ⟨r, rfl | rfl, _⟩ := h <;> rfl) fun ds d hR => ?_
  obtain ⟨row, hds, rfl⟩ := hR
  have B := T.b; cases B
  rcases hds with rfl | rfl
  · walk_at "go"
    exact run_ret (d := pT (srt row)) (ev_tupleL (xs := iL (srt row)) (ev_sortedT (by walk_at "n") (by assumption) (by walk_at "b")) (by assumption) (by walk_at "b")) rfl
  · walk_at "go"
    exact run_ret (d := pT (srt row)) (ev_tupleL (xs := iL (srt row)) (ev_sortedL (by walk_at "n") (by assumption) (by walk_at "b")) (by assumption) (by walk_at "b")) rfl

end
section
local macro_rules | `(tactic| walk_at "n") => `(tactic| first | ((with_reducible show Ev _ _ (.Name "script" _) _); exact ev_name 0 rfl rfl (by walk_at "b")) | ((with_reducible show Ev _ _ (.Name "k" _) _); exact ev_name 1 rfl rfl (by walk_at "b")))
local macro_rules | `(tactic| walk_at "set") => `(tactic| first | ((with_reducible show Run _ _ _ (.Assign [.Name "script" _] _ _ :: _) _); refine run_set 0 (by walk_at "evx") rfl (by walk_at "b") ?_ (fun _ => rfl); walk_at "nf") | ((with_reducible show Run _ _ _ (.Assign [.Name "k" _] _ _ :: _) _); refine run_set 1 (by walk_at "evx") rfl (by walk_at "b") ?_ (fun _ => rfl); walk_at "nf"))
local macro_rules | `(tactic| walk_at "el") => `(tactic| first | ((with_reducible show EvL _ _ (.ListComp _ [⟨.Name "script" _, _, [], 0⟩] _ _) _); apply el_lcI0 0 rfl; walk_at "ei"; walk_at "lx"; walk_at "b"; walk_at "b"; (intro z hz; (try have hz := mem_rng.mp hz); walk_at "ev")) | ((with_reducible show EvL _ _ (.ListComp _ [⟨.Name "k" _, _, [], 0⟩] _ _) _); apply el_lcI0 1 rfl; walk_at "ei"; walk_at "lx"; walk_at "b"; walk_at "b"; (intro z hz; (try have hz := mem_rng.mp hz); walk_at "ev")) | ((with_reducible show EvL _ _ (.ListComp _ [⟨.Name "script" _, _, [_], 0⟩] _ _) _); apply el_lcI 0 rfl; walk_at "ei"; walk_at "lx"; walk_at "b"; walk_at "b"; (intro z hz; (try have hz := mem_rng.mp hz); apply ets_one; walk_at "et"); (intro z hz hq; (try have hz := mem_rng.mp hz); walk_at "ev")) | ((with_reducible show EvL _ _ (.ListComp _ [⟨.Name "k" _, _, [_], 0⟩] _ _) _); apply el_lcI 1 rfl; walk_at "ei"; walk_at "lx"; walk_at "b"; walk_at "b"; (intro z hz; (try have hz := mem_rng.mp hz); apply ets_one; walk_at "et"); (intro z hz hq; (try have hz := mem_rng.mp hz); walk_at "ev")))
local macro_rules | `(tactic| walk_at "go") => `(tactic| (conv => arg 4; whnf); show Run _ [some _, some _] _ _ _)
theorem f__law_cell {g : Gb} (T : Txt g) : Fnc g "_law_cell" 1 Rcell := by
  refine fnc_of (k := 0) T.d__law_cell sc__law_cell bd__law_cell (fun ds d h => by obtain ⟨n, r, rfl, _⟩ := h; rfl) fun X sf ds d σ W Q hR hs q => ?_
  obtain ⟨ns, k, rfl, rfl, hk⟩ := hR
  have B := T.b; cases B
  conv => arg 2; whnf
  refine st_if sf hs (k := decide (k < (ns.length : Int))) (EvT.cast (by walk_at "et") (by rw [List.length_map])) (fun h W1 e1 s1 => ?_) (fun h W1 e1 s1 => ?_)
  · have h' := of_decide_eq_true h
    refine st_ret sf s1 (d := .int (cellAt ns k)) (ev_ixL (xs := iL ns) (i := k) (by walk_at "n") (by walk_at "n") ?_) fun v W2 e2 r2 => q v W2 (e1.trans e2) r2
    have e : k = ((k.toNat : Nat) : Int) := by omega
    have z := dr_at (l := ns) (i := k.toNat) (by omega)
    rw [← e] at z
    exact z
  · have h' := of_decide_eq_false h
    refine ss_nil (st_ret sf s1 ev_int fun v W2 e2 r2 => q v W2 (e1.trans e2) ?_)
    have e : cellAt ns k = 0 := by
      unfold cellAt
      rw [List.getD_eq_getElem?_getD, List.getElem?_eq_none (by omega)]
      rfl
    rw [e]
    exact r2

end
section
local macro_rules | `(tactic| walk_at "n") => `(tactic| first | ((with_reducible show Ev _ _ (.Name "hours" _) _); exact ev_name 0 rfl rfl (by walk_at "b")))
local macro_rules | `(tactic| walk_at "set") => `(tactic| first | ((with_reducible show Run _ _ _ (.Assign [.Name "hours" _] _ _ :: _) _); refine run_set 0 (by walk_at "evx") rfl (by walk_at "b") ?_ (fun _ => rfl); walk_at "nf"))
local macro_rules | `(tactic| walk_at "el") => `(tactic| first | ((with_reducible show EvL _ _ (.ListComp _ [⟨.Name "hours" _, _, [], 0⟩] _ _) _); apply el_lcI0 0 rfl; walk_at "ei"; walk_at "lx"; walk_at "b"; walk_at "b"; (intro z hz; (try have hz := mem_rng.mp hz); walk_at "ev")) | ((with_reducible show EvL _ _ (.ListComp _ [⟨.Name "hours" _, _, [_], 0⟩] _ _) _); apply el_lcI 0 rfl; walk_at "ei"; walk_at "lx"; walk_at "b"; walk_at "b"; (intro z hz; (try have hz := mem_rng.mp hz); apply ets_one; walk_at "et"); (intro z hz hq; (try have hz := mem_rng.mp hz); walk_at "ev")))
local macro_rules | `(tactic| walk_at "go") => `(tactic| (conv => arg 4; whnf); show Run _ [some _] _ _ _)
theorem f_check_hours {g : Gb} (T : Txt g) : Fnx g "check_hours" 2 RcheckHours := by
  refine fnx_of (k := 1) T.d_check_hours sc_check_hours bd_check_hours (fun ds d h => by obtain ⟨v, rfl, _⟩ := h; rfl) fun X sf E tk ds o σ W Q hR hs q => ?_
  obtain ⟨v, rfl, rfl⟩ := hR
  have F1 := f_in_range T
  obtain ⟨C, xc⟩ := T.x_InvalidHours
  have B := T.b; cases B
  conv => arg 2; whnf
  refine st_if sf hs (k := !inR v 2 12) (et_not (et_val (ev_call F1 (by walk_at "ea") ⟨_, _, _, rfl, rfl⟩ (by walk_at "j") (by walk_at "b")))) (fun h W1 e1 s1 => ?_) (fun h W1 e1 s1 => ?_)
  · rw [if_neg (by intro z; rw [z] at h; cases h)] at q
    exact st_raise sf tk xc (by walk_at "b") (q C W1 xc.gC e1)
  · rw [if_pos (by cases z : inR v 2 12 with | true => rfl | false => rw [z] at h; cases h)] at q
    exact ss_nil (ss_nil (q _ W1 e1 .non))

end
section
local macro_rules | `(tactic| walk_at "n") => `(tactic| first | ((with_reducible show Ev _ _ (.Name "hours" _) _); exact ev_name 0 rfl rfl (by walk_at "b")) | ((with_reducible show Ev _ _ (.Name "value" _) _); exact ev_name 1 rfl rfl (by walk_at "b")) | ((with_reducible show Ev _ _ (.Name "one" _) _); exact ev_name 2 rfl rfl (by walk_at "b")))
local macro_rules | `(tactic| walk_at "set") => `(tactic| first | ((with_reducible show Run _ _ _ (.Assign [.Name "hours" _] _ _ :: _) _); refine run_set 0 (by walk_at "evx") rfl (by walk_at "b") ?_ (fun _ => rfl); walk_at "nf") | ((with_reducible show Run _ _ _ (.Assign [.Name "value" _] _ _ :: _) _); refine run_set 1 (by walk_at "evx") rfl (by walk_at "b") ?_ (fun _ => rfl); walk_at "nf") | ((with_reducible show Run _ _ _ (.Assign [.Name "one" _] _ _ :: _) _); refine run_set 2 (by walk_at "evx") rfl (by walk_at "b") ?_ (fun _ => rfl); walk_at "nf"))
local macro_rules | `(tactic| walk_at "el") => `(tactic| first | ((with_reducible show EvL _ _ (.ListComp _ [⟨.Name "hours" _, _, [], 0⟩] _ _) _); apply el_lcI0 0 rfl; walk_at "ei"; walk_at "lx"; walk_at "b"; walk_at "b"; (intro z hz; (try have hz := mem_rng.mp hz); walk_at "ev")) | ((with_reducible show EvL _ _ (.ListComp _ [⟨.Name "value" _, _, [], 0⟩] _ _) _); apply el_lcI0 1 rfl; walk_at "ei"; walk_at "lx"; walk_at "b"; walk_at "b"; (intro z hz; (try have hz := mem_rng.mp hz); walk_at "ev")) | ((with_reducible show EvL _ _ (.ListComp _ [⟨.Name "one" _, _, [], 0⟩] _ _) _); apply el_lcI0 2 rfl; walk_at "ei"; walk_at "lx"; walk_at "b"; walk_at "b"; (intro z hz; (try have hz := mem_rng.mp hz); walk_at "ev")) | ((with_reducible show EvL _ _ (.ListComp _ [⟨.Name "hours" _, _, [_], 0⟩] _ _) _); apply el_lcI 0 rfl; walk_at "ei"; walk_at "lx"; walk_at "b"; walk_at "b"; (intro z hz; (try have hz := mem_rng.mp hz); apply ets_one; walk_at "et"); (intro z hz hq; (try have hz := mem_rng.mp hz); walk_at "ev")) | ((with_reducible show EvL _ _ (.ListComp _ [⟨.Name "value" _, _, [_], 0⟩] _ _) _); apply el_lcI 1 rfl; walk_at "ei"; walk_at "lx"; walk_at "b"; walk_at "b"; (intro z hz; (try have hz := mem_rng.mp hz); apply ets_one; walk_at "et"); (intro z hz hq; (try have hz := mem_rng.mp hz); walk_at "ev")) | ((with_reducible show EvL _ _ (.ListComp _ [⟨.Name "one" _, _, [_], 0⟩] _ _) _); apply el_lcI 2 rfl; walk_at "ei"; walk_at "lx"; walk_at "b"; walk_at "b"; (intro z hz; (try have hz := mem_rng.mp hz); apply ets_one; walk_at "et"); (intro z hz hq; (try have hz := mem_rng.mp hz); walk_at "ev")))
local macro_rules | `(tactic| walk_at "go") => `(tactic| (conv => arg 4; whnf); show Run _ [some _, some _, none] _ _ _)
theorem f_is_row_of {g : Gb} (T : Txt g) : Fnc g "is_row_of" 2 RisRowOf := by
  refine fnc_of (k := 1) T.d_is_row_of sc_is_row_of bd_is_row_of (fun ds d h => by obtain ⟨n, v, rfl, _⟩ := h; rfl) fun X sf ds d σ W Q hR hs q => ?_
  obtain ⟨n, v, rfl, rfl⟩ := hR
  have F1 := f_in_range T
  have B := T.b; cases B
  conv => arg 2; whnf
  cases v with
  | dict kvs => exact (hs.nodict 1 rfl).elim
  | tuple xs =>
    refine st_if sf hs (k := decide (11 < (xs.length : Int))) (EvT.cast (by walk_at "et") (by rfl)) (fun h W1 e1 s1 => ?_) (fun h W1 e1 s1 => ?_)
    · refine st_ret sf s1 (ev_bool) fun v W2 e2 r2 => q v W2 (e1.trans e2) ?_
      have h' := of_decide_eq_true h
      show Dp _ _ v (.bool (isRowD n (.tuple xs)))
      show Dp _ _ v (.bool (decide (xs.length ≤ 11) && (xs.filter fun x => !inR x 0 (n - 1)).isEmpty))
      rw [decide_eq_false (by omega)]
      exact r2
    · have h' := of_decide_eq_false h
      refine ss_nil (st_ret sf s1 (d := .bool (!trB (.list ((xs.filter fun x => !inR x 0 (n - 1)).map id)))) ?_ fun v W2 e2 r2 => q v W2 (e1.trans e2) ?_)
      · refine ev_notT (ev_lc (own := [("one", 2)]) (f := id) (P := fun x => !inR x 0 (n - 1)) (bind := fun x => [some (.int n), some (.tuple xs), some x]) (ei_tup (by walk_at "n")).i (by omega) (by walk_at "b") (fun x hx => ?_) (fun x hx => ?_) (fun x hx _ => ?_))
        · exact tgB 2 rfl (by decide) (by decide +kernel)
        · exact ets_one (et_not (et_val (ev_call F1 (by walk_at "ea") ⟨_, _, _, rfl, rfl⟩ (by walk_at "j") (by walk_at "b"))))
        · walk_at "n"
      · rw [show isRowD n (.tuple xs) = !trB (.list ((xs.filter fun x => !inR x 0 (n - 1)).map id)) by
          show (decide (xs.length ≤ 11) && (xs.filter fun x => !inR x 0 (n - 1)).isEmpty) = _
          rw [decide_eq_true (by omega), Bool.true_and, List.map_id]
          show _ = !(!_)
          rw [Bool.not_not]]
        exact r2
  | _ =>
    refine st_if sf hs (k := true) (EvT.cast (by walk_at "et") (by rfl)) (fun h W1 e1 s1 => ?_) (fun h => by cases h)
    exact st_ret sf s1 (ev_bool) fun v W2 e2 r2 => q v W2 (e1.trans e2) r2

end
section
local macro_rules | `(tactic| walk_at "n") => `(tactic| first | ((with_reducible show Ev _ _ (.Name "row" _) _); exact ev_name 0 rfl rfl (by walk_at "b")) | ((with_reducible show Ev _ _ (.Name "value" _) _); exact ev_name 1 rfl rfl (by walk_at "b")) | ((with_reducible show Ev _ _ (.Name "place" _) _); exact ev_name 2 rfl rfl (by walk_at "b")) | ((with_reducible show Ev _ _ (.Name "one" _) _); exact ev_name 3 rfl rfl (by walk_at "b")) | ((with_reducible show Ev _ _ (.Name "other" _) _); exact ev_name 4 rfl rfl (by walk_at "b")))
local macro_rules | `(tactic| walk_at "set") => `(tactic| first | ((with_reducible show Run _ _ _ (.Assign [.Name "row" _] _ _ :: _) _); refine run_set 0 (by walk_at "evx") rfl (by walk_at "b") ?_ (fun _ => rfl); walk_at "nf") | ((with_reducible show Run _ _ _ (.Assign [.Name "value" _] _ _ :: _) _); refine run_set 1 (by walk_at "evx") rfl (by walk_at "b") ?_ (fun _ => rfl); walk_at "nf") | ((with_reducible show Run _ _ _ (.Assign [.Name "place" _] _ _ :: _) _); refine run_set 2 (by walk_at "evx") rfl (by walk_at "b") ?_ (fun _ => rfl); walk_at "nf") | ((with_reducible show Run _ _ _ (.Assign [.Name "one" _] _ _ :: _) _); refine run_set 3 (by walk_at "evx") rfl (by walk_at "b") ?_ (fun _ => rfl); walk_at "nf") | ((with_reducible show Run _ _ _ (.Assign [.Name "other" _] _ _ :: _) _); refine run_set 4 (by walk_at "evx") rfl (by walk_at "b") ?_ (fun _ => rfl); walk_at "nf"))
local macro_rules | `(tactic| walk_at "el") => `(tactic| first | ((with_reducible show EvL _ _ (.ListComp _ [⟨.Name "row" _, _, [], 0⟩] _ _) _); apply el_lcI0 0 rfl; walk_at "ei"; walk_at "lx"; walk_at "b"; walk_at "b"; (intro z hz; (try have hz := mem_rng.mp hz); walk_at "ev")) | ((with_reducible show EvL _ _ (.ListComp _ [⟨.Name "value" _, _, [], 0⟩] _ _) _); apply el_lcI0 1 rfl; walk_at "ei"; walk_at "lx"; walk_at "b"; walk_at "b"; (intro z hz; (try have hz := mem_rng.mp hz); walk_at "ev")) | ((with_reducible show EvL _ _ (.ListComp _ [⟨.Name "place" _, _, [], 0⟩] _ _) _); apply el_lcI0 2 rfl; walk_at "ei"; walk_at "lx"; walk_at "b"; walk_at "b"; (intro z hz; (try have hz := mem_rng.mp hz); walk_at "ev")) | ((with_reducible show EvL _ _ (.ListComp _ [⟨.Name "one" _, _, [], 0⟩] _ _) _); apply el_lcI0 3 rfl; walk_at "ei"; walk_at "lx"; walk_at "b"; walk_at "b"; (intro z hz; (try have hz := mem_rng.mp hz); walk_at "ev")) | ((with_reducible show EvL _ _ (.ListComp _ [⟨.Name "other" _, _, [], 0⟩] _ _) _); apply el_lcI0 4 rfl; walk_at "ei"; walk_at "lx"; walk_at "b"; walk_at "b"; (intro z hz; (try have hz := mem_rng.mp hz); walk_at "ev")) | ((with_reducible show EvL _ _ (.ListComp _ [⟨.Name "row" _, _, [_], 0⟩] _ _) _); apply el_lcI 0 rfl; walk_at "ei"; walk_at "lx"; walk_at "b"; walk_at "b"; (intro z hz; (try have hz := mem_rng.mp hz); apply ets_one; walk_at "et"); (intro z hz hq; (try have hz := mem_rng.mp hz); walk_at "ev")) | ((with_reducible show EvL _ _ (.ListComp _ [⟨.Name "value" _, _, [_], 0⟩] _ _) _); apply el_lcI 1 rfl; walk_at "ei"; walk_at "lx"; walk_at "b"; walk_at "b"; (intro z hz; (try have hz := mem_rng.mp hz); apply ets_one; walk_at "et"); (intro z hz hq; (try have hz := mem_rng.mp hz); walk_at "ev")) | ((with_reducible show EvL _ _ (.ListComp _ [⟨.Name "place" _, _, [_], 0⟩] _ _) _); apply el_lcI 2 rfl; walk_at "ei"; walk_at "lx"; walk_at "b"; walk_at "b"; (intro z hz; (try have hz := mem_rng.mp hz); apply ets_one; walk_at "et"); (intro z hz hq; (try have hz := mem_rng.mp hz); walk_at "ev")) | ((with_reducible show EvL _ _ (.ListComp _ [⟨.Name "one" _, _, [_], 0⟩] _ _) _); apply el_lcI 3 rfl; walk_at "ei"; walk_at "lx"; walk_at "b"; walk_at "b"; (intro z hz; (try have hz := mem_rng.mp hz); apply ets_one; walk_at "et"); (intro z hz hq; (try have hz := mem_rng.mp hz); walk_at "ev")) | ((with_reducible show EvL _ _ (.ListComp _ [⟨.Name "other" _, _, [_], 0⟩] _ _) _); apply el_lcI 4 rfl; walk_at "ei"; walk_at "lx"; walk_at "b"; walk_at "b"; (intro z hz; (try have hz := mem_rng.mp hz); apply ets_one; walk_at "et"); (intro z hz hq; (try have hz := mem_rng.mp hz); walk_at "ev")))
local macro_rules | `(tactic| walk_at "go") => `(tactic| (conv => arg 4; whnf); show Run _ [some _, some _, none, none, none] _ _ _)

end
section
local macro_rules | `(tactic| walk_at "n") => `(tactic| first | ((with_reducible show Ev _ _ (.Name "row" _) _); exact ev_name 0 rfl rfl (by walk_at "b")) | ((with_reducible show Ev _ _ (.Name "place" _) _); exact ev_name 1 rfl rfl (by walk_at "b")))
local macro_rules | `(tactic| walk_at "set") => `(tactic| first | ((with_reducible show Run _ _ _ (.Assign [.Name "row" _] _ _ :: _) _); refine run_set 0 (by walk_at "evx") rfl (by walk_at "b") ?_ (fun _ => rfl); walk_at "nf") | ((with_reducible show Run _ _ _ (.Assign [.Name "place" _] _ _ :: _) _); refine run_set 1 (by walk_at "evx") rfl (by walk_at "b") ?_ (fun _ => rfl); walk_at "nf"))
local macro_rules | `(tactic| walk_at "el") => `(tactic| first | ((with_reducible show EvL _ _ (.ListComp _ [⟨.Name "row" _, _, [], 0⟩] _ _) _); apply el_lcI0 0 rfl; walk_at "ei"; walk_at "lx"; walk_at "b"; walk_at "b"; (intro z hz; (try have hz := mem_rng.mp hz); walk_at "ev")) | ((with_reducible show EvL _ _ (.ListComp _ [⟨.Name "place" _, _, [], 0⟩] _ _) _); apply el_lcI0 1 rfl; walk_at "ei"; walk_at "lx"; walk_at "b"; walk_at "b"; (intro z hz; (try have hz := mem_rng.mp hz); walk_at "ev")) | ((with_reducible show EvL _ _ (.ListComp _ [⟨.Name "row" _, _, [_], 0⟩] _ _) _); apply el_lcI 0 rfl; walk_at "ei"; walk_at "lx"; walk_at "b"; walk_at "b"; (intro z hz; (try have hz := mem_rng.mp hz); apply ets_one; walk_at "et"); (intro z hz hq; (try have hz := mem_rng.mp hz); walk_at "ev")) | ((with_reducible show EvL _ _ (.ListComp _ [⟨.Name "place" _, _, [_], 0⟩] _ _) _); apply el_lcI 1 rfl; walk_at "ei"; walk_at "lx"; walk_at "b"; walk_at "b"; (intro z hz; (try have hz := mem_rng.mp hz); apply ets_one; walk_at "et"); (intro z hz hq; (try have hz := mem_rng.mp hz); walk_at "ev")))
local macro_rules | `(tactic| walk_at "go") => `(tactic| (conv => arg 4; whnf); show Run _ [some _, some _] _ _ _)
theorem f_check_place {g : Gb} (T : Txt g) : Fnx g "check_place" 2 RckPl := by
  refine fnx_run (k := 1) T.d_check_place sc_check_place bd_check_place (fun ds d h => by obtain ⟨r, p, rfl, _⟩ := h; rfl) fun ds o hR => ?_
  obtain ⟨row, p, rfl, rfl⟩ := hR
  have F1 := f_in_range T
  obtain ⟨C, xc⟩ := T.x_InvalidNumber
  have B := T.b; cases B
  walk_at "go"
  refine run_if (k := !inR p 0 (row.length - 1)) (evxt (et_not (et_val (ev_call F1 (ea_cons (by walk_at "n") (ea_cons ev_int (ea_cons (ev_sub (Ev.cast (ev_lenT (xs := iL row) (by walk_at "n") (by assumption) (by walk_at "b")) (by rw [List.length_map])) ev_int) ea_nil))) ⟨p, 0, _, rfl, rfl⟩ (by walk_at "j") (by walk_at "b"))))) (fun hz => run_raise xc (by walk_at "b") ?_) fun hz => run_nil (run_nil ?_)
  · show ckPl row.length p = .er "InvalidNumber"
    unfold ckPl; rw [if_neg (by intro z; rw [z] at hz; cases hz)]
  · show ckPl row.length p = .ok .none
    unfold ckPl; rw [if_pos (by simpa using hz)]

end
section
local macro_rules | `(tactic| walk_at "n") => `(tactic| first | ((with_reducible show Ev _ _ (.Name "hours" _) _); exact ev_name 0 rfl rfl (by walk_at "b")) | ((with_reducible show Ev _ _ (.Name "row" _) _); exact ev_name 1 rfl rfl (by walk_at "b")) | ((with_reducible show Ev _ _ (.Name "found" _) _); exact ev_name 2 rfl rfl (by walk_at "b")) | ((with_reducible show Ev _ _ (.Name "place" _) _); exact ev_name 3 rfl rfl (by walk_at "b")) | ((with_reducible show Ev _ _ (.Name "rest" _) _); exact ev_name 4 rfl rfl (by walk_at "b")) | ((with_reducible show Ev _ _ (.Name "other" _) _); exact ev_name 5 rfl rfl (by walk_at "b")) | ((with_reducible show Ev _ _ (.Name "joined" _) _); exact ev_name 6 rfl rfl (by walk_at "b")) | ((with_reducible show Ev _ _ (.Name "part" _) _); exact ev_name 7 rfl rfl (by walk_at "b")) | ((with_reducible show Ev _ _ (.Name "longer" _) _); exact ev_name 8 rfl rfl (by walk_at "b")))
local macro_rules | `(tactic| walk_at "set") => `(tactic| first | ((with_reducible show Run _ _ _ (.Assign [.Name "hours" _] _ _ :: _) _); refine run_set 0 (by walk_at "evx") rfl (by walk_at "b") ?_ (fun _ => rfl); walk_at "nf") | ((with_reducible show Run _ _ _ (.Assign [.Name "row" _] _ _ :: _) _); refine run_set 1 (by walk_at "evx") rfl (by walk_at "b") ?_ (fun _ => rfl); walk_at "nf") | ((with_reducible show Run _ _ _ (.Assign [.Name "found" _] _ _ :: _) _); refine run_set 2 (by walk_at "evx") rfl (by walk_at "b") ?_ (fun _ => rfl); walk_at "nf") | ((with_reducible show Run _ _ _ (.Assign [.Name "place" _] _ _ :: _) _); refine run_set 3 (by walk_at "evx") rfl (by walk_at "b") ?_ (fun _ => rfl); walk_at "nf") | ((with_reducible show Run _ _ _ (.Assign [.Name "rest" _] _ _ :: _) _); refine run_set 4 (by walk_at "evx") rfl (by walk_at "b") ?_ (fun _ => rfl); walk_at "nf") | ((with_reducible show Run _ _ _ (.Assign [.Name "other" _] _ _ :: _) _); refine run_set 5 (by walk_at "evx") rfl (by walk_at "b") ?_ (fun _ => rfl); walk_at "nf") | ((with_reducible show Run _ _ _ (.Assign [.Name "joined" _] _ _ :: _) _); refine run_set 6 (by walk_at "evx") rfl (by walk_at "b") ?_ (fun _ => rfl); walk_at "nf") | ((with_reducible show Run _ _ _ (.Assign [.Name "part" _] _ _ :: _) _); refine run_set 7 (by walk_at "evx") rfl (by walk_at "b") ?_ (fun _ => rfl); walk_at "nf") | ((with_reducible show Run _ _ _ (.Assign [.Name "longer" _] _ _ :: _) _); refine run_set 8 (by walk_at "evx") rfl (by walk_at "b") ?_ (fun _ => rfl); walk_at "nf"))
local macro_rules | `(tactic| walk_at "el") => `(tactic| first | ((with_reducible show EvL _ _ (.ListComp _ [⟨.Name "hours" _, _, [], 0⟩] _ _) _); apply el_lcI0 0 rfl; walk_at "ei"; walk_at "lx"; walk_at "b"; walk_at "b"; (intro z hz; (try have hz := mem_rng.mp hz); walk_at "ev")) | ((with_reducible show EvL _ _ (.ListComp _ [⟨.Name "row" _, _, [], 0⟩] _ _) _); apply el_lcI0 1 rfl; walk_at "ei"; walk_at "lx"; walk_at "b"; walk_at "b"; (intro z hz; (try have hz := mem_rng.mp hz); walk_at "ev")) | ((with_reducible show EvL _ _ (.ListComp _ [⟨.Name "found" _, _, [], 0⟩] _ _) _); apply el_lcI0 2 rfl; walk_at "ei"; walk_at "lx"; walk_at "b"; walk_at "b"; (intro z hz; (try have hz := mem_rng.mp hz); walk_at "ev")) | ((with_reducible show EvL _ _ (.ListComp _ [⟨.Name "place" _, _, [], 0⟩] _ _) _); apply el_lcI0 3 rfl; walk_at "ei"; walk_at "lx"; walk_at "b"; walk_at "b"; (intro z hz; (try have hz := mem_rng.mp hz); walk_at "ev")) | ((with_reducible show EvL _ _ (.ListComp _ [⟨.Name "rest" _, _, [], 0⟩] _ _) _); apply el_lcI0 4 rfl; walk_at "ei"; walk_at "lx"; walk_at "b"; walk_at "b"; (intro z hz; (try have hz := mem_rng.mp hz); walk_at "ev")) | ((with_reducible show EvL _ _ (.ListComp _ [⟨.Name "other" _, _, [], 0⟩] _ _) _); apply el_lcI0 5 rfl; walk_at "ei"; walk_at "lx"; walk_at "b"; walk_at "b"; (intro z hz; (try have hz := mem_rng.mp hz); walk_at "ev")) | ((with_reducible show EvL _ _ (.ListComp _ [⟨.Name "joined" _, _, [], 0⟩] _ _) _); apply el_lcI0 6 rfl; walk_at "ei"; walk_at "lx"; walk_at "b"; walk_at "b"; (intro z hz; (try have hz := mem_rng.mp hz); walk_at "ev")) | ((with_reducible show EvL _ _ (.ListComp _ [⟨.Name "part" _, _, [], 0⟩] _ _) _); apply el_lcI0 7 rfl; walk_at "ei"; walk_at "lx"; walk_at "b"; walk_at "b"; (intro z hz; (try have hz := mem_rng.mp hz); walk_at "ev")) | ((with_reducible show EvL _ _ (.ListComp _ [⟨.Name "longer" _, _, [], 0⟩] _ _) _); apply el_lcI0 8 rfl; walk_at "ei"; walk_at "lx"; walk_at "b"; walk_at "b"; (intro z hz; (try have hz := mem_rng.mp hz); walk_at "ev")) | ((with_reducible show EvL _ _ (.ListComp _ [⟨.Name "hours" _, _, [_], 0⟩] _ _) _); apply el_lcI 0 rfl; walk_at "ei"; walk_at "lx"; walk_at "b"; walk_at "b"; (intro z hz; (try have hz := mem_rng.mp hz); apply ets_one; walk_at "et"); (intro z hz hq; (try have hz := mem_rng.mp hz); walk_at "ev")) | ((with_reducible show EvL _ _ (.ListComp _ [⟨.Name "row" _, _, [_], 0⟩] _ _) _); apply el_lcI 1 rfl; walk_at "ei"; walk_at "lx"; walk_at "b"; walk_at "b"; (intro z hz; (try have hz := mem_rng.mp hz); apply ets_one; walk_at "et"); (intro z hz hq; (try have hz := mem_rng.mp hz); walk_at "ev")) | ((with_reducible show EvL _ _ (.ListComp _ [⟨.Name "found" _, _, [_], 0⟩] _ _) _); apply el_lcI 2 rfl; walk_at "ei"; walk_at "lx"; walk_at "b"; walk_at "b"; (intro z hz; (try have hz := mem_rng.mp hz); apply ets_one; walk_at "et"); (intro z hz hq; (try have hz := mem_rng.mp hz); walk_at "ev")) | ((with_reducible show EvL _ _ (.ListComp _ [⟨.Name "place" _, _, [_], 0⟩] _ _) _); apply el_lcI 3 rfl; walk_at "ei"; walk_at "lx"; walk_at "b"; walk_at "b"; (intro z hz; (try have hz := mem_rng.mp hz); apply ets_one; walk_at "et"); (intro z hz hq; (try have hz := mem_rng.mp hz); walk_at "ev")) | ((with_reducible show EvL _ _ (.ListComp _ [⟨.Name "rest" _, _, [_], 0⟩] _ _) _); apply el_lcI 4 rfl; walk_at "ei"; walk_at "lx"; walk_at "b"; walk_at "b"; (intro z hz; (try have hz := mem_rng.mp hz); apply ets_one; walk_at "et"); (intro z hz hq; (try have hz := mem_rng.mp hz); walk_at "ev")) | ((with_reducible show EvL _ _ (.ListComp _ [⟨.Name "other" _, _, [_], 0⟩] _ _) _); apply el_lcI 5 rfl; walk_at "ei"; walk_at "lx"; walk_at "b"; walk_at "b"; (intro z hz; (try have hz := mem_rng.mp hz); apply ets_one; walk_at "et"); (intro z hz hq; (try have hz := mem_rng.mp hz); walk_at "ev")) | ((with_reducible show EvL _ _ (.ListComp _ [⟨.Name "joined" _, _, [_], 0⟩] _ _) _); apply el_lcI 6 rfl; walk_at "ei"; walk_at "lx"; walk_at "b"; walk_at "b"; (intro z hz; (try have hz := mem_rng.mp hz); apply ets_one; walk_at "et"); (intro z hz hq; (try have hz := mem_rng.mp hz); walk_at "ev")) | ((with_reducible show EvL _ _ (.ListComp _ [⟨.Name "part" _, _, [_], 0⟩] _ _) _); apply el_lcI 7 rfl; walk_at "ei"; walk_at "lx"; walk_at "b"; walk_at "b"; (intro z hz; (try have hz := mem_rng.mp hz); apply ets_one; walk_at "et"); (intro z hz hq; (try have hz := mem_rng.mp hz); walk_at "ev")) | ((with_reducible show EvL _ _ (.ListComp _ [⟨.Name "longer" _, _, [_], 0⟩] _ _) _); apply el_lcI 8 rfl; walk_at "ei"; walk_at "lx"; walk_at "b"; walk_at "b"; (intro z hz; (try have hz := mem_rng.mp hz); apply ets_one; walk_at "et"); (intro z hz hq; (try have hz := mem_rng.mp hz); walk_at "ev")))
local macro_rules | `(tactic| walk_at "go") => `(tactic| (conv => arg 4; whnf); show Run _ [some _, some _, none, none, none, none, none, none, none] _ _ _)

end
section
local macro_rules | `(tactic| walk_at "n") => `(tactic| first | ((with_reducible show Ev _ _ (.Name "hours" _) _); exact ev_name 0 rfl rfl (by walk_at "b")) | ((with_reducible show Ev _ _ (.Name "length" _) _); exact ev_name 1 rfl rfl (by walk_at "b")) | ((with_reducible show Ev _ _ (.Name "found" _) _); exact ev_name 2 rfl rfl (by walk_at "b")) | ((with_reducible show Ev _ _ (.Name "time" _) _); exact ev_name 3 rfl rfl (by walk_at "b")) | ((with_reducible show Ev _ _ (.Name "longer" _) _); exact ev_name 4 rfl rfl (by walk_at "b")) | ((with_reducible show Ev _ _ (.Name "row" _) _); exact ev_name 5 rfl rfl (by walk_at "b")) | ((with_reducible show Ev _ _ (.Name "start" _) _); exact ev_name 6 rfl rfl (by walk_at "b")) | ((with_reducible show Ev _ _ (.Name "rows" _) _); exact ev_name 7 rfl rfl (by walk_at "b")) | ((with_reducible show Ev _ _ (.Name "one" _) _); exact ev_name 8 rfl rfl (by walk_at "b")))
local macro_rules | `(tactic| walk_at "set") => `(tactic| first | ((with_reducible show Run _ _ _ (.Assign [.Name "hours" _] _ _ :: _) _); refine run_set 0 (by walk_at "evx") rfl (by walk_at "b") ?_ (fun _ => rfl); walk_at "nf") | ((with_reducible show Run _ _ _ (.Assign [.Name "length" _] _ _ :: _) _); refine run_set 1 (by walk_at "evx") rfl (by walk_at "b") ?_ (fun _ => rfl); walk_at "nf") | ((with_reducible show Run _ _ _ (.Assign [.Name "found" _] _ _ :: _) _); refine run_set 2 (by walk_at "evx") rfl (by walk_at "b") ?_ (fun _ => rfl); walk_at "nf") | ((with_reducible show Run _ _ _ (.Assign [.Name "time" _] _ _ :: _) _); refine run_set 3 (by walk_at "evx") rfl (by walk_at "b") ?_ (fun _ => rfl); walk_at "nf") | ((with_reducible show Run _ _ _ (.Assign [.Name "longer" _] _ _ :: _) _); refine run_set 4 (by walk_at "evx") rfl (by walk_at "b") ?_ (fun _ => rfl); walk_at "nf") | ((with_reducible show Run _ _ _ (.Assign [.Name "row" _] _ _ :: _) _); refine run_set 5 (by walk_at "evx") rfl (by walk_at "b") ?_ (fun _ => rfl); walk_at "nf") | ((with_reducible show Run _ _ _ (.Assign [.Name "start" _] _ _ :: _) _); refine run_set 6 (by walk_at "evx") rfl (by walk_at "b") ?_ (fun _ => rfl); walk_at "nf") | ((with_reducible show Run _ _ _ (.Assign [.Name "rows" _] _ _ :: _) _); refine run_set 7 (by walk_at "evx") rfl (by walk_at "b") ?_ (fun _ => rfl); walk_at "nf") | ((with_reducible show Run _ _ _ (.Assign [.Name "one" _] _ _ :: _) _); refine run_set 8 (by walk_at "evx") rfl (by walk_at "b") ?_ (fun _ => rfl); walk_at "nf"))
local macro_rules | `(tactic| walk_at "el") => `(tactic| first | ((with_reducible show EvL _ _ (.ListComp _ [⟨.Name "hours" _, _, [], 0⟩] _ _) _); apply el_lcI0 0 rfl; walk_at "ei"; walk_at "lx"; walk_at "b"; walk_at "b"; (intro z hz; (try have hz := mem_rng.mp hz); walk_at "ev")) | ((with_reducible show EvL _ _ (.ListComp _ [⟨.Name "length" _, _, [], 0⟩] _ _) _); apply el_lcI0 1 rfl; walk_at "ei"; walk_at "lx"; walk_at "b"; walk_at "b"; (intro z hz; (try have hz := mem_rng.mp hz); walk_at "ev")) | ((with_reducible show EvL _ _ (.ListComp _ [⟨.Name "found" _, _, [], 0⟩] _ _) _); apply el_lcI0 2 rfl; walk_at "ei"; walk_at "lx"; walk_at "b"; walk_at "b"; (intro z hz; (try have hz := mem_rng.mp hz); walk_at "ev")) | ((with_reducible show EvL _ _ (.ListComp _ [⟨.Name "time" _, _, [], 0⟩] _ _) _); apply el_lcI0 3 rfl; walk_at "ei"; walk_at "lx"; walk_at "b"; walk_at "b"; (intro z hz; (try have hz := mem_rng.mp hz); walk_at "ev")) | ((with_reducible show EvL _ _ (.ListComp _ [⟨.Name "longer" _, _, [], 0⟩] _ _) _); apply el_lcI0 4 rfl; walk_at "ei"; walk_at "lx"; walk_at "b"; walk_at "b"; (intro z hz; (try have hz := mem_rng.mp hz); walk_at "ev")) | ((with_reducible show EvL _ _ (.ListComp _ [⟨.Name "row" _, _, [], 0⟩] _ _) _); apply el_lcI0 5 rfl; walk_at "ei"; walk_at "lx"; walk_at "b"; walk_at "b"; (intro z hz; (try have hz := mem_rng.mp hz); walk_at "ev")) | ((with_reducible show EvL _ _ (.ListComp _ [⟨.Name "start" _, _, [], 0⟩] _ _) _); apply el_lcI0 6 rfl; walk_at "ei"; walk_at "lx"; walk_at "b"; walk_at "b"; (intro z hz; (try have hz := mem_rng.mp hz); walk_at "ev")) | ((with_reducible show EvL _ _ (.ListComp _ [⟨.Name "rows" _, _, [], 0⟩] _ _) _); apply el_lcI0 7 rfl; walk_at "ei"; walk_at "lx"; walk_at "b"; walk_at "b"; (intro z hz; (try have hz := mem_rng.mp hz); walk_at "ev")) | ((with_reducible show EvL _ _ (.ListComp _ [⟨.Name "one" _, _, [], 0⟩] _ _) _); apply el_lcI0 8 rfl; walk_at "ei"; walk_at "lx"; walk_at "b"; walk_at "b"; (intro z hz; (try have hz := mem_rng.mp hz); walk_at "ev")) | ((with_reducible show EvL _ _ (.ListComp _ [⟨.Name "hours" _, _, [_], 0⟩] _ _) _); apply el_lcI 0 rfl; walk_at "ei"; walk_at "lx"; walk_at "b"; walk_at "b"; (intro z hz; (try have hz := mem_rng.mp hz); apply ets_one; walk_at "et"); (intro z hz hq; (try have hz := mem_rng.mp hz); walk_at "ev")) | ((with_reducible show EvL _ _ (.ListComp _ [⟨.Name "length" _, _, [_], 0⟩] _ _) _); apply el_lcI 1 rfl; walk_at "ei"; walk_at "lx"; walk_at "b"; walk_at "b"; (intro z hz; (try have hz := mem_rng.mp hz); apply ets_one; walk_at "et"); (intro z hz hq; (try have hz := mem_rng.mp hz); walk_at "ev")) | ((with_reducible show EvL _ _ (.ListComp _ [⟨.Name "found" _, _, [_], 0⟩] _ _) _); apply el_lcI 2 rfl; walk_at "ei"; walk_at "lx"; walk_at "b"; walk_at "b"; (intro z hz; (try have hz := mem_rng.mp hz); apply ets_one; walk_at "et"); (intro z hz hq; (try have hz := mem_rng.mp hz); walk_at "ev")) | ((with_reducible show EvL _ _ (.ListComp _ [⟨.Name "time" _, _, [_], 0⟩] _ _) _); apply el_lcI 3 rfl; walk_at "ei"; walk_at "lx"; walk_at "b"; walk_at "b"; (intro z hz; (try have hz := mem_rng.mp hz); apply ets_one; walk_at "et"); (intro z hz hq; (try have hz := mem_rng.mp hz); walk_at "ev")) | ((with_reducible show EvL _ _ (.ListComp _ [⟨.Name "longer" _, _, [_], 0⟩] _ _) _); apply el_lcI 4 rfl; walk_at "ei"; walk_at "lx"; walk_at "b"; walk_at "b"; (intro z hz; (try have hz := mem_rng.mp hz); apply ets_one; walk_at "et"); (intro z hz hq; (try have hz := mem_rng.mp hz); walk_at "ev")) | ((with_reducible show EvL _ _ (.ListComp _ [⟨.Name "row" _, _, [_], 0⟩] _ _) _); apply el_lcI 5 rfl; walk_at "ei"; walk_at "lx"; walk_at "b"; walk_at "b"; (intro z hz; (try have hz := mem_rng.mp hz); apply ets_one; walk_at "et"); (intro z hz hq; (try have hz := mem_rng.mp hz); walk_at "ev")) | ((with_reducible show EvL _ _ (.ListComp _ [⟨.Name "start" _, _, [_], 0⟩] _ _) _); apply el_lcI 6 rfl; walk_at "ei"; walk_at "lx"; walk_at "b"; walk_at "b"; (intro z hz; (try have hz := mem_rng.mp hz); apply ets_one; walk_at "et"); (intro z hz hq; (try have hz := mem_rng.mp hz); walk_at "ev")) | ((with_reducible show EvL _ _ (.ListComp _ [⟨.Name "rows" _, _, [_], 0⟩] _ _) _); apply el_lcI 7 rfl; walk_at "ei"; walk_at "lx"; walk_at "b"; walk_at "b"; (intro z hz; (try have hz := mem_rng.mp hz); apply ets_one; walk_at "et"); (intro z hz hq; (try have hz := mem_rng.mp hz); walk_at "ev")) | ((with_reducible show EvL _ _ (.ListComp _ [⟨.Name "one" _, _, [_], 0⟩] _ _) _); apply el_lcI 8 rfl; walk_at "ei"; walk_at "lx"; walk_at "b"; walk_at "b"; (intro z hz; (try have hz := mem_rng.mp hz); apply ets_one; walk_at "et"); (intro z hz hq; (try have hz := mem_rng.mp hz); walk_at "ev")))
local macro_rules | `(tactic| walk_at "go") => `(tactic| (conv => arg 4; whnf); show Run _ [some _, some _, none, none, none, none, none, none, none] _ _ _)
theorem f_free_rows {g : Gb} (T : Txt g) : Fnc g "free_rows" 2 RfreeRows := by
  refine fnc_run (k := 1) T.d_free_rows sc_free_rows bd_free_rows (fun ds d h => by obtain ⟨n, L, _, _, _, rfl, _⟩ := h; rfl) fun ds d hR => ?_
  obtain ⟨n, L, h2, h9, hL, rfl, rfl⟩ := hR
  have F2 := f_reached T
  have B := T.b; cases B
  walk_at "go"
  refine run_set 2 (d := .list ((fr n 0).map pT)) (evx (Ev.cast (ev_list (ea_cons (ev_tuple ea_nil (by walk_at "j")) ea_nil) (by walk_at "j")) rfl)) rfl (by walk_at "b") ?_
  walk_at "nf"
  refine run_for 3 (fun k => [some (.int n), some (.int L), some (.list ((fr n k).map pT)), none, none, none, none, none, none]) (fun _ => []) (fun _ => True) (ds := iL (rng 0 L)) (ei_rng1 (by walk_at "n") (by assumption) (by walk_at "b") (by omega) (by omega)) rfl (by walk_at "b") (by walk_at "sub") rfl trivial (fun k d hi _ => ?_) fun _ => ?_
  · obtain ⟨z, hz, rfl⟩ := get_iL hi
    obtain ⟨z0, z2, z1⟩ := rng_get hz
    have hk9 : k + 1 < 9 := by omega
    have b1 := (fr_ok h2 h9 (L := k) (by omega)).1
    have b2 := (fr_ok h2 h9 (L := k + 1) hk9).1
    walk_at "nf"
    refine run_own 4 (el_list (ds := (nextF n ((fr n k).take 0)).map pT) ea_nil (by walk_at "j")) rfl rfl (by walk_at "b") ?_ (by walk_at "j")
    walk_at "nf"
    refine run_for 5 (fun i => [some (.int n), some (.int L), some (.list ((fr n k).map pT)), none, none, none, none, none, none]) (fun i => [(4, .lst ((nextF n ((fr n k).take i)).map pT))]) (fun i => True) (ds := (fr n k).map pT) (ei_list (by walk_at "n")) rfl (by walk_at "b") (by walk_at "sub") rfl trivial (fun i d hi _ => ?_) fun _ => ?_
    · obtain ⟨row, hrow, rfl⟩ := map_get hi
      have hm := List.mem_of_getElem? hrow
      obtain ⟨m1, m2, _⟩ := fr_mem hm
      have m3 := strt0_pos hm
      walk_at "nf"
      refine run_set 6 (d := .int (strt0 row)) (evx (Ev.cast (ev_if (k := !row.isEmpty) (da := .int (strt0 row)) (db := .int 1) (EvT.cast (et_truth (by walk_at "n") (by intro x h; cases h) (fun _ _ => rfl)) (trB_pT row)) (fun hh => ?_) (fun hh => ev_int)) ?_)) rfl (by walk_at "b") ?_
      · obtain ⟨l, hl2⟩ : ∃ l, row.getLast? = some l := by
          cases q : row.getLast? with
          | none => rw [List.getLast?_eq_none_iff] at q; rw [q] at hh; cases hh
          | some l => exact ⟨l, rfl⟩
        refine Ev.cast (ev_ixT (xs := iL row) (by walk_at "n") (by walk_at "ev") (atI_lastI hl2)) ?_
        unfold strt0; rw [hl2]
      · cases row with
        | nil => rfl
        | cons a r => rfl
      walk_at "nf"
      refine run_lcI 7 8 rfl (by walk_at "b") (by walk_at "b") (by decide +kernel) rfl (l := rng (strt0 row) n) (q := fun _ => true) (f := fun o => pT (row ++ [o])) (by walk_at "ei") (by rw [rng_len]; omega) (by walk_at "b") (by walk_at "b") (fun _ _ => ets_nil) (fun o ho _ => ?_) ?_
      · exact Ev.cast (ev_catT (xs := iL row) (ys := iL [o]) (by walk_at "n") (Ev.cast (ev_tuple (ea_cons (by walk_at "n") ea_nil) (by walk_at "j")) rfl) (by rw [List.length_map, List.length_map]; show row.length + 1 ≤ _; omega)) (by rw [iL_app])
      rw [filter_yes, show (rng (strt0 row) n).map (fun o => pT (row ++ [o])) = ((rng (strt0 row) n).map fun o => row ++ [o]).map pT by rw [List.map_map]; rfl]
      walk_at "nf"
      have hext : ∀ r ∈ (rng (strt0 row) n).map (fun o => row ++ [o]), Rem n r ∧ r.length ≤ 100 := fun r hr => by
        obtain ⟨o, ho, rfl⟩ := List.mem_map.mp hr
        have ho := mem_rng.mp ho
        refine ⟨Rem.app.mpr ⟨fun x hx => by have := m2 x hx; omega, fun x hx => by rw [List.mem_singleton] at hx; subst hx; omega⟩, by rw [List.length_append]; show row.length + 1 ≤ 100; omega⟩
      have hle := nextF_le n (fr n k) (i + 1)
      rw [nextF_take hrow, List.length_append] at hle
      have h1000 : (nextF n (fr n k)).length ≤ 1000 := b2
      refine run_ext 4 (ds := (nextF n ((fr n k).take i)).map pT) (xs := (exts0 n row).map pT) rfl (EvL.selfT (f := fun r => pT r) (el_lcT (l := (rng (strt0 row) n).map fun o => row ++ [o]) (q := free n) (f := fun r => pT r) 8 rfl (ei_list (by walk_at "n")) (by rw [List.length_map, rng_len]; omega) (by walk_at "b") (by walk_at "b") (fun r hr => ?_) (fun r hr _ => by walk_at "n")) fun _ _ => rfl) rfl (by walk_at "b") (by rw [List.length_map, List.length_map]; omega) ?_
      · exact ets_one (et_niL ev_int (ev_call F2 (by walk_at "ea") (rchT h2 (by omega) (hext r hr).1 (hext r hr).2) (by walk_at "j") (by walk_at "b")))
      · refine run_nil ⟨by walk_at "sub", ?_, trivial⟩
        show _ = [(4, Own.lst ((nextF n ((fr n k).take i)).map pT ++ (exts0 n row).map pT))]
        rw [nextF_take hrow, List.map_append]
    · rw [List.length_map, List.take_length]
      refine run_show 4 rfl ?_
      walk_at "nf"
      refine run_set 2 (d := .list ((fr n (k + 1)).map pT)) (evx (by walk_at "n")) rfl (by walk_at "b") ?_
      walk_at "nf"
      exact run_nil ⟨by walk_at "sub", rfl, trivial⟩
  · rw [List.length_map, rng_len, show ((L : Int) - 0).toNat = L by omega]
    exact run_ret (d := lT (fr n L)) (by walk_at "n") rfl

end
section
local macro_rules | `(tactic| walk_at "n") => `(tactic| first | ((with_reducible show Ev _ _ (.Name "hours" _) _); exact ev_name 0 rfl rfl (by walk_at "b")) | ((with_reducible show Ev _ _ (.Name "length" _) _); exact ev_name 1 rfl rfl (by walk_at "b")))
local macro_rules | `(tactic| walk_at "set") => `(tactic| first | ((with_reducible show Run _ _ _ (.Assign [.Name "hours" _] _ _ :: _) _); refine run_set 0 (by walk_at "evx") rfl (by walk_at "b") ?_ (fun _ => rfl); walk_at "nf") | ((with_reducible show Run _ _ _ (.Assign [.Name "length" _] _ _ :: _) _); refine run_set 1 (by walk_at "evx") rfl (by walk_at "b") ?_ (fun _ => rfl); walk_at "nf"))
local macro_rules | `(tactic| walk_at "el") => `(tactic| first | ((with_reducible show EvL _ _ (.ListComp _ [⟨.Name "hours" _, _, [], 0⟩] _ _) _); apply el_lcI0 0 rfl; walk_at "ei"; walk_at "lx"; walk_at "b"; walk_at "b"; (intro z hz; (try have hz := mem_rng.mp hz); walk_at "ev")) | ((with_reducible show EvL _ _ (.ListComp _ [⟨.Name "length" _, _, [], 0⟩] _ _) _); apply el_lcI0 1 rfl; walk_at "ei"; walk_at "lx"; walk_at "b"; walk_at "b"; (intro z hz; (try have hz := mem_rng.mp hz); walk_at "ev")) | ((with_reducible show EvL _ _ (.ListComp _ [⟨.Name "hours" _, _, [_], 0⟩] _ _) _); apply el_lcI 0 rfl; walk_at "ei"; walk_at "lx"; walk_at "b"; walk_at "b"; (intro z hz; (try have hz := mem_rng.mp hz); apply ets_one; walk_at "et"); (intro z hz hq; (try have hz := mem_rng.mp hz); walk_at "ev")) | ((with_reducible show EvL _ _ (.ListComp _ [⟨.Name "length" _, _, [_], 0⟩] _ _) _); apply el_lcI 1 rfl; walk_at "ei"; walk_at "lx"; walk_at "b"; walk_at "b"; (intro z hz; (try have hz := mem_rng.mp hz); apply ets_one; walk_at "et"); (intro z hz hq; (try have hz := mem_rng.mp hz); walk_at "ev")))
local macro_rules | `(tactic| walk_at "go") => `(tactic| (conv => arg 4; whnf); show Run _ [some _, some _] _ _ _)
theorem f_check_small {g : Gb} (T : Txt g) : Fnx g "check_small" 2 RckSmall := by
  refine fnx_run (k := 1) T.d_check_small sc_check_small bd_check_small (fun ds d h => by obtain ⟨v, l, rfl, _⟩ := h; rfl) fun ds o hR => ?_
  obtain ⟨v, l, rfl, rfl⟩ := hR
  have F1 := f_in_range T
  obtain ⟨C, xc⟩ := T.x_InvalidHours
  obtain ⟨C2, xc2⟩ := T.x_InvalidNumber
  have B := T.b; cases B
  walk_at "go"
  unfold ckSmall
  refine run_if (k := !inR v 2 9) (evxt (et_not (et_val (ev_call F1 (by walk_at "ea") ⟨v, 2, 9, rfl, rfl⟩ (by walk_at "j") (by walk_at "b"))))) (fun h => ?_) fun h => run_nil ?_
  · exact run_raise xc (by walk_at "b") (by show (if _ then _ else _) = _; rw [if_neg (by intro z; rw [z] at h; cases h)])
  rw [if_pos (show inR v 2 9 = true by simpa using h)]
  refine run_if (k := !inR l 0 8) (evxt (et_not (et_val (ev_call F1 (by walk_at "ea") ⟨l, 0, 8, rfl, rfl⟩ (by walk_at "j") (by walk_at "b"))))) (fun h => ?_) fun h => run_nil (run_nil ?_)
  · exact run_raise xc2 (by walk_at "b") (by show (if _ then _ else _) = _; rw [if_neg (by intro z; rw [z] at h; cases h)])
  · show (if _ then _ else _) = _
    rw [if_pos (show inR l 0 8 = true by simpa using h)]

end
section
local macro_rules | `(tactic| walk_at "n") => `(tactic| first | ((with_reducible show Ev _ _ (.Name "hours" _) _); exact ev_name 0 rfl rfl (by walk_at "b")) | ((with_reducible show Ev _ _ (.Name "value" _) _); exact ev_name 1 rfl rfl (by walk_at "b")))
local macro_rules | `(tactic| walk_at "set") => `(tactic| first | ((with_reducible show Run _ _ _ (.Assign [.Name "hours" _] _ _ :: _) _); refine run_set 0 (by walk_at "evx") rfl (by walk_at "b") ?_ (fun _ => rfl); walk_at "nf") | ((with_reducible show Run _ _ _ (.Assign [.Name "value" _] _ _ :: _) _); refine run_set 1 (by walk_at "evx") rfl (by walk_at "b") ?_ (fun _ => rfl); walk_at "nf"))
local macro_rules | `(tactic| walk_at "el") => `(tactic| first | ((with_reducible show EvL _ _ (.ListComp _ [⟨.Name "hours" _, _, [], 0⟩] _ _) _); apply el_lcI0 0 rfl; walk_at "ei"; walk_at "lx"; walk_at "b"; walk_at "b"; (intro z hz; (try have hz := mem_rng.mp hz); walk_at "ev")) | ((with_reducible show EvL _ _ (.ListComp _ [⟨.Name "value" _, _, [], 0⟩] _ _) _); apply el_lcI0 1 rfl; walk_at "ei"; walk_at "lx"; walk_at "b"; walk_at "b"; (intro z hz; (try have hz := mem_rng.mp hz); walk_at "ev")) | ((with_reducible show EvL _ _ (.ListComp _ [⟨.Name "hours" _, _, [_], 0⟩] _ _) _); apply el_lcI 0 rfl; walk_at "ei"; walk_at "lx"; walk_at "b"; walk_at "b"; (intro z hz; (try have hz := mem_rng.mp hz); apply ets_one; walk_at "et"); (intro z hz hq; (try have hz := mem_rng.mp hz); walk_at "ev")) | ((with_reducible show EvL _ _ (.ListComp _ [⟨.Name "value" _, _, [_], 0⟩] _ _) _); apply el_lcI 1 rfl; walk_at "ei"; walk_at "lx"; walk_at "b"; walk_at "b"; (intro z hz; (try have hz := mem_rng.mp hz); apply ets_one; walk_at "et"); (intro z hz hq; (try have hz := mem_rng.mp hz); walk_at "ev")))
local macro_rules | `(tactic| walk_at "go") => `(tactic| (conv => arg 4; whnf); show Run _ [some _, some _] _ _ _)
theorem f_is_row {g : Gb} (T : Txt g) : Fnx g "is_row" 3 RisRow := by
  refine fnx_run (k := 2) T.d_is_row sc_is_row bd_is_row (fun ds d h => by obtain ⟨v, r, rfl, _⟩ := h; rfl) fun ds o hR => ?_
  obtain ⟨h, v, rfl, rfl⟩ := hR
  have F1 := f_check_hours T
  have F2 := f_is_row_of T
  have B := T.b; cases B
  walk_at "go"
  unfold isRowOc
  by_cases hv : inR h 2 12 = true
  · rw [if_pos hv]
    obtain ⟨n, rfl, h2, h12⟩ := inR_int hv
    refine run_expr (d := .none) (evx (ev_callX F1 (by walk_at "ea") ⟨_, rfl, by rw [if_pos hv]⟩ (by walk_at "j") (by walk_at "b"))) ?_
    exact run_ret (d := .bool (isRowD n v)) (ev_call F2 (by walk_at "ea") ⟨n, v, rfl, rfl⟩ (by walk_at "j") (by walk_at "b")) rfl
  · rw [if_neg hv]
    exact run_exprE (y := "InvalidHours") (erx (er_call F1 (by walk_at "ea") ⟨_, rfl, by rw [if_neg hv]⟩ (by walk_at "j") (by walk_at "b"))) rfl

end
section
local macro_rules | `(tactic| walk_at "n") => `(tactic| first | ((with_reducible show Ev _ _ (.Name "hours" _) _); exact ev_name 0 rfl rfl (by walk_at "b")) | ((with_reducible show Ev _ _ (.Name "row" _) _); exact ev_name 1 rfl rfl (by walk_at "b")))
local macro_rules | `(tactic| walk_at "set") => `(tactic| first | ((with_reducible show Run _ _ _ (.Assign [.Name "hours" _] _ _ :: _) _); refine run_set 0 (by walk_at "evx") rfl (by walk_at "b") ?_ (fun _ => rfl); walk_at "nf") | ((with_reducible show Run _ _ _ (.Assign [.Name "row" _] _ _ :: _) _); refine run_set 1 (by walk_at "evx") rfl (by walk_at "b") ?_ (fun _ => rfl); walk_at "nf"))
local macro_rules | `(tactic| walk_at "el") => `(tactic| first | ((with_reducible show EvL _ _ (.ListComp _ [⟨.Name "hours" _, _, [], 0⟩] _ _) _); apply el_lcI0 0 rfl; walk_at "ei"; walk_at "lx"; walk_at "b"; walk_at "b"; (intro z hz; (try have hz := mem_rng.mp hz); walk_at "ev")) | ((with_reducible show EvL _ _ (.ListComp _ [⟨.Name "row" _, _, [], 0⟩] _ _) _); apply el_lcI0 1 rfl; walk_at "ei"; walk_at "lx"; walk_at "b"; walk_at "b"; (intro z hz; (try have hz := mem_rng.mp hz); walk_at "ev")) | ((with_reducible show EvL _ _ (.ListComp _ [⟨.Name "hours" _, _, [_], 0⟩] _ _) _); apply el_lcI 0 rfl; walk_at "ei"; walk_at "lx"; walk_at "b"; walk_at "b"; (intro z hz; (try have hz := mem_rng.mp hz); apply ets_one; walk_at "et"); (intro z hz hq; (try have hz := mem_rng.mp hz); walk_at "ev")) | ((with_reducible show EvL _ _ (.ListComp _ [⟨.Name "row" _, _, [_], 0⟩] _ _) _); apply el_lcI 1 rfl; walk_at "ei"; walk_at "lx"; walk_at "b"; walk_at "b"; (intro z hz; (try have hz := mem_rng.mp hz); apply ets_one; walk_at "et"); (intro z hz hq; (try have hz := mem_rng.mp hz); walk_at "ev")))
local macro_rules | `(tactic| walk_at "go") => `(tactic| (conv => arg 4; whnf); show Run _ [some _, some _] _ _ _)
theorem f_check_row {g : Gb} (T : Txt g) : Fnx g "check_row" 3 RcheckRow := by
  refine fnx_of (k := 2) T.d_check_row sc_check_row bd_check_row (fun ds d h => by obtain ⟨v, r, rfl, _⟩ := h; rfl) fun X sf E tk ds o σ W Q hR hs q => ?_
  obtain ⟨v, r, rfl, rfl⟩ := hR
  have F1 := f_check_hours T
  have F2 := f_is_row_of T
  obtain ⟨C, xc⟩ := T.x_InvalidRow
  have B := T.b; cases B
  conv => arg 2; whnf
  by_cases hv : inR v 2 12 = true
  · have hv' : ∃ n, v = .int n := by
      cases v with
      | int n => exact ⟨n, rfl⟩
      | _ => cases hv
    obtain ⟨n, rfl⟩ := hv'
    refine st_expr sf hs (d := .none) (ev_callX F1 (by walk_at "ea") ⟨_, rfl, by rw [if_pos hv]⟩ (by walk_at "j") (by walk_at "b")) fun W1 e1 s1 => ?_
    have e0 : ckRow (.int n) r = if isRowD n r = true then .ok .none else .er "InvalidRow" := if_pos hv
    rw [e0] at q
    refine st_if sf s1 (k := !isRowD n r) (et_not (et_val (ev_call F2 (by walk_at "ea") ⟨_, _, rfl, rfl⟩ (by walk_at "j") (by walk_at "b")))) (fun h W2 e2 s2 => ?_) (fun h W2 e2 s2 => ?_)
    · rw [if_neg (by intro z; rw [z] at h; cases h)] at q
      exact st_raise sf tk xc (by walk_at "b") (q C W2 xc.gC (e1.trans e2))
    · rw [if_pos (by cases z : isRowD n r with | true => rfl | false => rw [z] at h; cases h)] at q
      exact ss_nil (ss_nil (q _ W2 (e1.trans e2) .non))
  · have e0 : ckRow v r = .er "InvalidHours" := by
      cases v with
      | int n => exact if_neg hv
      | _ => rfl
    rw [e0] at q
    exact st_exprE sf tk hs (er_call F1 (by walk_at "ea") ⟨_, rfl, by rw [if_neg hv]⟩ (by walk_at "j") (by walk_at "b")) fun C W1 hC e1 => q C W1 hC e1

end
section
local macro_rules | `(tactic| walk_at "n") => `(tactic| first | ((with_reducible show Ev _ _ (.Name "hours" _) _); exact ev_name 0 rfl rfl (by walk_at "b")) | ((with_reducible show Ev _ _ (.Name "length" _) _); exact ev_name 1 rfl rfl (by walk_at "b")))
local macro_rules | `(tactic| walk_at "set") => `(tactic| first | ((with_reducible show Run _ _ _ (.Assign [.Name "hours" _] _ _ :: _) _); refine run_set 0 (by walk_at "evx") rfl (by walk_at "b") ?_ (fun _ => rfl); walk_at "nf") | ((with_reducible show Run _ _ _ (.Assign [.Name "length" _] _ _ :: _) _); refine run_set 1 (by walk_at "evx") rfl (by walk_at "b") ?_ (fun _ => rfl); walk_at "nf"))
local macro_rules | `(tactic| walk_at "el") => `(tactic| first | ((with_reducible show EvL _ _ (.ListComp _ [⟨.Name "hours" _, _, [], 0⟩] _ _) _); apply el_lcI0 0 rfl; walk_at "ei"; walk_at "lx"; walk_at "b"; walk_at "b"; (intro z hz; (try have hz := mem_rng.mp hz); walk_at "ev")) | ((with_reducible show EvL _ _ (.ListComp _ [⟨.Name "length" _, _, [], 0⟩] _ _) _); apply el_lcI0 1 rfl; walk_at "ei"; walk_at "lx"; walk_at "b"; walk_at "b"; (intro z hz; (try have hz := mem_rng.mp hz); walk_at "ev")) | ((with_reducible show EvL _ _ (.ListComp _ [⟨.Name "hours" _, _, [_], 0⟩] _ _) _); apply el_lcI 0 rfl; walk_at "ei"; walk_at "lx"; walk_at "b"; walk_at "b"; (intro z hz; (try have hz := mem_rng.mp hz); apply ets_one; walk_at "et"); (intro z hz hq; (try have hz := mem_rng.mp hz); walk_at "ev")) | ((with_reducible show EvL _ _ (.ListComp _ [⟨.Name "length" _, _, [_], 0⟩] _ _) _); apply el_lcI 1 rfl; walk_at "ei"; walk_at "lx"; walk_at "b"; walk_at "b"; (intro z hz; (try have hz := mem_rng.mp hz); apply ets_one; walk_at "et"); (intro z hz hq; (try have hz := mem_rng.mp hz); walk_at "ev")))
local macro_rules | `(tactic| walk_at "go") => `(tactic| (conv => arg 4; whnf); show Run _ [some _, some _] _ _ _)
theorem f_all_free {g : Gb} (T : Txt g) : Fnx g "all_free" 3 RallFree := by
  refine fnx_run (k := 2) T.d_all_free sc_all_free bd_all_free (fun ds d h => by obtain ⟨v, l, rfl, _⟩ := h; rfl) fun ds o hR => ?_
  obtain ⟨v, l, rfl, rfl⟩ := hR
  have F1 := f_check_small T
  have F2 := f_free_rows T
  have B := T.b; cases B
  walk_at "go"
  unfold allFreeOc
  by_cases hv : inR v 2 9 = true
  · rw [if_pos hv]
    by_cases hl : inR l 0 8 = true
    · rw [if_pos hl]
      obtain ⟨n, rfl, h2, h9⟩ := inR_int hv
      obtain ⟨L, rfl, l0, l8⟩ := inR_int hl
      refine run_expr (d := .none) (evx (ev_callX F1 (by walk_at "ea") ⟨_, _, rfl, by unfold ckSmall; rw [if_pos hv, if_pos hl]⟩ (by walk_at "j") (by walk_at "b"))) ?_
      exact run_ret (d := lT (fr n L.toNat)) (ev_call F2 (by walk_at "ea") ⟨n, L.toNat, h2, h9, by omega, by rw [Int.toNat_of_nonneg l0], rfl⟩ (by walk_at "j") (by walk_at "b")) rfl
    · rw [if_neg hl]
      exact run_exprE (y := "InvalidNumber") (erx (er_call F1 (by walk_at "ea") ⟨_, _, rfl, by unfold ckSmall; rw [if_pos hv, if_neg hl]⟩ (by walk_at "j") (by walk_at "b"))) rfl
  · rw [if_neg hv]
    exact run_exprE (y := "InvalidHours") (erx (er_call F1 (by walk_at "ea") ⟨_, _, rfl, by unfold ckSmall; rw [if_neg hv]⟩ (by walk_at "j") (by walk_at "b"))) rfl

end
section
local macro_rules | `(tactic| walk_at "n") => `(tactic| first | ((with_reducible show Ev _ _ (.Name "hours" _) _); exact ev_name 0 rfl rfl (by walk_at "b")) | ((with_reducible show Ev _ _ (.Name "length" _) _); exact ev_name 1 rfl rfl (by walk_at "b")) | ((with_reducible show Ev _ _ (.Name "answers" _) _); exact ev_name 2 rfl rfl (by walk_at "b")) | ((with_reducible show Ev _ _ (.Name "answer" _) _); exact ev_name 3 rfl rfl (by walk_at "b")))
local macro_rules | `(tactic| walk_at "set") => `(tactic| first | ((with_reducible show Run _ _ _ (.Assign [.Name "hours" _] _ _ :: _) _); refine run_set 0 (by walk_at "evx") rfl (by walk_at "b") ?_ (fun _ => rfl); walk_at "nf") | ((with_reducible show Run _ _ _ (.Assign [.Name "length" _] _ _ :: _) _); refine run_set 1 (by walk_at "evx") rfl (by walk_at "b") ?_ (fun _ => rfl); walk_at "nf") | ((with_reducible show Run _ _ _ (.Assign [.Name "answers" _] _ _ :: _) _); refine run_set 2 (by walk_at "evx") rfl (by walk_at "b") ?_ (fun _ => rfl); walk_at "nf") | ((with_reducible show Run _ _ _ (.Assign [.Name "answer" _] _ _ :: _) _); refine run_set 3 (by walk_at "evx") rfl (by walk_at "b") ?_ (fun _ => rfl); walk_at "nf"))
local macro_rules | `(tactic| walk_at "el") => `(tactic| first | ((with_reducible show EvL _ _ (.ListComp _ [⟨.Name "hours" _, _, [], 0⟩] _ _) _); apply el_lcI0 0 rfl; walk_at "ei"; walk_at "lx"; walk_at "b"; walk_at "b"; (intro z hz; (try have hz := mem_rng.mp hz); walk_at "ev")) | ((with_reducible show EvL _ _ (.ListComp _ [⟨.Name "length" _, _, [], 0⟩] _ _) _); apply el_lcI0 1 rfl; walk_at "ei"; walk_at "lx"; walk_at "b"; walk_at "b"; (intro z hz; (try have hz := mem_rng.mp hz); walk_at "ev")) | ((with_reducible show EvL _ _ (.ListComp _ [⟨.Name "answers" _, _, [], 0⟩] _ _) _); apply el_lcI0 2 rfl; walk_at "ei"; walk_at "lx"; walk_at "b"; walk_at "b"; (intro z hz; (try have hz := mem_rng.mp hz); walk_at "ev")) | ((with_reducible show EvL _ _ (.ListComp _ [⟨.Name "answer" _, _, [], 0⟩] _ _) _); apply el_lcI0 3 rfl; walk_at "ei"; walk_at "lx"; walk_at "b"; walk_at "b"; (intro z hz; (try have hz := mem_rng.mp hz); walk_at "ev")) | ((with_reducible show EvL _ _ (.ListComp _ [⟨.Name "hours" _, _, [_], 0⟩] _ _) _); apply el_lcI 0 rfl; walk_at "ei"; walk_at "lx"; walk_at "b"; walk_at "b"; (intro z hz; (try have hz := mem_rng.mp hz); apply ets_one; walk_at "et"); (intro z hz hq; (try have hz := mem_rng.mp hz); walk_at "ev")) | ((with_reducible show EvL _ _ (.ListComp _ [⟨.Name "length" _, _, [_], 0⟩] _ _) _); apply el_lcI 1 rfl; walk_at "ei"; walk_at "lx"; walk_at "b"; walk_at "b"; (intro z hz; (try have hz := mem_rng.mp hz); apply ets_one; walk_at "et"); (intro z hz hq; (try have hz := mem_rng.mp hz); walk_at "ev")) | ((with_reducible show EvL _ _ (.ListComp _ [⟨.Name "answers" _, _, [_], 0⟩] _ _) _); apply el_lcI 2 rfl; walk_at "ei"; walk_at "lx"; walk_at "b"; walk_at "b"; (intro z hz; (try have hz := mem_rng.mp hz); apply ets_one; walk_at "et"); (intro z hz hq; (try have hz := mem_rng.mp hz); walk_at "ev")) | ((with_reducible show EvL _ _ (.ListComp _ [⟨.Name "answer" _, _, [_], 0⟩] _ _) _); apply el_lcI 3 rfl; walk_at "ei"; walk_at "lx"; walk_at "b"; walk_at "b"; (intro z hz; (try have hz := mem_rng.mp hz); apply ets_one; walk_at "et"); (intro z hz hq; (try have hz := mem_rng.mp hz); walk_at "ev")))
local macro_rules | `(tactic| walk_at "go") => `(tactic| (conv => arg 4; whnf); show Run _ [some _, some _, some _, none] _ _ _)
theorem f_check_answers {g : Gb} (T : Txt g) : Fnx g "check_answers" 3 RckAns := by
  refine fnx_run (k := 2) T.d_check_answers sc_check_answers bd_check_answers (fun ds d h => by obtain ⟨v, l, a, _, rfl, _⟩ := h; rfl) fun ds o hR => ?_
  obtain ⟨h, l, a, hal, rfl, rfl⟩ := hR
  have F1 := f_check_small T
  have F2 := f_in_range T
  obtain ⟨C, xc⟩ := T.x_InvalidAnswers
  have B := T.b; cases B
  walk_at "go"
  unfold ckAns
  have hR : RckSmall [h, l] (ckSmall h l) := ⟨_, _, rfl, rfl⟩
  cases hs : ckSmall h l with
  | er y => rw [hs] at hR; exact run_exprE (y := y) (erx (er_call F1 (by walk_at "ea") hR (by walk_at "j") (by walk_at "b"))) rfl
  | ok d =>
    rw [hs] at hR
    refine run_expr (d := d) (evx (ev_callX F1 (by walk_at "ea") hR (by walk_at "j") (by walk_at "b"))) ?_
    obtain ⟨n, rfl, h2, h9⟩ : ∃ n, h = .int n ∧ 2 ≤ n ∧ n ≤ 9 := by
      unfold ckSmall at hs
      split at hs
      · rename_i hv; exact inR_int hv
      · cases hs
    by_cases ht : isTup a = true
    · obtain ⟨xs, rfl⟩ : ∃ xs, a = .tuple xs := by cases a <;> first | exact ⟨_, rfl⟩ | cases ht
      have hxl := hal xs rfl
      refine run_if (k := false) (evxt (EvT.cast (et_not (et_val (ev_isTup (d := .tuple xs) (by walk_at "n") (by assumption) (by walk_at "b") (by assumption) (by walk_at "b")))) rfl)) (fun h => by cases h) fun _ => run_nil ?_
      show Run _ _ _ _ { rt := fun d' => (if xs.all (okAns n) = true then Oc.ok .none else .er "InvalidAnswers") = .ok d', nx := fun _ _ => (if xs.all (okAns n) = true then Oc.ok .none else .er "InvalidAnswers") = .ok .none, er := fun x _ _ => (if xs.all (okAns n) = true then Oc.ok .none else .er "InvalidAnswers") = .er x, bk := _, ct := _ }
      have bad : ∀ x ∈ xs, okAns n x = false → (if xs.all (okAns n) = true then Oc.ok .none else .er "InvalidAnswers") = .er "InvalidAnswers" := fun x hx hf => by
        rw [if_neg]
        intro hall
        have := List.all_eq_true.mp hall x hx
        rw [hf] at this; cases this
      refine run_for 3 (fun _ => [some (.int n), some l, some (.tuple xs), none]) (fun _ => []) (fun i => (xs.take i).all (okAns n) = true) (ds := xs) (ei_tup (by walk_at "n")) rfl (by walk_at "b") (by walk_at "sub") rfl rfl (fun i x hi hF => ?_) fun hF => ?_
      · have hx := List.mem_of_getElem? hi
        walk_at "nf"
        by_cases hok : okAns n x = true
        · obtain ⟨y, z, rfl⟩ : ∃ y z, x = .tuple [y, z] := by
            unfold okAns at hok
            split at hok
            · exact ⟨_, _, rfl⟩
            · cases hok
          have hok' : (inR y 1 (n - 1) && inR z 0 8) = true := hok
          rw [Bool.and_eq_true] at hok'
          refine run_if (k := false) (evxt (EvT.cast (EvW.t (ew_or (i := false) (j := false) ?_ fun _ => EvW.cast (ew_or (i := false) (j := false) ?_ fun _ => ew_or1 ?_) rfl)) rfl)) (fun h => by cases h) fun _ => run_nil ?_
          · exact EvT.cast (et_not (et_val (ev_isTup (d := .tuple [y, z]) (by walk_at "n") (by assumption) (by walk_at "b") (by assumption) (by walk_at "b")))) rfl
          · exact EvT.cast (et_neI (i := 2) (j := 2) (Ev.cast (ev_lenT (xs := [y, z]) (by walk_at "n") (by assumption) (by walk_at "b")) rfl) ev_int) rfl
          · exact EvT.cast (et_not (et_val (ev_call F2 (ea_cons (ev_ixT (xs := [y, z]) (by walk_at "n") ev_int rfl) (ea_cons ev_int (ea_cons (by walk_at "ev") ea_nil))) ⟨_, _, _, rfl, rfl⟩ (by walk_at "j") (by walk_at "b")))) (by rw [hok'.1]; rfl)
          refine run_if (k := false) (evxt (EvT.cast (et_not (et_val (ev_call F2 (ea_cons (ev_ixT (xs := [y, z]) (by walk_at "n") ev_int rfl) (ea_cons ev_int (ea_cons ev_int ea_nil))) ⟨_, _, _, rfl, rfl⟩ (by walk_at "j") (by walk_at "b")))) (by rw [hok'.2]; rfl))) (fun h => by cases h) fun _ => run_nil (run_nil ⟨by walk_at "sub", rfl, ?_⟩)
          rw [take_succ' hi, List.all_append, hF]
          show (true && (okAns n _ && true)) = true
          rw [hok]; rfl
        · have hok : okAns n x = false := by simpa using hok
          have hb := bad x hx hok
          by_cases hx2 : ∃ y z, x = .tuple [y, z]
          · obtain ⟨y, z, rfl⟩ := hx2
            have hok' : (inR y 1 (n - 1) && inR z 0 8) = false := hok
            refine run_if (k := !inR y 1 (n - 1)) (evxt (EvT.cast (EvW.t (ew_or (i := false) (j := !inR y 1 (n - 1)) ?_ fun _ => EvW.cast (ew_or (i := false) (j := !inR y 1 (n - 1)) ?_ fun _ => ew_or1 ?_) rfl)) rfl)) (fun h => run_raise xc (by walk_at "b") hb) fun h => run_nil ?_
            · exact EvT.cast (et_not (et_val (ev_isTup (d := .tuple [y, z]) (by walk_at "n") (by assumption) (by walk_at "b") (by assumption) (by walk_at "b")))) rfl
            · exact EvT.cast (et_neI (i := 2) (j := 2) (Ev.cast (ev_lenT (xs := [y, z]) (by walk_at "n") (by assumption) (by walk_at "b")) rfl) ev_int) rfl
            · exact et_not (et_val (ev_call F2 (ea_cons (ev_ixT (xs := [y, z]) (by walk_at "n") ev_int rfl) (ea_cons ev_int (ea_cons (by walk_at "ev") ea_nil))) ⟨_, _, _, rfl, rfl⟩ (by walk_at "j") (by walk_at "b")))
            have hy : inR y 1 (n - 1) = true := by simpa using h
            rw [hy, Bool.true_and] at hok'
            exact run_if (k := true) (evxt (EvT.cast (et_not (et_val (ev_call F2 (ea_cons (ev_ixT (xs := [y, z]) (by walk_at "n") ev_int rfl) (ea_cons ev_int (ea_cons ev_int ea_nil))) ⟨_, _, _, rfl, rfl⟩ (by walk_at "j") (by walk_at "b")))) (by rw [hok']; rfl))) (fun _ => run_raise xc (by walk_at "b") hb) (fun h => by cases h)
          · by_cases htx : isTup x = true
            · obtain ⟨ys, rfl⟩ : ∃ ys, x = .tuple ys := by cases x <;> first | exact ⟨_, rfl⟩ | cases htx
              have hl2 : ys.length ≠ 2 := fun e => by
                match ys, e with
                | [y, z], _ => exact hx2 ⟨y, z, rfl⟩
              refine run_if (k := true) (evxt (EvT.cast (EvW.t (ew_or (i := false) (j := true) ?_ fun _ => ew_orT ?_)) rfl)) (fun h => run_raise xc (by walk_at "b") hb) (fun h => by cases h)
              · exact EvT.cast (et_not (et_val (ev_isTup (d := .tuple ys) (by walk_at "n") (by assumption) (by walk_at "b") (by assumption) (by walk_at "b")))) rfl
              · exact EvT.cast (et_neI (ev_lenT (xs := ys) (by walk_at "n") (by assumption) (by walk_at "b")) ev_int) (by rw [decide_eq_false (by omega)]; rfl)
            · have htx : isTup x = false := by simpa using htx
              exact run_if (k := true) (evxt (EvW.t (ew_orT (EvT.cast (et_not (et_val (ev_isTup (by walk_at "n") (by assumption) (by walk_at "b") (by assumption) (by walk_at "b")))) (by rw [htx]; rfl))))) (fun h => run_raise xc (by walk_at "b") hb) (fun h => by cases h)
      · rw [List.take_length] at hF
        refine run_nil ?_
        show (if xs.all (okAns n) = true then Oc.ok .none else .er "InvalidAnswers") = .ok .none
        rw [if_pos hF]
    · have ht : isTup a = false := by simpa using ht
      refine run_if (k := true) (evxt (EvT.cast (et_not (et_val (ev_isTup (by walk_at "n") (by assumption) (by walk_at "b") (by assumption) (by walk_at "b")))) (by rw [ht]; rfl))) (fun _ => run_raise xc (by walk_at "b") ?_) (fun h => by cases h)
      cases a <;> first | rfl | cases ht

end
section
local macro_rules | `(tactic| walk_at "n") => `(tactic| first | ((with_reducible show Ev _ _ (.Name "hours" _) _); exact ev_name 0 rfl rfl (by walk_at "b")) | ((with_reducible show Ev _ _ (.Name "row" _) _); exact ev_name 1 rfl rfl (by walk_at "b")))
local macro_rules | `(tactic| walk_at "set") => `(tactic| first | ((with_reducible show Run _ _ _ (.Assign [.Name "hours" _] _ _ :: _) _); refine run_set 0 (by walk_at "evx") rfl (by walk_at "b") ?_ (fun _ => rfl); walk_at "nf") | ((with_reducible show Run _ _ _ (.Assign [.Name "row" _] _ _ :: _) _); refine run_set 1 (by walk_at "evx") rfl (by walk_at "b") ?_ (fun _ => rfl); walk_at "nf"))
local macro_rules | `(tactic| walk_at "el") => `(tactic| first | ((with_reducible show EvL _ _ (.ListComp _ [⟨.Name "hours" _, _, [], 0⟩] _ _) _); apply el_lcI0 0 rfl; walk_at "ei"; walk_at "lx"; walk_at "b"; walk_at "b"; (intro z hz; (try have hz := mem_rng.mp hz); walk_at "ev")) | ((with_reducible show EvL _ _ (.ListComp _ [⟨.Name "row" _, _, [], 0⟩] _ _) _); apply el_lcI0 1 rfl; walk_at "ei"; walk_at "lx"; walk_at "b"; walk_at "b"; (intro z hz; (try have hz := mem_rng.mp hz); walk_at "ev")) | ((with_reducible show EvL _ _ (.ListComp _ [⟨.Name "hours" _, _, [_], 0⟩] _ _) _); apply el_lcI 0 rfl; walk_at "ei"; walk_at "lx"; walk_at "b"; walk_at "b"; (intro z hz; (try have hz := mem_rng.mp hz); apply ets_one; walk_at "et"); (intro z hz hq; (try have hz := mem_rng.mp hz); walk_at "ev")) | ((with_reducible show EvL _ _ (.ListComp _ [⟨.Name "row" _, _, [_], 0⟩] _ _) _); apply el_lcI 1 rfl; walk_at "ei"; walk_at "lx"; walk_at "b"; walk_at "b"; (intro z hz; (try have hz := mem_rng.mp hz); apply ets_one; walk_at "et"); (intro z hz hq; (try have hz := mem_rng.mp hz); walk_at "ev")))
local macro_rules | `(tactic| walk_at "go") => `(tactic| (conv => arg 4; whnf); show Run _ [some _, some _] _ _ _)
theorem f_sums {g : Gb} (T : Txt g) : Fnx g "sums" 4 (RonRow sumsOc) := by
  refine fnx_of (k := 3) T.d_sums sc_sums bd_sums (fun ds d h => by obtain ⟨v, r, rfl, _⟩ := h; rfl) fun X sf E tk ds o σ W Q hR hs q => ?_
  obtain ⟨h, r, rfl, rfl⟩ := hR
  have F1 := f_check_row T
  have F2 := f_reached T
  have B := T.b; cases B
  conv => arg 2; whnf
  refine st_ckRow sf tk hs F1 (by walk_at "j") (by walk_at "b") (by walk_at "ea") (fun y C W1 hy hC e1 => ?_) fun n row W1 hh hr h2 h12 hrow e1 s1 => ?_
  · unfold onRow at q; rw [hy] at q; exact q C W1 hC e1
  · subst hh hr
    rw [onRow_ok h2 h12 hrow] at q
    have hl := hrow.len
    exact st_ret sf s1 (d := pL (rch n row)) (ev_call F2 (by walk_at "ea") (rchT h2 h12 hrow.rem (by omega)) (by walk_at "j") (by walk_at "b")) fun v W4 e4 r4 => q v W4 (e1.trans e4) (by rw [← sf.K]; exact r4)

end
section
local macro_rules | `(tactic| walk_at "n") => `(tactic| first | ((with_reducible show Ev _ _ (.Name "hours" _) _); exact ev_name 0 rfl rfl (by walk_at "b")) | ((with_reducible show Ev _ _ (.Name "row" _) _); exact ev_name 1 rfl rfl (by walk_at "b")) | ((with_reducible show Ev _ _ (.Name "value" _) _); exact ev_name 2 rfl rfl (by walk_at "b")))
local macro_rules | `(tactic| walk_at "set") => `(tactic| first | ((with_reducible show Run _ _ _ (.Assign [.Name "hours" _] _ _ :: _) _); refine run_set 0 (by walk_at "evx") rfl (by walk_at "b") ?_ (fun _ => rfl); walk_at "nf") | ((with_reducible show Run _ _ _ (.Assign [.Name "row" _] _ _ :: _) _); refine run_set 1 (by walk_at "evx") rfl (by walk_at "b") ?_ (fun _ => rfl); walk_at "nf") | ((with_reducible show Run _ _ _ (.Assign [.Name "value" _] _ _ :: _) _); refine run_set 2 (by walk_at "evx") rfl (by walk_at "b") ?_ (fun _ => rfl); walk_at "nf"))
local macro_rules | `(tactic| walk_at "el") => `(tactic| first | ((with_reducible show EvL _ _ (.ListComp _ [⟨.Name "hours" _, _, [], 0⟩] _ _) _); apply el_lcI0 0 rfl; walk_at "ei"; walk_at "lx"; walk_at "b"; walk_at "b"; (intro z hz; (try have hz := mem_rng.mp hz); walk_at "ev")) | ((with_reducible show EvL _ _ (.ListComp _ [⟨.Name "row" _, _, [], 0⟩] _ _) _); apply el_lcI0 1 rfl; walk_at "ei"; walk_at "lx"; walk_at "b"; walk_at "b"; (intro z hz; (try have hz := mem_rng.mp hz); walk_at "ev")) | ((with_reducible show EvL _ _ (.ListComp _ [⟨.Name "value" _, _, [], 0⟩] _ _) _); apply el_lcI0 2 rfl; walk_at "ei"; walk_at "lx"; walk_at "b"; walk_at "b"; (intro z hz; (try have hz := mem_rng.mp hz); walk_at "ev")) | ((with_reducible show EvL _ _ (.ListComp _ [⟨.Name "hours" _, _, [_], 0⟩] _ _) _); apply el_lcI 0 rfl; walk_at "ei"; walk_at "lx"; walk_at "b"; walk_at "b"; (intro z hz; (try have hz := mem_rng.mp hz); apply ets_one; walk_at "et"); (intro z hz hq; (try have hz := mem_rng.mp hz); walk_at "ev")) | ((with_reducible show EvL _ _ (.ListComp _ [⟨.Name "row" _, _, [_], 0⟩] _ _) _); apply el_lcI 1 rfl; walk_at "ei"; walk_at "lx"; walk_at "b"; walk_at "b"; (intro z hz; (try have hz := mem_rng.mp hz); apply ets_one; walk_at "et"); (intro z hz hq; (try have hz := mem_rng.mp hz); walk_at "ev")) | ((with_reducible show EvL _ _ (.ListComp _ [⟨.Name "value" _, _, [_], 0⟩] _ _) _); apply el_lcI 2 rfl; walk_at "ei"; walk_at "lx"; walk_at "b"; walk_at "b"; (intro z hz; (try have hz := mem_rng.mp hz); apply ets_one; walk_at "et"); (intro z hz hq; (try have hz := mem_rng.mp hz); walk_at "ev")))
local macro_rules | `(tactic| walk_at "go") => `(tactic| (conv => arg 4; whnf); show Run _ [some _, some _, some _] _ _ _)
theorem f_is_zero_part {g : Gb} (T : Txt g) : Fnx g "is_zero_part" 4 RisZeroE := by
  refine fnx_run (k := 3) T.d_is_zero_part sc_is_zero_part bd_is_zero_part (fun ds d h => by obtain ⟨v, r, z, x, rfl, _⟩ := h; rfl) fun ds o hR => ?_
  obtain ⟨h, r, v, x, rfl, hx, rfl⟩ := hR
  have F1 := f_check_row T
  have B := T.b; cases B
  walk_at "go"
  exact run_exprE (y := x) (erx (er_call F1 (by walk_at "ea") ⟨_, _, rfl, hx.symm⟩ (by walk_at "j") (by walk_at "b"))) rfl

end
section
local macro_rules | `(tactic| walk_at "n") => `(tactic| first | ((with_reducible show Ev _ _ (.Name "hours" _) _); exact ev_name 0 rfl rfl (by walk_at "b")) | ((with_reducible show Ev _ _ (.Name "row" _) _); exact ev_name 1 rfl rfl (by walk_at "b")))
local macro_rules | `(tactic| walk_at "set") => `(tactic| first | ((with_reducible show Run _ _ _ (.Assign [.Name "hours" _] _ _ :: _) _); refine run_set 0 (by walk_at "evx") rfl (by walk_at "b") ?_ (fun _ => rfl); walk_at "nf") | ((with_reducible show Run _ _ _ (.Assign [.Name "row" _] _ _ :: _) _); refine run_set 1 (by walk_at "evx") rfl (by walk_at "b") ?_ (fun _ => rfl); walk_at "nf"))
local macro_rules | `(tactic| walk_at "el") => `(tactic| first | ((with_reducible show EvL _ _ (.ListComp _ [⟨.Name "hours" _, _, [], 0⟩] _ _) _); apply el_lcI0 0 rfl; walk_at "ei"; walk_at "lx"; walk_at "b"; walk_at "b"; (intro z hz; (try have hz := mem_rng.mp hz); walk_at "ev")) | ((with_reducible show EvL _ _ (.ListComp _ [⟨.Name "row" _, _, [], 0⟩] _ _) _); apply el_lcI0 1 rfl; walk_at "ei"; walk_at "lx"; walk_at "b"; walk_at "b"; (intro z hz; (try have hz := mem_rng.mp hz); walk_at "ev")) | ((with_reducible show EvL _ _ (.ListComp _ [⟨.Name "hours" _, _, [_], 0⟩] _ _) _); apply el_lcI 0 rfl; walk_at "ei"; walk_at "lx"; walk_at "b"; walk_at "b"; (intro z hz; (try have hz := mem_rng.mp hz); apply ets_one; walk_at "et"); (intro z hz hq; (try have hz := mem_rng.mp hz); walk_at "ev")) | ((with_reducible show EvL _ _ (.ListComp _ [⟨.Name "row" _, _, [_], 0⟩] _ _) _); apply el_lcI 1 rfl; walk_at "ei"; walk_at "lx"; walk_at "b"; walk_at "b"; (intro z hz; (try have hz := mem_rng.mp hz); apply ets_one; walk_at "et"); (intro z hz hq; (try have hz := mem_rng.mp hz); walk_at "ev")))
local macro_rules | `(tactic| walk_at "go") => `(tactic| (conv => arg 4; whnf); show Run _ [some _, some _] _ _ _)
theorem f_check_free {g : Gb} (T : Txt g) : Fnx g "check_free" 4 RckFree := by
  refine fnx_run (k := 3) T.d_check_free sc_check_free bd_check_free (fun ds d h => by obtain ⟨v, r, rfl, _⟩ := h; rfl) fun ds o hR => ?_
  obtain ⟨h, r, rfl, rfl⟩ := hR
  have F1 := f_check_row T
  have F2 := f_reached T
  obtain ⟨C, xc⟩ := T.x_HasZeroPart
  have B := T.b; cases B
  walk_at "go"
  refine run_ckRow F1 (by walk_at "j") (by walk_at "b") (by walk_at "ea") (fun y hy => ?_) fun n row hh hr h2 h12 hrow => ?_
  · exact onRow_bad hy
  · subst hh hr
    have hl := hrow.len
    rw [onRow_ok h2 h12 hrow]
    refine run_if (k := decide (0 ∈ rch n row)) (evxt (et_inL ev_int (ev_call F2 (by walk_at "ea") (rchT h2 h12 hrow.rem (by omega)) (by walk_at "j") (by walk_at "b")))) (fun hz => run_raise xc (by walk_at "b") ?_) fun hz => run_nil (run_nil ?_)
    · show ckFr n row = .er "HasZeroPart"
      unfold ckFr free; rw [hz]; rfl
    · show ckFr n row = .ok .none
      unfold ckFr free; rw [hz]; rfl

end
section
local macro_rules | `(tactic| walk_at "n") => `(tactic| first | ((with_reducible show Ev _ _ (.Name "hours" _) _); exact ev_name 0 rfl rfl (by walk_at "b")) | ((with_reducible show Ev _ _ (.Name "length" _) _); exact ev_name 1 rfl rfl (by walk_at "b")) | ((with_reducible show Ev _ _ (.Name "answers" _) _); exact ev_name 2 rfl rfl (by walk_at "b")) | ((with_reducible show Ev _ _ (.Name "row" _) _); exact ev_name 3 rfl rfl (by walk_at "b")) | ((with_reducible show Ev _ _ (.Name "one" _) _); exact ev_name 4 rfl rfl (by walk_at "b")) | ((with_reducible show Ev _ _ (.Name "told" _) _); exact ev_name 5 rfl rfl (by walk_at "b")))
local macro_rules | `(tactic| walk_at "set") => `(tactic| first | ((with_reducible show Run _ _ _ (.Assign [.Name "hours" _] _ _ :: _) _); refine run_set 0 (by walk_at "evx") rfl (by walk_at "b") ?_ (fun _ => rfl); walk_at "nf") | ((with_reducible show Run _ _ _ (.Assign [.Name "length" _] _ _ :: _) _); refine run_set 1 (by walk_at "evx") rfl (by walk_at "b") ?_ (fun _ => rfl); walk_at "nf") | ((with_reducible show Run _ _ _ (.Assign [.Name "answers" _] _ _ :: _) _); refine run_set 2 (by walk_at "evx") rfl (by walk_at "b") ?_ (fun _ => rfl); walk_at "nf") | ((with_reducible show Run _ _ _ (.Assign [.Name "row" _] _ _ :: _) _); refine run_set 3 (by walk_at "evx") rfl (by walk_at "b") ?_ (fun _ => rfl); walk_at "nf") | ((with_reducible show Run _ _ _ (.Assign [.Name "one" _] _ _ :: _) _); refine run_set 4 (by walk_at "evx") rfl (by walk_at "b") ?_ (fun _ => rfl); walk_at "nf") | ((with_reducible show Run _ _ _ (.Assign [.Name "told" _] _ _ :: _) _); refine run_set 5 (by walk_at "evx") rfl (by walk_at "b") ?_ (fun _ => rfl); walk_at "nf"))
local macro_rules | `(tactic| walk_at "el") => `(tactic| first | ((with_reducible show EvL _ _ (.ListComp _ [⟨.Name "hours" _, _, [], 0⟩] _ _) _); apply el_lcI0 0 rfl; walk_at "ei"; walk_at "lx"; walk_at "b"; walk_at "b"; (intro z hz; (try have hz := mem_rng.mp hz); walk_at "ev")) | ((with_reducible show EvL _ _ (.ListComp _ [⟨.Name "length" _, _, [], 0⟩] _ _) _); apply el_lcI0 1 rfl; walk_at "ei"; walk_at "lx"; walk_at "b"; walk_at "b"; (intro z hz; (try have hz := mem_rng.mp hz); walk_at "ev")) | ((with_reducible show EvL _ _ (.ListComp _ [⟨.Name "answers" _, _, [], 0⟩] _ _) _); apply el_lcI0 2 rfl; walk_at "ei"; walk_at "lx"; walk_at "b"; walk_at "b"; (intro z hz; (try have hz := mem_rng.mp hz); walk_at "ev")) | ((with_reducible show EvL _ _ (.ListComp _ [⟨.Name "row" _, _, [], 0⟩] _ _) _); apply el_lcI0 3 rfl; walk_at "ei"; walk_at "lx"; walk_at "b"; walk_at "b"; (intro z hz; (try have hz := mem_rng.mp hz); walk_at "ev")) | ((with_reducible show EvL _ _ (.ListComp _ [⟨.Name "one" _, _, [], 0⟩] _ _) _); apply el_lcI0 4 rfl; walk_at "ei"; walk_at "lx"; walk_at "b"; walk_at "b"; (intro z hz; (try have hz := mem_rng.mp hz); walk_at "ev")) | ((with_reducible show EvL _ _ (.ListComp _ [⟨.Name "told" _, _, [], 0⟩] _ _) _); apply el_lcI0 5 rfl; walk_at "ei"; walk_at "lx"; walk_at "b"; walk_at "b"; (intro z hz; (try have hz := mem_rng.mp hz); walk_at "ev")) | ((with_reducible show EvL _ _ (.ListComp _ [⟨.Name "hours" _, _, [_], 0⟩] _ _) _); apply el_lcI 0 rfl; walk_at "ei"; walk_at "lx"; walk_at "b"; walk_at "b"; (intro z hz; (try have hz := mem_rng.mp hz); apply ets_one; walk_at "et"); (intro z hz hq; (try have hz := mem_rng.mp hz); walk_at "ev")) | ((with_reducible show EvL _ _ (.ListComp _ [⟨.Name "length" _, _, [_], 0⟩] _ _) _); apply el_lcI 1 rfl; walk_at "ei"; walk_at "lx"; walk_at "b"; walk_at "b"; (intro z hz; (try have hz := mem_rng.mp hz); apply ets_one; walk_at "et"); (intro z hz hq; (try have hz := mem_rng.mp hz); walk_at "ev")) | ((with_reducible show EvL _ _ (.ListComp _ [⟨.Name "answers" _, _, [_], 0⟩] _ _) _); apply el_lcI 2 rfl; walk_at "ei"; walk_at "lx"; walk_at "b"; walk_at "b"; (intro z hz; (try have hz := mem_rng.mp hz); apply ets_one; walk_at "et"); (intro z hz hq; (try have hz := mem_rng.mp hz); walk_at "ev")) | ((with_reducible show EvL _ _ (.ListComp _ [⟨.Name "row" _, _, [_], 0⟩] _ _) _); apply el_lcI 3 rfl; walk_at "ei"; walk_at "lx"; walk_at "b"; walk_at "b"; (intro z hz; (try have hz := mem_rng.mp hz); apply ets_one; walk_at "et"); (intro z hz hq; (try have hz := mem_rng.mp hz); walk_at "ev")) | ((with_reducible show EvL _ _ (.ListComp _ [⟨.Name "one" _, _, [_], 0⟩] _ _) _); apply el_lcI 4 rfl; walk_at "ei"; walk_at "lx"; walk_at "b"; walk_at "b"; (intro z hz; (try have hz := mem_rng.mp hz); apply ets_one; walk_at "et"); (intro z hz hq; (try have hz := mem_rng.mp hz); walk_at "ev")) | ((with_reducible show EvL _ _ (.ListComp _ [⟨.Name "told" _, _, [_], 0⟩] _ _) _); apply el_lcI 5 rfl; walk_at "ei"; walk_at "lx"; walk_at "b"; walk_at "b"; (intro z hz; (try have hz := mem_rng.mp hz); apply ets_one; walk_at "et"); (intro z hz hq; (try have hz := mem_rng.mp hz); walk_at "ev")))
local macro_rules | `(tactic| walk_at "go") => `(tactic| (conv => arg 4; whnf); show Run _ [some _, some _, some _, none, none, none] _ _ _)
theorem f_candidates {g : Gb} (T : Txt g) : Fnx g "candidates" 4 Rcand := by
  refine fnx_run (k := 3) T.d_candidates sc_candidates bd_candidates (fun ds d h => by obtain ⟨v, l, a, _, rfl, _⟩ := h; rfl) fun ds o hR => ?_
  obtain ⟨h, l, a, hal, rfl, rfl⟩ := hR
  have F1 := f_check_answers T
  have F2 := f_free_rows T
  have B := T.b; cases B
  walk_at "go"
  have hR : RckAns [h, l, a] (ckAns h l a) := ⟨_, _, _, hal, rfl, rfl⟩
  unfold candOc
  rcases ckAns_cases h l a with ⟨n, L, ans, rfl, h2, h9, rfl, hL, rfl, hans, hc⟩ | ⟨y, hy, _⟩
  · rw [hc] at hR ⊢
    refine run_expr (d := .none) (evx (ev_callX F1 (by walk_at "ea") hR (by walk_at "j") (by walk_at "b"))) ?_
    have hal2 := hal _ rfl
    rw [List.length_map] at hal2
    have hfl := (fr_ok h2 h9 hL).1
    refine run_ret (d := lT (cands n L ans)) (EvL.ev (EvL.selfT (f := fun r => pT r) (el_lcT (l := fr n L) (q := agree ans) (f := fun r => pT r) 3 rfl (ei_list (ev_call F2 (by walk_at "ea") ⟨n, L, h2, h9, hL, rfl, rfl⟩ (by walk_at "j") (by walk_at "b"))) (by omega) (by walk_at "b") (by walk_at "b") (fun r hr => ?_) (fun r hr _ => by walk_at "n")) fun _ _ => rfl)) ?_
    · refine ets_one (EvT.cast (et_not (et_truth (d := .list ((ans.filter fun p => !decide ((r.count p.1 : Int) = p.2)).map fun p => .int p.1)) (EvL.ev (el_lcP 4 5 rfl rfl (ei_tup (by walk_at "n")) (by omega) (by walk_at "b") (by walk_at "b") (by walk_at "b") (fun z hz => ?_) (fun z hz _ => by walk_at "n"))) (by intro x h; cases h) (fun _ _ => rfl))) ?_)
      · exact ets_one (et_neI (ev_countT (by walk_at "n") (by walk_at "n")) (by walk_at "n"))
      · unfold agree
        cases ans.filter (fun p => !decide ((r.count p.1 : Int) = p.2)) <;> rfl
    · show Oc.ok (lT (cands n ((L : Int)).toNat (ansOf _))) = _
      rw [ansOf_pP]; rfl
  · rw [hy] at hR ⊢
    exact run_exprE (y := y) (erx (er_call F1 (by walk_at "ea") hR (by walk_at "j") (by walk_at "b"))) rfl

end
section
local macro_rules | `(tactic| walk_at "n") => `(tactic| first | ((with_reducible show Ev _ _ (.Name "hours" _) _); exact ev_name 0 rfl rfl (by walk_at "b")) | ((with_reducible show Ev _ _ (.Name "row" _) _); exact ev_name 1 rfl rfl (by walk_at "b")) | ((with_reducible show Ev _ _ (.Name "one" _) _); exact ev_name 2 rfl rfl (by walk_at "b")) | ((with_reducible show Ev _ _ (.Name "other" _) _); exact ev_name 3 rfl rfl (by walk_at "b")) | ((with_reducible show Ev _ _ (.Name "rest" _) _); exact ev_name 4 rfl rfl (by walk_at "b")) | ((with_reducible show Ev _ _ (.Name "place" _) _); exact ev_name 5 rfl rfl (by walk_at "b")) | ((with_reducible show Ev _ _ (.Name "number" _) _); exact ev_name 6 rfl rfl (by walk_at "b")))
local macro_rules | `(tactic| walk_at "set") => `(tactic| first | ((with_reducible show Run _ _ _ (.Assign [.Name "hours" _] _ _ :: _) _); refine run_set 0 (by walk_at "evx") rfl (by walk_at "b") ?_ (fun _ => rfl); walk_at "nf") | ((with_reducible show Run _ _ _ (.Assign [.Name "row" _] _ _ :: _) _); refine run_set 1 (by walk_at "evx") rfl (by walk_at "b") ?_ (fun _ => rfl); walk_at "nf") | ((with_reducible show Run _ _ _ (.Assign [.Name "one" _] _ _ :: _) _); refine run_set 2 (by walk_at "evx") rfl (by walk_at "b") ?_ (fun _ => rfl); walk_at "nf") | ((with_reducible show Run _ _ _ (.Assign [.Name "other" _] _ _ :: _) _); refine run_set 3 (by walk_at "evx") rfl (by walk_at "b") ?_ (fun _ => rfl); walk_at "nf") | ((with_reducible show Run _ _ _ (.Assign [.Name "rest" _] _ _ :: _) _); refine run_set 4 (by walk_at "evx") rfl (by walk_at "b") ?_ (fun _ => rfl); walk_at "nf") | ((with_reducible show Run _ _ _ (.Assign [.Name "place" _] _ _ :: _) _); refine run_set 5 (by walk_at "evx") rfl (by walk_at "b") ?_ (fun _ => rfl); walk_at "nf") | ((with_reducible show Run _ _ _ (.Assign [.Name "number" _] _ _ :: _) _); refine run_set 6 (by walk_at "evx") rfl (by walk_at "b") ?_ (fun _ => rfl); walk_at "nf"))
local macro_rules | `(tactic| walk_at "el") => `(tactic| first | ((with_reducible show EvL _ _ (.ListComp _ [⟨.Name "hours" _, _, [], 0⟩] _ _) _); apply el_lcI0 0 rfl; walk_at "ei"; walk_at "lx"; walk_at "b"; walk_at "b"; (intro z hz; (try have hz := mem_rng.mp hz); walk_at "ev")) | ((with_reducible show EvL _ _ (.ListComp _ [⟨.Name "row" _, _, [], 0⟩] _ _) _); apply el_lcI0 1 rfl; walk_at "ei"; walk_at "lx"; walk_at "b"; walk_at "b"; (intro z hz; (try have hz := mem_rng.mp hz); walk_at "ev")) | ((with_reducible show EvL _ _ (.ListComp _ [⟨.Name "one" _, _, [], 0⟩] _ _) _); apply el_lcI0 2 rfl; walk_at "ei"; walk_at "lx"; walk_at "b"; walk_at "b"; (intro z hz; (try have hz := mem_rng.mp hz); walk_at "ev")) | ((with_reducible show EvL _ _ (.ListComp _ [⟨.Name "other" _, _, [], 0⟩] _ _) _); apply el_lcI0 3 rfl; walk_at "ei"; walk_at "lx"; walk_at "b"; walk_at "b"; (intro z hz; (try have hz := mem_rng.mp hz); walk_at "ev")) | ((with_reducible show EvL _ _ (.ListComp _ [⟨.Name "rest" _, _, [], 0⟩] _ _) _); apply el_lcI0 4 rfl; walk_at "ei"; walk_at "lx"; walk_at "b"; walk_at "b"; (intro z hz; (try have hz := mem_rng.mp hz); walk_at "ev")) | ((with_reducible show EvL _ _ (.ListComp _ [⟨.Name "place" _, _, [], 0⟩] _ _) _); apply el_lcI0 5 rfl; walk_at "ei"; walk_at "lx"; walk_at "b"; walk_at "b"; (intro z hz; (try have hz := mem_rng.mp hz); walk_at "ev")) | ((with_reducible show EvL _ _ (.ListComp _ [⟨.Name "number" _, _, [], 0⟩] _ _) _); apply el_lcI0 6 rfl; walk_at "ei"; walk_at "lx"; walk_at "b"; walk_at "b"; (intro z hz; (try have hz := mem_rng.mp hz); walk_at "ev")) | ((with_reducible show EvL _ _ (.ListComp _ [⟨.Name "hours" _, _, [_], 0⟩] _ _) _); apply el_lcI 0 rfl; walk_at "ei"; walk_at "lx"; walk_at "b"; walk_at "b"; (intro z hz; (try have hz := mem_rng.mp hz); apply ets_one; walk_at "et"); (intro z hz hq; (try have hz := mem_rng.mp hz); walk_at "ev")) | ((with_reducible show EvL _ _ (.ListComp _ [⟨.Name "row" _, _, [_], 0⟩] _ _) _); apply el_lcI 1 rfl; walk_at "ei"; walk_at "lx"; walk_at "b"; walk_at "b"; (intro z hz; (try have hz := mem_rng.mp hz); apply ets_one; walk_at "et"); (intro z hz hq; (try have hz := mem_rng.mp hz); walk_at "ev")) | ((with_reducible show EvL _ _ (.ListComp _ [⟨.Name "one" _, _, [_], 0⟩] _ _) _); apply el_lcI 2 rfl; walk_at "ei"; walk_at "lx"; walk_at "b"; walk_at "b"; (intro z hz; (try have hz := mem_rng.mp hz); apply ets_one; walk_at "et"); (intro z hz hq; (try have hz := mem_rng.mp hz); walk_at "ev")) | ((with_reducible show EvL _ _ (.ListComp _ [⟨.Name "other" _, _, [_], 0⟩] _ _) _); apply el_lcI 3 rfl; walk_at "ei"; walk_at "lx"; walk_at "b"; walk_at "b"; (intro z hz; (try have hz := mem_rng.mp hz); apply ets_one; walk_at "et"); (intro z hz hq; (try have hz := mem_rng.mp hz); walk_at "ev")) | ((with_reducible show EvL _ _ (.ListComp _ [⟨.Name "rest" _, _, [_], 0⟩] _ _) _); apply el_lcI 4 rfl; walk_at "ei"; walk_at "lx"; walk_at "b"; walk_at "b"; (intro z hz; (try have hz := mem_rng.mp hz); apply ets_one; walk_at "et"); (intro z hz hq; (try have hz := mem_rng.mp hz); walk_at "ev")) | ((with_reducible show EvL _ _ (.ListComp _ [⟨.Name "place" _, _, [_], 0⟩] _ _) _); apply el_lcI 5 rfl; walk_at "ei"; walk_at "lx"; walk_at "b"; walk_at "b"; (intro z hz; (try have hz := mem_rng.mp hz); apply ets_one; walk_at "et"); (intro z hz hq; (try have hz := mem_rng.mp hz); walk_at "ev")) | ((with_reducible show EvL _ _ (.ListComp _ [⟨.Name "number" _, _, [_], 0⟩] _ _) _); apply el_lcI 6 rfl; walk_at "ei"; walk_at "lx"; walk_at "b"; walk_at "b"; (intro z hz; (try have hz := mem_rng.mp hz); apply ets_one; walk_at "et"); (intro z hz hq; (try have hz := mem_rng.mp hz); walk_at "ev")))
local macro_rules | `(tactic| walk_at "go") => `(tactic| (conv => arg 4; whnf); show Run _ [some _, some _, some _, some _, none, none, none] _ _ _)
theorem f_join {g : Gb} (T : Txt g) : Fnx g "join" 5 Rjoin := by
  refine fnx_run (k := 4) T.d_join sc_join bd_join (fun ds d h => by obtain ⟨v, r, a, b, rfl, _⟩ := h; rfl) fun ds o hR => ?_
  obtain ⟨h, r, a, b, rfl, rfl⟩ := hR
  have F1 := f_check_free T
  have F2 := f_check_place T
  have F3 := f_arranged T
  obtain ⟨C, xc⟩ := T.x_InvalidNumber
  have B := T.b; cases B
  walk_at "go"
  rcases ckRow_cases h r with ⟨n, row, rfl, h2, h12, rfl, hrow, hc⟩ | ⟨y, hy, _⟩
  · rw [onRow_ok h2 h12 hrow]
    have hl := hrow.len
    have hR1 : RckFree [.int n, pT row] (ckFr n row) := ⟨_, _, rfl, (onRow_ok h2 h12 hrow).symm⟩
    unfold joinOc
    unfold ckFr at hR1
    by_cases hf : free n row = true
    · rw [if_pos hf] at hR1 ⊢
      refine run_expr (d := .none) (evx (ev_callX F1 (by walk_at "ea") hR1 (by walk_at "j") (by walk_at "b"))) ?_
      have hR2 : RckPl [pT row, a] (ckPl row.length a) := ⟨row, a, rfl, rfl⟩
      have hR3 : RckPl [pT row, b] (ckPl row.length b) := ⟨row, b, rfl, rfl⟩
      unfold ckPl at hR2 hR3
      by_cases ha : inR a 0 (row.length - 1) = true
      · rw [if_pos ha] at hR2 ⊢
        refine run_expr (d := .none) (evx (ev_callX F2 (by walk_at "ea") hR2 (by walk_at "j") (by walk_at "b"))) ?_
        by_cases hb : inR b 0 (row.length - 1) = true
        · rw [if_pos hb] at hR3 ⊢
          refine run_expr (d := .none) (evx (ev_callX F2 (by walk_at "ea") hR3 (by walk_at "j") (by walk_at "b"))) ?_
          obtain ⟨a, rfl, a0, a1⟩ := inR_int ha
          obtain ⟨b, rfl, b0, b1⟩ := inR_int hb
          show Run _ _ _ _ { rt := fun d' => (if a = b then Oc.er "InvalidNumber" else .ok (pT (joined n row a b))) = .ok d', nx := fun _ _ => (if a = b then Oc.er "InvalidNumber" else .ok (pT (joined n row a b))) = .ok .none, er := fun x _ _ => (if a = b then Oc.er "InvalidNumber" else .ok (pT (joined n row a b))) = .er x, bk := _, ct := _ }
          refine run_if (k := decide (a = b)) (evxt (et_eqI (by walk_at "n") (by walk_at "n"))) (fun e => run_raise xc (by walk_at "b") (by show (if _ then _ else _) = _; rw [if_pos (of_decide_eq_true e)])) fun e => run_nil ?_
          rw [if_neg (of_decide_eq_false e)]
          refine run_setLc 4 (own := [("place", 5), ("number", 6)]) (ds := enD 0 (iL row)) (Pq := fun d => match d with | .tuple [.int i, _] => !decide (i ∈ [a, b]) | _ => false) (f := fun d => match d with | .tuple [_, x] => x | _ => .none) (bind := fun d => match d with | .tuple [i, x] => ((wipeG [some (.int n), some (pT row), some (.int a), some (.int b), none, none, none] [5, 6]).set 5 (some i)).set 6 (some x) | _ => []) rfl (by walk_at "b") (by walk_at "b") (by decide +kernel) (ei_enumT (by walk_at "n") (by assumption) (by walk_at "b")) (by rw [enD_len, List.length_map]; omega) (by walk_at "b") (fun d hd => ?_) (fun d hd => ?_) (fun d hd hq => ?_) ?_
          · obtain ⟨i, hi⟩ := List.getElem?_of_mem hd
            obtain ⟨x, hx, rfl⟩ := enD_get hi
            exact tgB2 5 6 rfl rfl (List.mem_cons_self) (List.mem_cons_of_mem _ List.mem_cons_self) (by walk_at "b") (by walk_at "b")
          · obtain ⟨i, hi⟩ := List.getElem?_of_mem hd
            obtain ⟨x, hx, rfl⟩ := enD_get hi
            exact ets_one (et_niT (ns := [a, b]) (by walk_at "n") (Ev.cast (ev_tuple (ea_cons (by walk_at "n") (ea_cons (by walk_at "n") ea_nil)) (show 2 ≤ 100000 by decide)) rfl))
          · obtain ⟨i, hi⟩ := List.getElem?_of_mem hd
            obtain ⟨x, hx, rfl⟩ := enD_get hi
            show Ev _ _ _ x
            walk_at "n"
          · rw [wo_enum (gone := [a, b]) (fun i x => rfl) (fun i x => rfl) row 0]
            walk_at "nf"
            have hwl : (wo row [a, b]).length ≤ 11 := Nat.le_trans (wo_sub.length_le) hl
            refine run_ret (d := pT (joined n row a b)) (ev_call F3 (ea_cons (Ev.cast (ev_catL (xs := iL (wo row [a, b])) (ys := iL [(dr row a.toNat + dr row b.toNat) % n]) (by walk_at "n") (Ev.cast (ev_list (ea_cons (ev_mod (ev_add (ev_ixT (xs := iL row) (by walk_at "n") (by walk_at "n") (list_at a0 (by omega))) (ev_ixT (xs := iL row) (by walk_at "n") (by walk_at "n") (list_at b0 (by omega)))) (by walk_at "n") (by omega)) ea_nil) (show 1 ≤ 100000 by decide)) rfl) (by rw [List.length_map, List.length_map]; show (wo row [a, b]).length + 1 ≤ _; omega)) (by rw [iL_app])) ea_nil) ⟨_, .inr rfl, rfl⟩ (by walk_at "j") (by walk_at "b")) rfl
        · rw [if_neg hb] at hR3 ⊢
          exact run_exprE (y := "InvalidNumber") (erx (er_call F2 (by walk_at "ea") hR3 (by walk_at "j") (by walk_at "b"))) rfl
      · rw [if_neg ha] at hR2 ⊢
        exact run_exprE (y := "InvalidNumber") (erx (er_call F2 (by walk_at "ea") hR2 (by walk_at "j") (by walk_at "b"))) rfl
    · rw [if_neg hf] at hR1 ⊢
      exact run_exprE (y := "HasZeroPart") (erx (er_call F1 (by walk_at "ea") hR1 (by walk_at "j") (by walk_at "b"))) rfl
  · exact run_exprE (y := y) (erx (er_call F1 (by walk_at "ea") ⟨_, _, rfl, (onRow_bad hy).symm⟩ (by walk_at "j") (by walk_at "b"))) (onRow_bad hy)

end
section
local macro_rules | `(tactic| walk_at "n") => `(tactic| first | ((with_reducible show Ev _ _ (.Name "hours" _) _); exact ev_name 0 rfl rfl (by walk_at "b")) | ((with_reducible show Ev _ _ (.Name "row" _) _); exact ev_name 1 rfl rfl (by walk_at "b")) | ((with_reducible show Ev _ _ (.Name "place" _) _); exact ev_name 2 rfl rfl (by walk_at "b")) | ((with_reducible show Ev _ _ (.Name "part" _) _); exact ev_name 3 rfl rfl (by walk_at "b")) | ((with_reducible show Ev _ _ (.Name "result" _) _); exact ev_name 4 rfl rfl (by walk_at "b")))
local macro_rules | `(tactic| walk_at "set") => `(tactic| first | ((with_reducible show Run _ _ _ (.Assign [.Name "hours" _] _ _ :: _) _); refine run_set 0 (by walk_at "evx") rfl (by walk_at "b") ?_ (fun _ => rfl); walk_at "nf") | ((with_reducible show Run _ _ _ (.Assign [.Name "row" _] _ _ :: _) _); refine run_set 1 (by walk_at "evx") rfl (by walk_at "b") ?_ (fun _ => rfl); walk_at "nf") | ((with_reducible show Run _ _ _ (.Assign [.Name "place" _] _ _ :: _) _); refine run_set 2 (by walk_at "evx") rfl (by walk_at "b") ?_ (fun _ => rfl); walk_at "nf") | ((with_reducible show Run _ _ _ (.Assign [.Name "part" _] _ _ :: _) _); refine run_set 3 (by walk_at "evx") rfl (by walk_at "b") ?_ (fun _ => rfl); walk_at "nf") | ((with_reducible show Run _ _ _ (.Assign [.Name "result" _] _ _ :: _) _); refine run_set 4 (by walk_at "evx") rfl (by walk_at "b") ?_ (fun _ => rfl); walk_at "nf"))
local macro_rules | `(tactic| walk_at "el") => `(tactic| first | ((with_reducible show EvL _ _ (.ListComp _ [⟨.Name "hours" _, _, [], 0⟩] _ _) _); apply el_lcI0 0 rfl; walk_at "ei"; walk_at "lx"; walk_at "b"; walk_at "b"; (intro z hz; (try have hz := mem_rng.mp hz); walk_at "ev")) | ((with_reducible show EvL _ _ (.ListComp _ [⟨.Name "row" _, _, [], 0⟩] _ _) _); apply el_lcI0 1 rfl; walk_at "ei"; walk_at "lx"; walk_at "b"; walk_at "b"; (intro z hz; (try have hz := mem_rng.mp hz); walk_at "ev")) | ((with_reducible show EvL _ _ (.ListComp _ [⟨.Name "place" _, _, [], 0⟩] _ _) _); apply el_lcI0 2 rfl; walk_at "ei"; walk_at "lx"; walk_at "b"; walk_at "b"; (intro z hz; (try have hz := mem_rng.mp hz); walk_at "ev")) | ((with_reducible show EvL _ _ (.ListComp _ [⟨.Name "part" _, _, [], 0⟩] _ _) _); apply el_lcI0 3 rfl; walk_at "ei"; walk_at "lx"; walk_at "b"; walk_at "b"; (intro z hz; (try have hz := mem_rng.mp hz); walk_at "ev")) | ((with_reducible show EvL _ _ (.ListComp _ [⟨.Name "result" _, _, [], 0⟩] _ _) _); apply el_lcI0 4 rfl; walk_at "ei"; walk_at "lx"; walk_at "b"; walk_at "b"; (intro z hz; (try have hz := mem_rng.mp hz); walk_at "ev")) | ((with_reducible show EvL _ _ (.ListComp _ [⟨.Name "hours" _, _, [_], 0⟩] _ _) _); apply el_lcI 0 rfl; walk_at "ei"; walk_at "lx"; walk_at "b"; walk_at "b"; (intro z hz; (try have hz := mem_rng.mp hz); apply ets_one; walk_at "et"); (intro z hz hq; (try have hz := mem_rng.mp hz); walk_at "ev")) | ((with_reducible show EvL _ _ (.ListComp _ [⟨.Name "row" _, _, [_], 0⟩] _ _) _); apply el_lcI 1 rfl; walk_at "ei"; walk_at "lx"; walk_at "b"; walk_at "b"; (intro z hz; (try have hz := mem_rng.mp hz); apply ets_one; walk_at "et"); (intro z hz hq; (try have hz := mem_rng.mp hz); walk_at "ev")) | ((with_reducible show EvL _ _ (.ListComp _ [⟨.Name "place" _, _, [_], 0⟩] _ _) _); apply el_lcI 2 rfl; walk_at "ei"; walk_at "lx"; walk_at "b"; walk_at "b"; (intro z hz; (try have hz := mem_rng.mp hz); apply ets_one; walk_at "et"); (intro z hz hq; (try have hz := mem_rng.mp hz); walk_at "ev")) | ((with_reducible show EvL _ _ (.ListComp _ [⟨.Name "part" _, _, [_], 0⟩] _ _) _); apply el_lcI 3 rfl; walk_at "ei"; walk_at "lx"; walk_at "b"; walk_at "b"; (intro z hz; (try have hz := mem_rng.mp hz); apply ets_one; walk_at "et"); (intro z hz hq; (try have hz := mem_rng.mp hz); walk_at "ev")) | ((with_reducible show EvL _ _ (.ListComp _ [⟨.Name "result" _, _, [_], 0⟩] _ _) _); apply el_lcI 4 rfl; walk_at "ei"; walk_at "lx"; walk_at "b"; walk_at "b"; (intro z hz; (try have hz := mem_rng.mp hz); apply ets_one; walk_at "et"); (intro z hz hq; (try have hz := mem_rng.mp hz); walk_at "ev")))
local macro_rules | `(tactic| walk_at "go") => `(tactic| (conv => arg 4; whnf); show Run _ [some _, some _, some _, some _, none] _ _ _)
theorem f_split {g : Gb} (T : Txt g) : Fnx g "split" 5 Rsplit := by
  refine fnx_run (k := 4) T.d_split sc_split bd_split (fun ds d h => by obtain ⟨v, r, a, b, rfl, _⟩ := h; rfl) fun ds o hR => ?_
  obtain ⟨h, r, a, p, rfl, rfl⟩ := hR
  have F1 := f_check_free T
  have F2 := f_check_place T
  have F3 := f_arranged T
  have F4 := f_in_range T
  have F5 := f_reached T
  obtain ⟨C, xc⟩ := T.x_InvalidNumber
  obtain ⟨C2, xc2⟩ := T.x_CannotSplit
  have B := T.b; cases B
  walk_at "go"
  rcases ckRow_cases h r with ⟨n, row, rfl, h2, h12, rfl, hrow, hc⟩ | ⟨y, hy, _⟩
  · rw [onRow_ok h2 h12 hrow]
    have hl := hrow.len
    have hR1 : RckFree [.int n, pT row] (ckFr n row) := ⟨_, _, rfl, (onRow_ok h2 h12 hrow).symm⟩
    unfold splitOc
    unfold ckFr at hR1
    by_cases hf : free n row = true
    · rw [if_pos hf] at hR1 ⊢
      refine run_expr (d := .none) (evx (ev_callX F1 (by walk_at "ea") hR1 (by walk_at "j") (by walk_at "b"))) ?_
      have hR2 : RckPl [pT row, a] (ckPl row.length a) := ⟨row, a, rfl, rfl⟩
      unfold ckPl at hR2
      by_cases ha : inR a 0 (row.length - 1) = true
      · rw [if_pos ha] at hR2 ⊢
        refine run_expr (d := .none) (evx (ev_callX F2 (by walk_at "ea") hR2 (by walk_at "j") (by walk_at "b"))) ?_
        refine run_if (k := !inR p 1 (n - 1)) (evxt (et_not (et_val (ev_call F4 (by walk_at "ea") ⟨p, 1, _, rfl, rfl⟩ (by walk_at "j") (by walk_at "b"))))) (fun hz => run_raise xc (by walk_at "b") ?_) fun hz => run_nil ?_
        · show (if _ then _ else _) = _
          rw [if_neg (by intro z; rw [z] at hz; cases hz)]
        have hp : inR p 1 (n - 1) = true := by simpa using hz
        rw [if_pos hp]
        obtain ⟨a, rfl, a0, a1⟩ := inR_int ha
        obtain ⟨p, rfl, p0, p1⟩ := inR_int hp
        have hL : (parted n row a p).length ≤ 13 := by
          unfold parted
          rw [srt_len, List.length_append, List.length_append, List.length_take, List.length_drop]
          simp only [List.length_cons, List.length_nil]
          omega
        have hM : Rem n (parted n row a p) := fun x hx => by
          have hx := mem_srt.mp hx
          rcases List.mem_append.mp hx with hx | hx
          · rcases List.mem_append.mp hx with hx | hx
            · exact hrow.mem x (List.mem_of_mem_take hx)
            · exact hrow.mem x (List.mem_of_mem_drop hx)
          · rcases List.mem_cons.mp hx with rfl | hx
            · omega
            · rw [List.mem_singleton] at hx; subst hx; exact emod_rem (by omega) _
        show Run _ _ _ _ { rt := fun d' => (if (decide (11 < ((parted n row a p).length : Int)) || decide (0 ∈ rch n (parted n row a p))) = true then Oc.er "CannotSplit" else .ok (pT (parted n row a p))) = .ok d', nx := fun _ _ => (if (decide (11 < ((parted n row a p).length : Int)) || decide (0 ∈ rch n (parted n row a p))) = true then Oc.er "CannotSplit" else .ok (pT (parted n row a p))) = .ok .none, er := fun x _ _ => (if (decide (11 < ((parted n row a p).length : Int)) || decide (0 ∈ rch n (parted n row a p))) = true then Oc.er "CannotSplit" else .ok (pT (parted n row a p))) = .er x, bk := _, ct := _ }
        refine run_set 4 (d := pT (parted n row a p)) (evx (ev_call F3 (ea_cons (Ev.cast (ev_catT (xs := iL (row.take a.toNat) ++ iL (row.drop (a.toNat + 1))) (ys := iL [p, (dr row a.toNat - p) % n]) (ev_catT (xs := iL (row.take a.toNat)) (ys := iL (row.drop (a.toNat + 1))) (Ev.cast (ev_slT (xs := iL row) (by walk_at "n") eo_none (eo_some (by walk_at "n"))) (by rw [cut_take a0])) (Ev.cast (ev_slT (xs := iL row) (by walk_at "n") (eo_some (ev_add (by walk_at "n") ev_int)) eo_none) (by rw [cut_drop (by omega), show (a + 1).toNat = a.toNat + 1 by omega])) ?_) (Ev.cast (ev_tuple (ea_cons (by walk_at "n") (ea_cons (ev_mod (ev_sub (ev_ixT (xs := iL row) (by walk_at "n") (by walk_at "n") (list_at a0 (by omega))) (by walk_at "n")) (by walk_at "n") (by omega)) ea_nil)) (show 2 ≤ 100000 by decide)) rfl) ?_) (by rw [iL_app, iL_app])) ea_nil) ⟨_, .inl rfl, rfl⟩ (by walk_at "j") (by walk_at "b"))) rfl (by walk_at "b") ?_
        · rw [List.length_map, List.length_map, List.length_take, List.length_drop]; omega
        · rw [List.length_append, List.length_map, List.length_map, List.length_map, List.length_take, List.length_drop]; simp only [List.length_cons, List.length_nil]; omega
        generalize parted n row a p = J at hL hM ⊢
        walk_at "nf"
        refine run_if (k := decide (11 < (J.length : Int)) || decide (0 ∈ rch n J)) (evxt (EvW.t (ew_or (EvT.cast (et_gt (Ev.cast (ev_lenT (xs := iL J) (by walk_at "n") (by assumption) (by walk_at "b")) (by rw [List.length_map])) (ev_globI (by assumption) (by walk_at "b"))) rfl) fun _ => ew_or1 (et_inL ev_int (ev_call F5 (by walk_at "ea") (rchT h2 h12 hM (by omega)) (by walk_at "j") (by walk_at "b")))))) (fun hz => run_raise xc2 (by walk_at "b") (by show (if _ then _ else _) = _; rw [if_pos hz])) fun hz => run_nil ?_
        rw [if_neg (by rw [hz]; decide)]
        exact run_ret (d := pT J) (by walk_at "n") rfl
      · rw [if_neg ha] at hR2 ⊢
        exact run_exprE (y := "InvalidNumber") (erx (er_call F2 (by walk_at "ea") hR2 (by walk_at "j") (by walk_at "b"))) rfl
    · rw [if_neg hf] at hR1 ⊢
      exact run_exprE (y := "HasZeroPart") (erx (er_call F1 (by walk_at "ea") hR1 (by walk_at "j") (by walk_at "b"))) rfl
  · exact run_exprE (y := y) (erx (er_call F1 (by walk_at "ea") ⟨_, _, rfl, (onRow_bad hy).symm⟩ (by walk_at "j") (by walk_at "b"))) (onRow_bad hy)

end
section
local macro_rules | `(tactic| walk_at "n") => `(tactic| first | ((with_reducible show Ev _ _ (.Name "hours" _) _); exact ev_name 0 rfl rfl (by walk_at "b")) | ((with_reducible show Ev _ _ (.Name "one" _) _); exact ev_name 1 rfl rfl (by walk_at "b")) | ((with_reducible show Ev _ _ (.Name "other" _) _); exact ev_name 2 rfl rfl (by walk_at "b")) | ((with_reducible show Ev _ _ (.Name "start" _) _); exact ev_name 3 rfl rfl (by walk_at "b")) | ((with_reducible show Ev _ _ (.Name "goal" _) _); exact ev_name 4 rfl rfl (by walk_at "b")) | ((with_reducible show Ev _ _ (.Name "before" _) _); exact ev_name 5 rfl rfl (by walk_at "b")) | ((with_reducible show Ev _ _ (.Name "queue" _) _); exact ev_name 6 rfl rfl (by walk_at "b")) | ((with_reducible show Ev _ _ (.Name "row" _) _); exact ev_name 7 rfl rfl (by walk_at "b")) | ((with_reducible show Ev _ _ (.Name "more" _) _); exact ev_name 8 rfl rfl (by walk_at "b")) | ((with_reducible show Ev _ _ (.Name "result" _) _); exact ev_name 9 rfl rfl (by walk_at "b")))
local macro_rules | `(tactic| walk_at "set") => `(tactic| first | ((with_reducible show Run _ _ _ (.Assign [.Name "hours" _] _ _ :: _) _); refine run_set 0 (by walk_at "evx") rfl (by walk_at "b") ?_ (fun _ => rfl); walk_at "nf") | ((with_reducible show Run _ _ _ (.Assign [.Name "one" _] _ _ :: _) _); refine run_set 1 (by walk_at "evx") rfl (by walk_at "b") ?_ (fun _ => rfl); walk_at "nf") | ((with_reducible show Run _ _ _ (.Assign [.Name "other" _] _ _ :: _) _); refine run_set 2 (by walk_at "evx") rfl (by walk_at "b") ?_ (fun _ => rfl); walk_at "nf") | ((with_reducible show Run _ _ _ (.Assign [.Name "start" _] _ _ :: _) _); refine run_set 3 (by walk_at "evx") rfl (by walk_at "b") ?_ (fun _ => rfl); walk_at "nf") | ((with_reducible show Run _ _ _ (.Assign [.Name "goal" _] _ _ :: _) _); refine run_set 4 (by walk_at "evx") rfl (by walk_at "b") ?_ (fun _ => rfl); walk_at "nf") | ((with_reducible show Run _ _ _ (.Assign [.Name "before" _] _ _ :: _) _); refine run_set 5 (by walk_at "evx") rfl (by walk_at "b") ?_ (fun _ => rfl); walk_at "nf") | ((with_reducible show Run _ _ _ (.Assign [.Name "queue" _] _ _ :: _) _); refine run_set 6 (by walk_at "evx") rfl (by walk_at "b") ?_ (fun _ => rfl); walk_at "nf") | ((with_reducible show Run _ _ _ (.Assign [.Name "row" _] _ _ :: _) _); refine run_set 7 (by walk_at "evx") rfl (by walk_at "b") ?_ (fun _ => rfl); walk_at "nf") | ((with_reducible show Run _ _ _ (.Assign [.Name "more" _] _ _ :: _) _); refine run_set 8 (by walk_at "evx") rfl (by walk_at "b") ?_ (fun _ => rfl); walk_at "nf") | ((with_reducible show Run _ _ _ (.Assign [.Name "result" _] _ _ :: _) _); refine run_set 9 (by walk_at "evx") rfl (by walk_at "b") ?_ (fun _ => rfl); walk_at "nf"))
local macro_rules | `(tactic| walk_at "el") => `(tactic| first | ((with_reducible show EvL _ _ (.ListComp _ [⟨.Name "hours" _, _, [], 0⟩] _ _) _); apply el_lcI0 0 rfl; walk_at "ei"; walk_at "lx"; walk_at "b"; walk_at "b"; (intro z hz; (try have hz := mem_rng.mp hz); walk_at "ev")) | ((with_reducible show EvL _ _ (.ListComp _ [⟨.Name "one" _, _, [], 0⟩] _ _) _); apply el_lcI0 1 rfl; walk_at "ei"; walk_at "lx"; walk_at "b"; walk_at "b"; (intro z hz; (try have hz := mem_rng.mp hz); walk_at "ev")) | ((with_reducible show EvL _ _ (.ListComp _ [⟨.Name "other" _, _, [], 0⟩] _ _) _); apply el_lcI0 2 rfl; walk_at "ei"; walk_at "lx"; walk_at "b"; walk_at "b"; (intro z hz; (try have hz := mem_rng.mp hz); walk_at "ev")) | ((with_reducible show EvL _ _ (.ListComp _ [⟨.Name "start" _, _, [], 0⟩] _ _) _); apply el_lcI0 3 rfl; walk_at "ei"; walk_at "lx"; walk_at "b"; walk_at "b"; (intro z hz; (try have hz := mem_rng.mp hz); walk_at "ev")) | ((with_reducible show EvL _ _ (.ListComp _ [⟨.Name "goal" _, _, [], 0⟩] _ _) _); apply el_lcI0 4 rfl; walk_at "ei"; walk_at "lx"; walk_at "b"; walk_at "b"; (intro z hz; (try have hz := mem_rng.mp hz); walk_at "ev")) | ((with_reducible show EvL _ _ (.ListComp _ [⟨.Name "before" _, _, [], 0⟩] _ _) _); apply el_lcI0 5 rfl; walk_at "ei"; walk_at "lx"; walk_at "b"; walk_at "b"; (intro z hz; (try have hz := mem_rng.mp hz); walk_at "ev")) | ((with_reducible show EvL _ _ (.ListComp _ [⟨.Name "queue" _, _, [], 0⟩] _ _) _); apply el_lcI0 6 rfl; walk_at "ei"; walk_at "lx"; walk_at "b"; walk_at "b"; (intro z hz; (try have hz := mem_rng.mp hz); walk_at "ev")) | ((with_reducible show EvL _ _ (.ListComp _ [⟨.Name "row" _, _, [], 0⟩] _ _) _); apply el_lcI0 7 rfl; walk_at "ei"; walk_at "lx"; walk_at "b"; walk_at "b"; (intro z hz; (try have hz := mem_rng.mp hz); walk_at "ev")) | ((with_reducible show EvL _ _ (.ListComp _ [⟨.Name "more" _, _, [], 0⟩] _ _) _); apply el_lcI0 8 rfl; walk_at "ei"; walk_at "lx"; walk_at "b"; walk_at "b"; (intro z hz; (try have hz := mem_rng.mp hz); walk_at "ev")) | ((with_reducible show EvL _ _ (.ListComp _ [⟨.Name "result" _, _, [], 0⟩] _ _) _); apply el_lcI0 9 rfl; walk_at "ei"; walk_at "lx"; walk_at "b"; walk_at "b"; (intro z hz; (try have hz := mem_rng.mp hz); walk_at "ev")) | ((with_reducible show EvL _ _ (.ListComp _ [⟨.Name "hours" _, _, [_], 0⟩] _ _) _); apply el_lcI 0 rfl; walk_at "ei"; walk_at "lx"; walk_at "b"; walk_at "b"; (intro z hz; (try have hz := mem_rng.mp hz); apply ets_one; walk_at "et"); (intro z hz hq; (try have hz := mem_rng.mp hz); walk_at "ev")) | ((with_reducible show EvL _ _ (.ListComp _ [⟨.Name "one" _, _, [_], 0⟩] _ _) _); apply el_lcI 1 rfl; walk_at "ei"; walk_at "lx"; walk_at "b"; walk_at "b"; (intro z hz; (try have hz := mem_rng.mp hz); apply ets_one; walk_at "et"); (intro z hz hq; (try have hz := mem_rng.mp hz); walk_at "ev")) | ((with_reducible show EvL _ _ (.ListComp _ [⟨.Name "other" _, _, [_], 0⟩] _ _) _); apply el_lcI 2 rfl; walk_at "ei"; walk_at "lx"; walk_at "b"; walk_at "b"; (intro z hz; (try have hz := mem_rng.mp hz); apply ets_one; walk_at "et"); (intro z hz hq; (try have hz := mem_rng.mp hz); walk_at "ev")) | ((with_reducible show EvL _ _ (.ListComp _ [⟨.Name "start" _, _, [_], 0⟩] _ _) _); apply el_lcI 3 rfl; walk_at "ei"; walk_at "lx"; walk_at "b"; walk_at "b"; (intro z hz; (try have hz := mem_rng.mp hz); apply ets_one; walk_at "et"); (intro z hz hq; (try have hz := mem_rng.mp hz); walk_at "ev")) | ((with_reducible show EvL _ _ (.ListComp _ [⟨.Name "goal" _, _, [_], 0⟩] _ _) _); apply el_lcI 4 rfl; walk_at "ei"; walk_at "lx"; walk_at "b"; walk_at "b"; (intro z hz; (try have hz := mem_rng.mp hz); apply ets_one; walk_at "et"); (intro z hz hq; (try have hz := mem_rng.mp hz); walk_at "ev")) | ((with_reducible show EvL _ _ (.ListComp _ [⟨.Name "before" _, _, [_], 0⟩] _ _) _); apply el_lcI 5 rfl; walk_at "ei"; walk_at "lx"; walk_at "b"; walk_at "b"; (intro z hz; (try have hz := mem_rng.mp hz); apply ets_one; walk_at "et"); (intro z hz hq; (try have hz := mem_rng.mp hz); walk_at "ev")) | ((with_reducible show EvL _ _ (.ListComp _ [⟨.Name "queue" _, _, [_], 0⟩] _ _) _); apply el_lcI 6 rfl; walk_at "ei"; walk_at "lx"; walk_at "b"; walk_at "b"; (intro z hz; (try have hz := mem_rng.mp hz); apply ets_one; walk_at "et"); (intro z hz hq; (try have hz := mem_rng.mp hz); walk_at "ev")) | ((with_reducible show EvL _ _ (.ListComp _ [⟨.Name "row" _, _, [_], 0⟩] _ _) _); apply el_lcI 7 rfl; walk_at "ei"; walk_at "lx"; walk_at "b"; walk_at "b"; (intro z hz; (try have hz := mem_rng.mp hz); apply ets_one; walk_at "et"); (intro z hz hq; (try have hz := mem_rng.mp hz); walk_at "ev")) | ((with_reducible show EvL _ _ (.ListComp _ [⟨.Name "more" _, _, [_], 0⟩] _ _) _); apply el_lcI 8 rfl; walk_at "ei"; walk_at "lx"; walk_at "b"; walk_at "b"; (intro z hz; (try have hz := mem_rng.mp hz); apply ets_one; walk_at "et"); (intro z hz hq; (try have hz := mem_rng.mp hz); walk_at "ev")) | ((with_reducible show EvL _ _ (.ListComp _ [⟨.Name "result" _, _, [_], 0⟩] _ _) _); apply el_lcI 9 rfl; walk_at "ei"; walk_at "lx"; walk_at "b"; walk_at "b"; (intro z hz; (try have hz := mem_rng.mp hz); apply ets_one; walk_at "et"); (intro z hz hq; (try have hz := mem_rng.mp hz); walk_at "ev")))
local macro_rules | `(tactic| walk_at "go") => `(tactic| (conv => arg 4; whnf); show Run _ [some _, some _, some _, none, none, none, none, none, none, none] _ _ _)
theorem f_road {g : Gb} (T : Txt g) : Fnx g "road" 5 RroadE := by
  refine fnx_run (k := 4) T.d_road sc_road bd_road (fun ds d h => by obtain ⟨v, r, z, x, rfl, _⟩ := h; rfl) fun ds o hR => ?_
  obtain ⟨h, a, b, x, rfl, hx, rfl⟩ := hR
  have F1 := f_check_free T
  have B := T.b; cases B
  walk_at "go"
  rcases hx with hx | ⟨h1, hx⟩
  · exact run_exprE (y := x) (erx (er_call F1 (by walk_at "ea") ⟨_, _, rfl, hx.symm⟩ (by walk_at "j") (by walk_at "b"))) rfl
  · refine run_expr (d := .none) (evx (ev_callX F1 (by walk_at "ea") ⟨_, _, rfl, h1.symm⟩ (by walk_at "j") (by walk_at "b"))) ?_
    exact run_exprE (y := x) (erx (er_call F1 (by walk_at "ea") ⟨_, _, rfl, hx.symm⟩ (by walk_at "j") (by walk_at "b"))) rfl

end
section
local macro_rules | `(tactic| walk_at "n") => `(tactic| first | ((with_reducible show Ev _ _ (.Name "hours" _) _); exact ev_name 0 rfl rfl (by walk_at "b")) | ((with_reducible show Ev _ _ (.Name "length" _) _); exact ev_name 1 rfl rfl (by walk_at "b")) | ((with_reducible show Ev _ _ (.Name "answers" _) _); exact ev_name 2 rfl rfl (by walk_at "b")) | ((with_reducible show Ev _ _ (.Name "found" _) _); exact ev_name 3 rfl rfl (by walk_at "b")) | ((with_reducible show Ev _ _ (.Name "best" _) _); exact ev_name 4 rfl rfl (by walk_at "b")) | ((with_reducible show Ev _ _ (.Name "one" _) _); exact ev_name 5 rfl rfl (by walk_at "b")) | ((with_reducible show Ev _ _ (.Name "here" _) _); exact ev_name 6 rfl rfl (by walk_at "b")) | ((with_reducible show Ev _ _ (.Name "row" _) _); exact ev_name 7 rfl rfl (by walk_at "b")) | ((with_reducible show Ev _ _ (.Name "worst" _) _); exact ev_name 8 rfl rfl (by walk_at "b")) | ((with_reducible show Ev _ _ (.Name "told" _) _); exact ev_name 9 rfl rfl (by walk_at "b")))
local macro_rules | `(tactic| walk_at "set") => `(tactic| first | ((with_reducible show Run _ _ _ (.Assign [.Name "hours" _] _ _ :: _) _); refine run_set 0 (by walk_at "evx") rfl (by walk_at "b") ?_ (fun _ => rfl); walk_at "nf") | ((with_reducible show Run _ _ _ (.Assign [.Name "length" _] _ _ :: _) _); refine run_set 1 (by walk_at "evx") rfl (by walk_at "b") ?_ (fun _ => rfl); walk_at "nf") | ((with_reducible show Run _ _ _ (.Assign [.Name "answers" _] _ _ :: _) _); refine run_set 2 (by walk_at "evx") rfl (by walk_at "b") ?_ (fun _ => rfl); walk_at "nf") | ((with_reducible show Run _ _ _ (.Assign [.Name "found" _] _ _ :: _) _); refine run_set 3 (by walk_at "evx") rfl (by walk_at "b") ?_ (fun _ => rfl); walk_at "nf") | ((with_reducible show Run _ _ _ (.Assign [.Name "best" _] _ _ :: _) _); refine run_set 4 (by walk_at "evx") rfl (by walk_at "b") ?_ (fun _ => rfl); walk_at "nf") | ((with_reducible show Run _ _ _ (.Assign [.Name "one" _] _ _ :: _) _); refine run_set 5 (by walk_at "evx") rfl (by walk_at "b") ?_ (fun _ => rfl); walk_at "nf") | ((with_reducible show Run _ _ _ (.Assign [.Name "here" _] _ _ :: _) _); refine run_set 6 (by walk_at "evx") rfl (by walk_at "b") ?_ (fun _ => rfl); walk_at "nf") | ((with_reducible show Run _ _ _ (.Assign [.Name "row" _] _ _ :: _) _); refine run_set 7 (by walk_at "evx") rfl (by walk_at "b") ?_ (fun _ => rfl); walk_at "nf") | ((with_reducible show Run _ _ _ (.Assign [.Name "worst" _] _ _ :: _) _); refine run_set 8 (by walk_at "evx") rfl (by walk_at "b") ?_ (fun _ => rfl); walk_at "nf") | ((with_reducible show Run _ _ _ (.Assign [.Name "told" _] _ _ :: _) _); refine run_set 9 (by walk_at "evx") rfl (by walk_at "b") ?_ (fun _ => rfl); walk_at "nf"))
local macro_rules | `(tactic| walk_at "el") => `(tactic| first | ((with_reducible show EvL _ _ (.ListComp _ [⟨.Name "hours" _, _, [], 0⟩] _ _) _); apply el_lcI0 0 rfl; walk_at "ei"; walk_at "lx"; walk_at "b"; walk_at "b"; (intro z hz; (try have hz := mem_rng.mp hz); walk_at "ev")) | ((with_reducible show EvL _ _ (.ListComp _ [⟨.Name "length" _, _, [], 0⟩] _ _) _); apply el_lcI0 1 rfl; walk_at "ei"; walk_at "lx"; walk_at "b"; walk_at "b"; (intro z hz; (try have hz := mem_rng.mp hz); walk_at "ev")) | ((with_reducible show EvL _ _ (.ListComp _ [⟨.Name "answers" _, _, [], 0⟩] _ _) _); apply el_lcI0 2 rfl; walk_at "ei"; walk_at "lx"; walk_at "b"; walk_at "b"; (intro z hz; (try have hz := mem_rng.mp hz); walk_at "ev")) | ((with_reducible show EvL _ _ (.ListComp _ [⟨.Name "found" _, _, [], 0⟩] _ _) _); apply el_lcI0 3 rfl; walk_at "ei"; walk_at "lx"; walk_at "b"; walk_at "b"; (intro z hz; (try have hz := mem_rng.mp hz); walk_at "ev")) | ((with_reducible show EvL _ _ (.ListComp _ [⟨.Name "best" _, _, [], 0⟩] _ _) _); apply el_lcI0 4 rfl; walk_at "ei"; walk_at "lx"; walk_at "b"; walk_at "b"; (intro z hz; (try have hz := mem_rng.mp hz); walk_at "ev")) | ((with_reducible show EvL _ _ (.ListComp _ [⟨.Name "one" _, _, [], 0⟩] _ _) _); apply el_lcI0 5 rfl; walk_at "ei"; walk_at "lx"; walk_at "b"; walk_at "b"; (intro z hz; (try have hz := mem_rng.mp hz); walk_at "ev")) | ((with_reducible show EvL _ _ (.ListComp _ [⟨.Name "here" _, _, [], 0⟩] _ _) _); apply el_lcI0 6 rfl; walk_at "ei"; walk_at "lx"; walk_at "b"; walk_at "b"; (intro z hz; (try have hz := mem_rng.mp hz); walk_at "ev")) | ((with_reducible show EvL _ _ (.ListComp _ [⟨.Name "row" _, _, [], 0⟩] _ _) _); apply el_lcI0 7 rfl; walk_at "ei"; walk_at "lx"; walk_at "b"; walk_at "b"; (intro z hz; (try have hz := mem_rng.mp hz); walk_at "ev")) | ((with_reducible show EvL _ _ (.ListComp _ [⟨.Name "worst" _, _, [], 0⟩] _ _) _); apply el_lcI0 8 rfl; walk_at "ei"; walk_at "lx"; walk_at "b"; walk_at "b"; (intro z hz; (try have hz := mem_rng.mp hz); walk_at "ev")) | ((with_reducible show EvL _ _ (.ListComp _ [⟨.Name "told" _, _, [], 0⟩] _ _) _); apply el_lcI0 9 rfl; walk_at "ei"; walk_at "lx"; walk_at "b"; walk_at "b"; (intro z hz; (try have hz := mem_rng.mp hz); walk_at "ev")) | ((with_reducible show EvL _ _ (.ListComp _ [⟨.Name "hours" _, _, [_], 0⟩] _ _) _); apply el_lcI 0 rfl; walk_at "ei"; walk_at "lx"; walk_at "b"; walk_at "b"; (intro z hz; (try have hz := mem_rng.mp hz); apply ets_one; walk_at "et"); (intro z hz hq; (try have hz := mem_rng.mp hz); walk_at "ev")) | ((with_reducible show EvL _ _ (.ListComp _ [⟨.Name "length" _, _, [_], 0⟩] _ _) _); apply el_lcI 1 rfl; walk_at "ei"; walk_at "lx"; walk_at "b"; walk_at "b"; (intro z hz; (try have hz := mem_rng.mp hz); apply ets_one; walk_at "et"); (intro z hz hq; (try have hz := mem_rng.mp hz); walk_at "ev")) | ((with_reducible show EvL _ _ (.ListComp _ [⟨.Name "answers" _, _, [_], 0⟩] _ _) _); apply el_lcI 2 rfl; walk_at "ei"; walk_at "lx"; walk_at "b"; walk_at "b"; (intro z hz; (try have hz := mem_rng.mp hz); apply ets_one; walk_at "et"); (intro z hz hq; (try have hz := mem_rng.mp hz); walk_at "ev")) | ((with_reducible show EvL _ _ (.ListComp _ [⟨.Name "found" _, _, [_], 0⟩] _ _) _); apply el_lcI 3 rfl; walk_at "ei"; walk_at "lx"; walk_at "b"; walk_at "b"; (intro z hz; (try have hz := mem_rng.mp hz); apply ets_one; walk_at "et"); (intro z hz hq; (try have hz := mem_rng.mp hz); walk_at "ev")) | ((with_reducible show EvL _ _ (.ListComp _ [⟨.Name "best" _, _, [_], 0⟩] _ _) _); apply el_lcI 4 rfl; walk_at "ei"; walk_at "lx"; walk_at "b"; walk_at "b"; (intro z hz; (try have hz := mem_rng.mp hz); apply ets_one; walk_at "et"); (intro z hz hq; (try have hz := mem_rng.mp hz); walk_at "ev")) | ((with_reducible show EvL _ _ (.ListComp _ [⟨.Name "one" _, _, [_], 0⟩] _ _) _); apply el_lcI 5 rfl; walk_at "ei"; walk_at "lx"; walk_at "b"; walk_at "b"; (intro z hz; (try have hz := mem_rng.mp hz); apply ets_one; walk_at "et"); (intro z hz hq; (try have hz := mem_rng.mp hz); walk_at "ev")) | ((with_reducible show EvL _ _ (.ListComp _ [⟨.Name "here" _, _, [_], 0⟩] _ _) _); apply el_lcI 6 rfl; walk_at "ei"; walk_at "lx"; walk_at "b"; walk_at "b"; (intro z hz; (try have hz := mem_rng.mp hz); apply ets_one; walk_at "et"); (intro z hz hq; (try have hz := mem_rng.mp hz); walk_at "ev")) | ((with_reducible show EvL _ _ (.ListComp _ [⟨.Name "row" _, _, [_], 0⟩] _ _) _); apply el_lcI 7 rfl; walk_at "ei"; walk_at "lx"; walk_at "b"; walk_at "b"; (intro z hz; (try have hz := mem_rng.mp hz); apply ets_one; walk_at "et"); (intro z hz hq; (try have hz := mem_rng.mp hz); walk_at "ev")) | ((with_reducible show EvL _ _ (.ListComp _ [⟨.Name "worst" _, _, [_], 0⟩] _ _) _); apply el_lcI 8 rfl; walk_at "ei"; walk_at "lx"; walk_at "b"; walk_at "b"; (intro z hz; (try have hz := mem_rng.mp hz); apply ets_one; walk_at "et"); (intro z hz hq; (try have hz := mem_rng.mp hz); walk_at "ev")) | ((with_reducible show EvL _ _ (.ListComp _ [⟨.Name "told" _, _, [_], 0⟩] _ _) _); apply el_lcI 9 rfl; walk_at "ei"; walk_at "lx"; walk_at "b"; walk_at "b"; (intro z hz; (try have hz := mem_rng.mp hz); apply ets_one; walk_at "et"); (intro z hz hq; (try have hz := mem_rng.mp hz); walk_at "ev")))
local macro_rules | `(tactic| walk_at "go") => `(tactic| (conv => arg 4; whnf); show Run _ [some _, some _, some _, none, none, none, none, none, none, none] _ _ _)
theorem f_best_remainder {g : Gb} (T : Txt g) : Fnx g "best_remainder" 5 Rbest := by
  refine fnx_run (k := 4) T.d_best_remainder sc_best_remainder bd_best_remainder (fun ds d h => by obtain ⟨v, l, a, _, rfl, _⟩ := h; rfl) fun ds o hR => ?_
  obtain ⟨h, l, a, hal, rfl, rfl⟩ := hR
  have F1 := f_candidates T
  obtain ⟨C, xc⟩ := T.x_InvalidAnswers
  have B := T.b; cases B
  walk_at "go"
  have hR : Rcand [h, l, a] (candOc h l a) := ⟨_, _, _, hal, rfl, rfl⟩
  unfold bestOc
  rcases ckAns_cases h l a with ⟨n, L, ans, rfl, h2, h9, rfl, hL, rfl, hans, hc⟩ | ⟨y, hy, _⟩
  · rw [hc]
    rw [cand_ok h2 h9 hL hans] at hR
    have hl := cands_len (ans := ans) h2 h9 hL
    have e0 : ansOf (.tuple (ans.map pP)) = ans := ansOf_pP ans
    rw [e0]
    show Run _ _ _ _ { rt := fun d' => (if (cands n L ans).isEmpty = true then Oc.er "InvalidAnswers" else .ok (best2D (bestTo (cands n L ans) (rng 1 n)))) = .ok d', nx := fun _ _ => (if (cands n L ans).isEmpty = true then Oc.er "InvalidAnswers" else .ok (best2D (bestTo (cands n L ans) (rng 1 n)))) = .ok .none, er := fun x _ _ => (if (cands n L ans).isEmpty = true then Oc.er "InvalidAnswers" else .ok (best2D (bestTo (cands n L ans) (rng 1 n)))) = .er x, bk := _, ct := _ }
    generalize cands n L ans = found at hR hl ⊢
    refine run_set 3 (d := lT found) (evx (ev_callX F1 (by walk_at "ea") hR (by walk_at "j") (by walk_at "b"))) rfl (by walk_at "b") ?_
    walk_at "nf"
    refine run_if (k := found.isEmpty) (evxt (EvT.cast (et_not (et_truth (d := lT found) (by walk_at "n") (by intro x h; cases h) (fun _ _ => rfl))) (by cases found <;> rfl))) (fun he => run_raise xc (by walk_at "b") (by show (if _ then _ else _) = _; rw [if_pos he])) fun he => run_nil ?_
    rw [if_neg (by rw [he]; decide)]
    refine run_set 4 (d := bestD (bestTo found ((rng 1 n).take 0))) (evx (Ev.cast ev_none rfl)) rfl (by walk_at "b") ?_
    walk_at "nf"
    refine run_for 5 (fun i => [some (.int n), some (.int L), some (.tuple (ans.map pP)), some (lT found), some (bestD (bestTo found ((rng 1 n).take i))), none, none, none, none, none]) (fun i => []) (fun i => True) (ds := iL (rng 1 n)) (ei_rng2 ev_int (by walk_at "n") (by assumption) (by walk_at "b") (by omega) (by omega) (by omega) (by omega)) rfl (by walk_at "b") (by walk_at "sub") rfl trivial (fun i d hi _ => ?_) fun _ => ?_
    · obtain ⟨one, hone, rfl⟩ := get_iL hi
      walk_at "nf"
      have hstep := bestTo_take (found := found) hone
      generalize bestTo found ((rng 1 n).take i) = b at hstep ⊢
      refine run_setC 6 (d := pL (hereOf found one)) (evx (EvL.ev (EvL.cast (el_lcT0 7 rfl (l := found) (f := fun r => .int (r.count one : Nat)) (ei_list (by walk_at "n")) (by omega) (by walk_at "b") (by walk_at "b") (fun r hr => ev_countT (by walk_at "n") (by walk_at "n"))) (by unfold hereOf iL; rw [List.map_map]; rfl)))) rfl (by walk_at "b") (by show (defScope s_best_remainder).names.lookup _ ≠ _; decide +kernel) ?_
      have w := wst_all (hereOf found one)
      unfold bestStep at hstep
      generalize hereOf found one = here at w hstep ⊢
      walk_at "nf"
      refine run_set 8 (d := .int (wst here)) (evx (ev_maxL (ns := (rng 0 9).map fun t => (here.count t : Int)) (EvL.ev (EvL.ints (g := fun t => (here.count t : Int)) (el_lcI0 9 rfl (l := rng 0 9) (f := fun t => .int (here.count t : Nat)) (ei_rng1 ev_int (by assumption) (by walk_at "b") (by decide) (by decide)) (by decide) (by walk_at "b") (by walk_at "b") (fun t ht => ev_countL (by walk_at "n") (by walk_at "n"))) fun _ _ => rfl)) w.1 w.2 (by assumption) (by walk_at "b"))) rfl (by walk_at "b") ?_
      walk_at "nf"
      have hlen : ((found.map pT).length : Int) = found.length := by rw [List.length_map]
      refine run_if (k := decide (wst here < found.length) && better (wst here) b) (evxt (EvW.t (ew_and (i := decide (wst here < found.length)) (EvT.cast (et_lt (by walk_at "n") (Ev.cast (ev_lenL (xs := found.map pT) (by walk_at "n") (by assumption) (by walk_at "b")) (by rw [hlen]))) rfl) fun _ => ew_and1 ?_))) (fun ht => ?_) (fun hf => run_nil (run_nil ⟨?_, rfl, trivial⟩))
      · cases b with
        | none => exact EvT.cast (EvW.t (ew_orT (EvT.cast (et_isN (d := .none) (by walk_at "n")) rfl))) rfl
        | some p => exact EvT.cast (b' := better (wst here) (some p)) (EvW.t (ew_or (i := false) (j := decide (wst here < p.1)) (EvT.cast (et_isN (d := pP p) (by walk_at "n")) rfl) fun _ => ew_or1 (et_lt (by walk_at "n") (ev_ixT (xs := [.int p.1, .int p.2]) (by walk_at "n") ev_int rfl)))) rfl
      · rw [if_pos ht] at hstep
        refine run_set 4 (d := pP (wst here, one)) (evx (Ev.cast (ev_tuple (ea_cons (by walk_at "n") (ea_cons (by walk_at "n") ea_nil)) (by walk_at "j")) rfl)) rfl (by walk_at "b") ?_
        walk_at "nf"
        refine run_nil (run_nil ⟨?_, rfl, trivial⟩)
        rw [hstep]
        show Sub [_, _, _, _, some (pP (wst here, one)), none, none, none, none, none] _
        walk_at "sub"
      · rw [hstep, if_neg (by rw [hf]; decide)]
        walk_at "sub"
    · rw [List.length_map, List.take_length]
      generalize bestTo found (rng 1 n) = b
      refine run_ret (d := best2D b) ?_ rfl
      cases b with
      | none => exact ev_ifT (EvT.cast (et_isN (d := .none) (by walk_at "n")) rfl) ev_none
      | some p => exact ev_ifF (EvT.cast (et_isN (d := pP p) (by walk_at "n")) rfl) (ev_ixT (xs := [.int p.1, .int p.2]) (by walk_at "n") ev_int rfl)
  · unfold candOc at hR
    rw [hy] at hR ⊢
    exact run_setE 3 (y := y) (erx (er_call F1 (by walk_at "ea") hR (by walk_at "j") (by walk_at "b"))) rfl (by walk_at "b") rfl

end
section
local macro_rules | `(tactic| walk_at "n") => `(tactic| first | ((with_reducible show Ev _ _ (.Name "mode" _) _); exact ev_name 0 rfl rfl (by walk_at "b")) | ((with_reducible show Ev _ _ (.Name "odd" _) _); exact ev_name 1 rfl rfl (by walk_at "b")))
local macro_rules | `(tactic| walk_at "set") => `(tactic| first | ((with_reducible show Run _ _ _ (.Assign [.Name "mode" _] _ _ :: _) _); refine run_set 0 (by walk_at "evx") rfl (by walk_at "b") ?_ (fun _ => rfl); walk_at "nf") | ((with_reducible show Run _ _ _ (.Assign [.Name "odd" _] _ _ :: _) _); refine run_set 1 (by walk_at "evx") rfl (by walk_at "b") ?_ (fun _ => rfl); walk_at "nf"))
local macro_rules | `(tactic| walk_at "el") => `(tactic| first | ((with_reducible show EvL _ _ (.ListComp _ [⟨.Name "mode" _, _, [], 0⟩] _ _) _); apply el_lcI0 0 rfl; walk_at "ei"; walk_at "lx"; walk_at "b"; walk_at "b"; (intro z hz; (try have hz := mem_rng.mp hz); walk_at "ev")) | ((with_reducible show EvL _ _ (.ListComp _ [⟨.Name "odd" _, _, [], 0⟩] _ _) _); apply el_lcI0 1 rfl; walk_at "ei"; walk_at "lx"; walk_at "b"; walk_at "b"; (intro z hz; (try have hz := mem_rng.mp hz); walk_at "ev")) | ((with_reducible show EvL _ _ (.ListComp _ [⟨.Name "mode" _, _, [_], 0⟩] _ _) _); apply el_lcI 0 rfl; walk_at "ei"; walk_at "lx"; walk_at "b"; walk_at "b"; (intro z hz; (try have hz := mem_rng.mp hz); apply ets_one; walk_at "et"); (intro z hz hq; (try have hz := mem_rng.mp hz); walk_at "ev")) | ((with_reducible show EvL _ _ (.ListComp _ [⟨.Name "odd" _, _, [_], 0⟩] _ _) _); apply el_lcI 1 rfl; walk_at "ei"; walk_at "lx"; walk_at "b"; walk_at "b"; (intro z hz; (try have hz := mem_rng.mp hz); apply ets_one; walk_at "et"); (intro z hz hq; (try have hz := mem_rng.mp hz); walk_at "ev")))
local macro_rules | `(tactic| walk_at "go") => `(tactic| (conv => arg 4; whnf); show Run _ [some _, some _] _ _ _)
theorem f__law_asked {g : Gb} (T : Txt g) : Fnx g "_law_asked" 6 Rasked := by
  refine fnx_run (k := 5) T.d__law_asked sc__law_asked bd__law_asked (fun ds d h => by obtain ⟨m, o, p, _, _, _, _, rfl, _⟩ := h; rfl) fun ds o hR => ?_
  obtain ⟨mode, odd, p, ho, hm0, hm1, hp, rfl, rfl⟩ := hR
  have F0 := f_is_row T
  have F1 := f_sums T
  have F2 := f_is_zero_part T
  have F3 := f_join T
  have F4 := f_split T
  have F5 := f_road T
  have F6 := f_all_free T
  have F7 := f_candidates T
  have F8 := f_best_remainder T
  have B := T.b; cases B
  walk_at "go"
  obtain ⟨r5, r10, rr⟩ := odds4_row ho
  have ri := fun {lo hi : Int} => odds4_in ho (lo := lo) (hi := hi)
  have hal : ∀ xs, odd = .tuple xs → xs.length ≤ 100 := fun xs e => by
    rw [e] at ho
    simp only [odds4, List.mem_cons, List.not_mem_nil, or_false] at ho
    rcases ho with h | h | h | h <;> cases h
  have hcase : mode = 0 ∨ mode = 1 ∨ mode = 2 ∨ mode = 3 ∨ mode = 4 ∨ mode = 5 ∨ mode = 6 ∨ mode = 7 ∨ mode = 8 ∨ mode = 9 ∨ mode = 10 ∨ mode = 11 := by omega
  rcases hcase with rfl | rfl | rfl | rfl | rfl | rfl | rfl | rfl | rfl | rfl | rfl | rfl
  · cases hp
    refine run_if (k := true) (evxt (EvT.cast (et_eqI (i := 0) (j := 0) (by walk_at "n") ev_int) rfl)) (fun _ => ?_) (fun h => by cases h)
    exact run_retE (y := "InvalidHours") (erx (er_call F0 (ea_cons (by walk_at "n") (ea_cons (by walk_at "n") ea_nil)) ⟨odd, odd, rfl, by unfold isRowOc; rw [if_neg (by rw [ri (by decide)]; decide)]⟩ (by walk_at "j") (by walk_at "b"))) rfl
  · cases hp
    refine run_if (k := false) (evxt (EvT.cast (et_eqI (i := 1) (j := 0) (by walk_at "n") ev_int) rfl)) (fun h => by cases h) fun _ => run_nil ?_
    refine run_if (k := true) (evxt (EvT.cast (et_eqI (i := 1) (j := 1) (by walk_at "n") ev_int) rfl)) (fun _ => ?_) (fun h => by cases h)
    exact run_retE (y := "InvalidHours") (erx (er_call F1 (ea_cons (by walk_at "n") (ea_cons (by walk_at "n") ea_nil)) ⟨odd, odd, rfl, (onRow_bad rr).symm⟩ (by walk_at "j") (by walk_at "b"))) rfl
  · cases hp
    refine run_if (k := false) (evxt (EvT.cast (et_eqI (i := 2) (j := 0) (by walk_at "n") ev_int) rfl)) (fun h => by cases h) fun _ => run_nil ?_
    refine run_if (k := false) (evxt (EvT.cast (et_eqI (i := 2) (j := 1) (by walk_at "n") ev_int) rfl)) (fun h => by cases h) fun _ => run_nil ?_
    refine run_if (k := true) (evxt (EvT.cast (et_eqI (i := 2) (j := 2) (by walk_at "n") ev_int) rfl)) (fun _ => ?_) (fun h => by cases h)
    exact run_retE (y := "InvalidRow") (erx (er_call F2 (ea_cons ev_int (ea_cons (by walk_at "n") (ea_cons (by walk_at "n") ea_nil))) ⟨_, _, _, _, rfl, r5, rfl⟩ (by walk_at "j") (by walk_at "b"))) rfl
  · cases hp
    refine run_if (k := false) (evxt (EvT.cast (et_eqI (i := 3) (j := 0) (by walk_at "n") ev_int) rfl)) (fun h => by cases h) fun _ => run_nil ?_
    refine run_if (k := false) (evxt (EvT.cast (et_eqI (i := 3) (j := 1) (by walk_at "n") ev_int) rfl)) (fun h => by cases h) fun _ => run_nil ?_
    refine run_if (k := false) (evxt (EvT.cast (et_eqI (i := 3) (j := 2) (by walk_at "n") ev_int) rfl)) (fun h => by cases h) fun _ => run_nil ?_
    refine run_if (k := true) (evxt (EvT.cast (et_eqI (i := 3) (j := 3) (by walk_at "n") ev_int) rfl)) (fun _ => ?_) (fun h => by cases h)
    exact run_retE (y := "InvalidRow") (erx (er_call F3 (ea_cons ev_int (ea_cons (by walk_at "n") (ea_cons (by walk_at "n") (ea_cons (by walk_at "n") ea_nil)))) ⟨_, _, _, _, rfl, (onRow_bad r5).symm⟩ (by walk_at "j") (by walk_at "b"))) rfl
  · cases hp
    refine run_if (k := false) (evxt (EvT.cast (et_eqI (i := 4) (j := 0) (by walk_at "n") ev_int) rfl)) (fun h => by cases h) fun _ => run_nil ?_
    refine run_if (k := false) (evxt (EvT.cast (et_eqI (i := 4) (j := 1) (by walk_at "n") ev_int) rfl)) (fun h => by cases h) fun _ => run_nil ?_
    refine run_if (k := false) (evxt (EvT.cast (et_eqI (i := 4) (j := 2) (by walk_at "n") ev_int) rfl)) (fun h => by cases h) fun _ => run_nil ?_
    refine run_if (k := false) (evxt (EvT.cast (et_eqI (i := 4) (j := 3) (by walk_at "n") ev_int) rfl)) (fun h => by cases h) fun _ => run_nil ?_
    refine run_if (k := true) (evxt (EvT.cast (et_eqI (i := 4) (j := 4) (by walk_at "n") ev_int) rfl)) (fun _ => ?_) (fun h => by cases h)
    exact run_retE (y := "HasZeroPart") (erx (er_call F3 (ea_cons ev_int (ea_cons (Ev.cast (ev_tuple (ea_cons ev_int (ea_cons ev_int ea_nil)) (show 2 ≤ 100000 by decide)) rfl) (ea_cons (by walk_at "n") (ea_cons (by walk_at "n") ea_nil)))) ⟨.int 5, pT [2, 3], _, _, rfl, by rw [onRow_ok (by decide) (by decide) (row_dec rfl), joinOc_nf (by decide +kernel)]⟩ (by walk_at "j") (by walk_at "b"))) rfl
  · cases hp
    refine run_if (k := false) (evxt (EvT.cast (et_eqI (i := 5) (j := 0) (by walk_at "n") ev_int) rfl)) (fun h => by cases h) fun _ => run_nil ?_
    refine run_if (k := false) (evxt (EvT.cast (et_eqI (i := 5) (j := 1) (by walk_at "n") ev_int) rfl)) (fun h => by cases h) fun _ => run_nil ?_
    refine run_if (k := false) (evxt (EvT.cast (et_eqI (i := 5) (j := 2) (by walk_at "n") ev_int) rfl)) (fun h => by cases h) fun _ => run_nil ?_
    refine run_if (k := false) (evxt (EvT.cast (et_eqI (i := 5) (j := 3) (by walk_at "n") ev_int) rfl)) (fun h => by cases h) fun _ => run_nil ?_
    refine run_if (k := false) (evxt (EvT.cast (et_eqI (i := 5) (j := 4) (by walk_at "n") ev_int) rfl)) (fun h => by cases h) fun _ => run_nil ?_
    refine run_if (k := true) (evxt (EvT.cast (et_eqI (i := 5) (j := 5) (by walk_at "n") ev_int) rfl)) (fun _ => ?_) (fun h => by cases h)
    exact run_retE (y := "HasZeroPart") (erx (er_call F4 (ea_cons ev_int (ea_cons (Ev.cast (ev_tuple (ea_cons ev_int (ea_cons ev_int ea_nil)) (show 2 ≤ 100000 by decide)) rfl) (ea_cons (by walk_at "n") (ea_cons (by walk_at "n") ea_nil)))) ⟨.int 5, pT [2, 3], _, _, rfl, by rw [onRow_ok (by decide) (by decide) (row_dec rfl), splitOc_nf (by decide +kernel)]⟩ (by walk_at "j") (by walk_at "b"))) rfl
  · cases hp
    refine run_if (k := false) (evxt (EvT.cast (et_eqI (i := 6) (j := 0) (by walk_at "n") ev_int) rfl)) (fun h => by cases h) fun _ => run_nil ?_
    refine run_if (k := false) (evxt (EvT.cast (et_eqI (i := 6) (j := 1) (by walk_at "n") ev_int) rfl)) (fun h => by cases h) fun _ => run_nil ?_
    refine run_if (k := false) (evxt (EvT.cast (et_eqI (i := 6) (j := 2) (by walk_at "n") ev_int) rfl)) (fun h => by cases h) fun _ => run_nil ?_
    refine run_if (k := false) (evxt (EvT.cast (et_eqI (i := 6) (j := 3) (by walk_at "n") ev_int) rfl)) (fun h => by cases h) fun _ => run_nil ?_
    refine run_if (k := false) (evxt (EvT.cast (et_eqI (i := 6) (j := 4) (by walk_at "n") ev_int) rfl)) (fun h => by cases h) fun _ => run_nil ?_
    refine run_if (k := false) (evxt (EvT.cast (et_eqI (i := 6) (j := 5) (by walk_at "n") ev_int) rfl)) (fun h => by cases h) fun _ => run_nil ?_
    refine run_if (k := true) (evxt (EvT.cast (et_eqI (i := 6) (j := 6) (by walk_at "n") ev_int) rfl)) (fun _ => ?_) (fun h => by cases h)
    exact run_retE (y := "InvalidNumber") (erx (er_call F4 (ea_cons ev_int (ea_cons (Ev.cast (ev_tuple (ea_cons ev_int ea_nil) (show 1 ≤ 100000 by decide)) rfl) (ea_cons (by walk_at "n") (ea_cons (by walk_at "n") ea_nil)))) ⟨.int 5, pT [1], _, _, rfl, by rw [onRow_ok (by decide) (by decide) (row_dec rfl), splitOc_ba fr1 (ri (by decide))]⟩ (by walk_at "j") (by walk_at "b"))) rfl
  · cases hp
    refine run_if (k := false) (evxt (EvT.cast (et_eqI (i := 7) (j := 0) (by walk_at "n") ev_int) rfl)) (fun h => by cases h) fun _ => run_nil ?_
    refine run_if (k := false) (evxt (EvT.cast (et_eqI (i := 7) (j := 1) (by walk_at "n") ev_int) rfl)) (fun h => by cases h) fun _ => run_nil ?_
    refine run_if (k := false) (evxt (EvT.cast (et_eqI (i := 7) (j := 2) (by walk_at "n") ev_int) rfl)) (fun h => by cases h) fun _ => run_nil ?_
    refine run_if (k := false) (evxt (EvT.cast (et_eqI (i := 7) (j := 3) (by walk_at "n") ev_int) rfl)) (fun h => by cases h) fun _ => run_nil ?_
    refine run_if (k := false) (evxt (EvT.cast (et_eqI (i := 7) (j := 4) (by walk_at "n") ev_int) rfl)) (fun h => by cases h) fun _ => run_nil ?_
    refine run_if (k := false) (evxt (EvT.cast (et_eqI (i := 7) (j := 5) (by walk_at "n") ev_int) rfl)) (fun h => by cases h) fun _ => run_nil ?_
    refine run_if (k := false) (evxt (EvT.cast (et_eqI (i := 7) (j := 6) (by walk_at "n") ev_int) rfl)) (fun h => by cases h) fun _ => run_nil ?_
    refine run_if (k := true) (evxt (EvT.cast (et_eqI (i := 7) (j := 7) (by walk_at "n") ev_int) rfl)) (fun _ => ?_) (fun h => by cases h)
    exact run_retE (y := "InvalidRow") (erx (er_call F5 (ea_cons ev_int (ea_cons (Ev.cast (ev_tuple (ea_cons ev_int ea_nil) (show 1 ≤ 100000 by decide)) rfl) (ea_cons (by walk_at "n") ea_nil))) ⟨.int 10, pT [1], odd, "InvalidRow", rfl, .inr ⟨by rw [onRow_ok (by decide) (by decide) (row_dec rfl)]; exact fr10, onRow_bad r10⟩, rfl⟩ (by walk_at "j") (by walk_at "b"))) rfl
  · cases hp
    refine run_if (k := false) (evxt (EvT.cast (et_eqI (i := 8) (j := 0) (by walk_at "n") ev_int) rfl)) (fun h => by cases h) fun _ => run_nil ?_
    refine run_if (k := false) (evxt (EvT.cast (et_eqI (i := 8) (j := 1) (by walk_at "n") ev_int) rfl)) (fun h => by cases h) fun _ => run_nil ?_
    refine run_if (k := false) (evxt (EvT.cast (et_eqI (i := 8) (j := 2) (by walk_at "n") ev_int) rfl)) (fun h => by cases h) fun _ => run_nil ?_
    refine run_if (k := false) (evxt (EvT.cast (et_eqI (i := 8) (j := 3) (by walk_at "n") ev_int) rfl)) (fun h => by cases h) fun _ => run_nil ?_
    refine run_if (k := false) (evxt (EvT.cast (et_eqI (i := 8) (j := 4) (by walk_at "n") ev_int) rfl)) (fun h => by cases h) fun _ => run_nil ?_
    refine run_if (k := false) (evxt (EvT.cast (et_eqI (i := 8) (j := 5) (by walk_at "n") ev_int) rfl)) (fun h => by cases h) fun _ => run_nil ?_
    refine run_if (k := false) (evxt (EvT.cast (et_eqI (i := 8) (j := 6) (by walk_at "n") ev_int) rfl)) (fun h => by cases h) fun _ => run_nil ?_
    refine run_if (k := false) (evxt (EvT.cast (et_eqI (i := 8) (j := 7) (by walk_at "n") ev_int) rfl)) (fun h => by cases h) fun _ => run_nil ?_
    refine run_if (k := true) (evxt (EvT.cast (et_eqI (i := 8) (j := 8) (by walk_at "n") ev_int) rfl)) (fun _ => ?_) (fun h => by cases h)
    exact run_retE (y := "HasZeroPart") (erx (er_call F5 (ea_cons ev_int (ea_cons (Ev.cast (ev_tuple (ea_cons ev_int (ea_cons ev_int ea_nil)) (show 2 ≤ 100000 by decide)) rfl) (ea_cons (by walk_at "n") ea_nil))) ⟨.int 10, pT [5, 5], odd, "HasZeroPart", rfl, .inl (by rw [onRow_ok (by decide) (by decide) (row_dec rfl)]; exact fr55), rfl⟩ (by walk_at "j") (by walk_at "b"))) rfl
  · cases hp
    refine run_if (k := false) (evxt (EvT.cast (et_eqI (i := 9) (j := 0) (by walk_at "n") ev_int) rfl)) (fun h => by cases h) fun _ => run_nil ?_
    refine run_if (k := false) (evxt (EvT.cast (et_eqI (i := 9) (j := 1) (by walk_at "n") ev_int) rfl)) (fun h => by cases h) fun _ => run_nil ?_
    refine run_if (k := false) (evxt (EvT.cast (et_eqI (i := 9) (j := 2) (by walk_at "n") ev_int) rfl)) (fun h => by cases h) fun _ => run_nil ?_
    refine run_if (k := false) (evxt (EvT.cast (et_eqI (i := 9) (j := 3) (by walk_at "n") ev_int) rfl)) (fun h => by cases h) fun _ => run_nil ?_
    refine run_if (k := false) (evxt (EvT.cast (et_eqI (i := 9) (j := 4) (by walk_at "n") ev_int) rfl)) (fun h => by cases h) fun _ => run_nil ?_
    refine run_if (k := false) (evxt (EvT.cast (et_eqI (i := 9) (j := 5) (by walk_at "n") ev_int) rfl)) (fun h => by cases h) fun _ => run_nil ?_
    refine run_if (k := false) (evxt (EvT.cast (et_eqI (i := 9) (j := 6) (by walk_at "n") ev_int) rfl)) (fun h => by cases h) fun _ => run_nil ?_
    refine run_if (k := false) (evxt (EvT.cast (et_eqI (i := 9) (j := 7) (by walk_at "n") ev_int) rfl)) (fun h => by cases h) fun _ => run_nil ?_
    refine run_if (k := false) (evxt (EvT.cast (et_eqI (i := 9) (j := 8) (by walk_at "n") ev_int) rfl)) (fun h => by cases h) fun _ => run_nil ?_
    refine run_if (k := true) (evxt (EvT.cast (et_eqI (i := 9) (j := 9) (by walk_at "n") ev_int) rfl)) (fun _ => ?_) (fun h => by cases h)
    exact run_retE (y := "InvalidHours") (erx (er_call F6 (ea_cons (by walk_at "n") (ea_cons (by walk_at "n") ea_nil)) ⟨odd, odd, rfl, by unfold allFreeOc; rw [if_neg (by rw [ri (by decide)]; decide)]⟩ (by walk_at "j") (by walk_at "b"))) rfl
  · cases hp
    refine run_if (k := false) (evxt (EvT.cast (et_eqI (i := 10) (j := 0) (by walk_at "n") ev_int) rfl)) (fun h => by cases h) fun _ => run_nil ?_
    refine run_if (k := false) (evxt (EvT.cast (et_eqI (i := 10) (j := 1) (by walk_at "n") ev_int) rfl)) (fun h => by cases h) fun _ => run_nil ?_
    refine run_if (k := false) (evxt (EvT.cast (et_eqI (i := 10) (j := 2) (by walk_at "n") ev_int) rfl)) (fun h => by cases h) fun _ => run_nil ?_
    refine run_if (k := false) (evxt (EvT.cast (et_eqI (i := 10) (j := 3) (by walk_at "n") ev_int) rfl)) (fun h => by cases h) fun _ => run_nil ?_
    refine run_if (k := false) (evxt (EvT.cast (et_eqI (i := 10) (j := 4) (by walk_at "n") ev_int) rfl)) (fun h => by cases h) fun _ => run_nil ?_
    refine run_if (k := false) (evxt (EvT.cast (et_eqI (i := 10) (j := 5) (by walk_at "n") ev_int) rfl)) (fun h => by cases h) fun _ => run_nil ?_
    refine run_if (k := false) (evxt (EvT.cast (et_eqI (i := 10) (j := 6) (by walk_at "n") ev_int) rfl)) (fun h => by cases h) fun _ => run_nil ?_
    refine run_if (k := false) (evxt (EvT.cast (et_eqI (i := 10) (j := 7) (by walk_at "n") ev_int) rfl)) (fun h => by cases h) fun _ => run_nil ?_
    refine run_if (k := false) (evxt (EvT.cast (et_eqI (i := 10) (j := 8) (by walk_at "n") ev_int) rfl)) (fun h => by cases h) fun _ => run_nil ?_
    refine run_if (k := false) (evxt (EvT.cast (et_eqI (i := 10) (j := 9) (by walk_at "n") ev_int) rfl)) (fun h => by cases h) fun _ => run_nil ?_
    refine run_if (k := true) (evxt (EvT.cast (et_eqI (i := 10) (j := 10) (by walk_at "n") ev_int) rfl)) (fun _ => ?_) (fun h => by cases h)
    exact run_retE (y := "InvalidNumber") (erx (er_call F7 (ea_cons ev_int (ea_cons (by walk_at "n") (ea_cons (by walk_at "n") ea_nil))) ⟨_, _, _, hal, rfl, by unfold candOc ckAns ckSmall; rw [if_pos (by rfl), if_neg (by rw [ri (by decide)]; decide)]⟩ (by walk_at "j") (by walk_at "b"))) rfl
  · cases hp
    refine run_if (k := false) (evxt (EvT.cast (et_eqI (i := 11) (j := 0) (by walk_at "n") ev_int) rfl)) (fun h => by cases h) fun _ => run_nil ?_
    refine run_if (k := false) (evxt (EvT.cast (et_eqI (i := 11) (j := 1) (by walk_at "n") ev_int) rfl)) (fun h => by cases h) fun _ => run_nil ?_
    refine run_if (k := false) (evxt (EvT.cast (et_eqI (i := 11) (j := 2) (by walk_at "n") ev_int) rfl)) (fun h => by cases h) fun _ => run_nil ?_
    refine run_if (k := false) (evxt (EvT.cast (et_eqI (i := 11) (j := 3) (by walk_at "n") ev_int) rfl)) (fun h => by cases h) fun _ => run_nil ?_
    refine run_if (k := false) (evxt (EvT.cast (et_eqI (i := 11) (j := 4) (by walk_at "n") ev_int) rfl)) (fun h => by cases h) fun _ => run_nil ?_
    refine run_if (k := false) (evxt (EvT.cast (et_eqI (i := 11) (j := 5) (by walk_at "n") ev_int) rfl)) (fun h => by cases h) fun _ => run_nil ?_
    refine run_if (k := false) (evxt (EvT.cast (et_eqI (i := 11) (j := 6) (by walk_at "n") ev_int) rfl)) (fun h => by cases h) fun _ => run_nil ?_
    refine run_if (k := false) (evxt (EvT.cast (et_eqI (i := 11) (j := 7) (by walk_at "n") ev_int) rfl)) (fun h => by cases h) fun _ => run_nil ?_
    refine run_if (k := false) (evxt (EvT.cast (et_eqI (i := 11) (j := 8) (by walk_at "n") ev_int) rfl)) (fun h => by cases h) fun _ => run_nil ?_
    refine run_if (k := false) (evxt (EvT.cast (et_eqI (i := 11) (j := 9) (by walk_at "n") ev_int) rfl)) (fun h => by cases h) fun _ => run_nil ?_
    refine run_if (k := false) (evxt (EvT.cast (et_eqI (i := 11) (j := 10) (by walk_at "n") ev_int) rfl)) (fun h => by cases h) fun _ => run_nil ?_
    exact run_retE (y := "InvalidHours") (erx (er_call F8 (ea_cons (by walk_at "n") (ea_cons (by walk_at "n") (ea_cons (by walk_at "n") ea_nil))) ⟨_, _, _, hal, rfl, by unfold bestOc ckAns ckSmall; rw [if_neg (by rw [ri (by decide)]; decide)]⟩ (by walk_at "j") (by walk_at "b"))) rfl

end
section
local macro_rules | `(tactic| walk_at "n") => `(tactic| first | ((with_reducible show Ev _ _ (.Name "script" _) _); exact ev_name 0 rfl rfl (by walk_at "b")) | ((with_reducible show Ev _ _ (.Name "mode" _) _); exact ev_name 1 rfl rfl (by walk_at "b")) | ((with_reducible show Ev _ _ (.Name "odd" _) _); exact ev_name 2 rfl rfl (by walk_at "b")) | ((with_reducible show Ev _ _ (.Name "wanted" _) _); exact ev_name 3 rfl rfl (by walk_at "b")) | ((with_reducible show Ev _ _ (.Name "found" _) _); exact ev_name 4 rfl rfl (by walk_at "b")) | ((with_reducible show Ev _ _ (.Name "e" _) _); exact ev_name 5 rfl rfl (by walk_at "b")) | ((with_reducible show Ev _ _ (.Name "at" _) _); exact ev_name 6 rfl rfl (by walk_at "b")))
local macro_rules | `(tactic| walk_at "set") => `(tactic| first | ((with_reducible show Run _ _ _ (.Assign [.Name "script" _] _ _ :: _) _); refine run_set 0 (by walk_at "evx") rfl (by walk_at "b") ?_ (fun _ => rfl); walk_at "nf") | ((with_reducible show Run _ _ _ (.Assign [.Name "mode" _] _ _ :: _) _); refine run_set 1 (by walk_at "evx") rfl (by walk_at "b") ?_ (fun _ => rfl); walk_at "nf") | ((with_reducible show Run _ _ _ (.Assign [.Name "odd" _] _ _ :: _) _); refine run_set 2 (by walk_at "evx") rfl (by walk_at "b") ?_ (fun _ => rfl); walk_at "nf") | ((with_reducible show Run _ _ _ (.Assign [.Name "wanted" _] _ _ :: _) _); refine run_set 3 (by walk_at "evx") rfl (by walk_at "b") ?_ (fun _ => rfl); walk_at "nf") | ((with_reducible show Run _ _ _ (.Assign [.Name "found" _] _ _ :: _) _); refine run_set 4 (by walk_at "evx") rfl (by walk_at "b") ?_ (fun _ => rfl); walk_at "nf") | ((with_reducible show Run _ _ _ (.Assign [.Name "e" _] _ _ :: _) _); refine run_set 5 (by walk_at "evx") rfl (by walk_at "b") ?_ (fun _ => rfl); walk_at "nf") | ((with_reducible show Run _ _ _ (.Assign [.Name "at" _] _ _ :: _) _); refine run_set 6 (by walk_at "evx") rfl (by walk_at "b") ?_ (fun _ => rfl); walk_at "nf"))
local macro_rules | `(tactic| walk_at "el") => `(tactic| first | ((with_reducible show EvL _ _ (.ListComp _ [⟨.Name "script" _, _, [], 0⟩] _ _) _); apply el_lcI0 0 rfl; walk_at "ei"; walk_at "lx"; walk_at "b"; walk_at "b"; (intro z hz; (try have hz := mem_rng.mp hz); walk_at "ev")) | ((with_reducible show EvL _ _ (.ListComp _ [⟨.Name "mode" _, _, [], 0⟩] _ _) _); apply el_lcI0 1 rfl; walk_at "ei"; walk_at "lx"; walk_at "b"; walk_at "b"; (intro z hz; (try have hz := mem_rng.mp hz); walk_at "ev")) | ((with_reducible show EvL _ _ (.ListComp _ [⟨.Name "odd" _, _, [], 0⟩] _ _) _); apply el_lcI0 2 rfl; walk_at "ei"; walk_at "lx"; walk_at "b"; walk_at "b"; (intro z hz; (try have hz := mem_rng.mp hz); walk_at "ev")) | ((with_reducible show EvL _ _ (.ListComp _ [⟨.Name "wanted" _, _, [], 0⟩] _ _) _); apply el_lcI0 3 rfl; walk_at "ei"; walk_at "lx"; walk_at "b"; walk_at "b"; (intro z hz; (try have hz := mem_rng.mp hz); walk_at "ev")) | ((with_reducible show EvL _ _ (.ListComp _ [⟨.Name "found" _, _, [], 0⟩] _ _) _); apply el_lcI0 4 rfl; walk_at "ei"; walk_at "lx"; walk_at "b"; walk_at "b"; (intro z hz; (try have hz := mem_rng.mp hz); walk_at "ev")) | ((with_reducible show EvL _ _ (.ListComp _ [⟨.Name "e" _, _, [], 0⟩] _ _) _); apply el_lcI0 5 rfl; walk_at "ei"; walk_at "lx"; walk_at "b"; walk_at "b"; (intro z hz; (try have hz := mem_rng.mp hz); walk_at "ev")) | ((with_reducible show EvL _ _ (.ListComp _ [⟨.Name "at" _, _, [], 0⟩] _ _) _); apply el_lcI0 6 rfl; walk_at "ei"; walk_at "lx"; walk_at "b"; walk_at "b"; (intro z hz; (try have hz := mem_rng.mp hz); walk_at "ev")) | ((with_reducible show EvL _ _ (.ListComp _ [⟨.Name "script" _, _, [_], 0⟩] _ _) _); apply el_lcI 0 rfl; walk_at "ei"; walk_at "lx"; walk_at "b"; walk_at "b"; (intro z hz; (try have hz := mem_rng.mp hz); apply ets_one; walk_at "et"); (intro z hz hq; (try have hz := mem_rng.mp hz); walk_at "ev")) | ((with_reducible show EvL _ _ (.ListComp _ [⟨.Name "mode" _, _, [_], 0⟩] _ _) _); apply el_lcI 1 rfl; walk_at "ei"; walk_at "lx"; walk_at "b"; walk_at "b"; (intro z hz; (try have hz := mem_rng.mp hz); apply ets_one; walk_at "et"); (intro z hz hq; (try have hz := mem_rng.mp hz); walk_at "ev")) | ((with_reducible show EvL _ _ (.ListComp _ [⟨.Name "odd" _, _, [_], 0⟩] _ _) _); apply el_lcI 2 rfl; walk_at "ei"; walk_at "lx"; walk_at "b"; walk_at "b"; (intro z hz; (try have hz := mem_rng.mp hz); apply ets_one; walk_at "et"); (intro z hz hq; (try have hz := mem_rng.mp hz); walk_at "ev")) | ((with_reducible show EvL _ _ (.ListComp _ [⟨.Name "wanted" _, _, [_], 0⟩] _ _) _); apply el_lcI 3 rfl; walk_at "ei"; walk_at "lx"; walk_at "b"; walk_at "b"; (intro z hz; (try have hz := mem_rng.mp hz); apply ets_one; walk_at "et"); (intro z hz hq; (try have hz := mem_rng.mp hz); walk_at "ev")) | ((with_reducible show EvL _ _ (.ListComp _ [⟨.Name "found" _, _, [_], 0⟩] _ _) _); apply el_lcI 4 rfl; walk_at "ei"; walk_at "lx"; walk_at "b"; walk_at "b"; (intro z hz; (try have hz := mem_rng.mp hz); apply ets_one; walk_at "et"); (intro z hz hq; (try have hz := mem_rng.mp hz); walk_at "ev")) | ((with_reducible show EvL _ _ (.ListComp _ [⟨.Name "e" _, _, [_], 0⟩] _ _) _); apply el_lcI 5 rfl; walk_at "ei"; walk_at "lx"; walk_at "b"; walk_at "b"; (intro z hz; (try have hz := mem_rng.mp hz); apply ets_one; walk_at "et"); (intro z hz hq; (try have hz := mem_rng.mp hz); walk_at "ev")) | ((with_reducible show EvL _ _ (.ListComp _ [⟨.Name "at" _, _, [_], 0⟩] _ _) _); apply el_lcI 6 rfl; walk_at "ei"; walk_at "lx"; walk_at "b"; walk_at "b"; (intro z hz; (try have hz := mem_rng.mp hz); apply ets_one; walk_at "et"); (intro z hz hq; (try have hz := mem_rng.mp hz); walk_at "ev")))
local macro_rules | `(tactic| walk_at "go") => `(tactic| (conv => arg 4; whnf); show Run _ [some _, none, none, none, none, none, none] _ _ _)
def nmsA : List Str := ["InvalidHours", "InvalidRow", "InvalidNumber"]
def nmsB : List Str := ["InvalidAnswers", "NoZeroPart", "HasZeroPart"]
def nmsC : List Str := ["NoMultiplier", "CannotSplit", "NoRoad"]
inductive IntEs : List Expr → List Int → Prop
  | nil : IntEs [] []
  | cons {i : Int} {k : Nat} {p : Pos} {es : List Expr} {ns : List Int} (h : IntEs es ns) : IntEs (.Constant (.int i) k p :: es) (i :: ns)
theorem IntEs.ea {c : Cfg} {Γ : Gm} {es : List Expr} {ns : List Int} (h : IntEs es ns) : EvA c Γ es (iL ns) := by
  induction h with
  | nil => exact ea_nil
  | cons _ ih => exact ea_cons ev_int ih
def wantI : List Int := [0, 0, 1, 1, 5, 5, 2, 1, 5, 0, 2, 0]
structure RunS (c : Cfg) (Γ : Gm) (O : Ows) (ss : List Stmt) (P : Po) : Prop where
  run : Run c Γ O ss P
theorem runS_set {c : Cfg} {Γ : Gm} {O : Ows} {e : Expr} {d : PyData} {pos p : Pos} {x : Str} {ss : List Stmt} {P : Po} (i : Nat) (he : EvX c Γ O e d) (hN : c.N[i]? = some x) (hl : locB c.sc x = true) (h : Run c (Γ.set i (some d)) (drp i O) ss P) (hw : ∀ env, swapsWith e (some (.Name x p)) pos.line env = pure false) : RunS c Γ O (.Assign [.Name x p] e pos :: ss) P := ⟨run_set i he hN hl h hw⟩
structure EvS (c : Cfg) (Γ : Gm) (e : Expr) (d : PyData) : Prop where
  ev : Ev c Γ e d
theorem evS_want {c : Cfg} {Γ : Gm} {es : List Expr} {b : Expr} {i : Int} {d : PyData} {p1 pos : Pos} (h : IntEs es wantI) (hb : Ev c Γ b (.int i)) (hi : atI (iL wantI) i = some d) (hs : PlainIx b) : EvS c Γ (.Subscript (.List es p1) b pos) d := ⟨ev_ixL (ev_list h.ea (show 12 ≤ 100000 by decide)) hb hi hs⟩
theorem ea_int {c : Cfg} {Γ : Gm} {es : List Expr} {ds : List PyData} {i : Int} {k : Nat} {p : Pos} (h : EvA c Γ es ds) : EvA c Γ (.Constant (.int i) k p :: es) (.int i :: ds) := ea_cons ev_int h
def wantD : List PyData := [.int 0, .int 0, .int 1, .int 1, .int 5, .int 5, .int 2, .int 1, .int 5, .int 0, .int 2, .int 0]
theorem wantD_eq : (askX.map fun p => PyData.int p.2) = wantD := by
  simp only [askX, wantD, List.map_cons, List.map_nil]
def fndE (x : Str) : List (Nat × PyData) := [(4, .list ((nmsA.map fun y => PyData.bool (subC x y)) ++ (nmsB.map fun y => PyData.bool (subC x y)) ++ (nmsC.map fun y => PyData.bool (subC x y))))]
theorem f_law {g : Gb} (T : Txt g) : LawOk g s_law 7 := by
  refine law_run (k := 6) sc_law fun ns hns => ?_
  have F1 := f__law_cell T
  have F2 := f__law_asked T
  have kx := T.kx
  have hcl := T.cls
  have B := T.b; cases B
  walk_at "go"
  have hm := emod_rem (n := 12) (by decide) (cellAt ns 0)
  obtain ⟨mode, hmode⟩ : ∃ mode, mode = cellAt ns 0 % 12 := ⟨_, rfl⟩
  rw [← hmode] at hm
  refine run_set 1 (d := .int mode) (evx (Ev.cast (ev_mod (ev_call F1 (by walk_at "ea") ⟨ns, 0, rfl, rfl, by decide⟩ (by walk_at "j") (by walk_at "b")) ev_int (by decide)) (by rw [hmode]))) rfl (by walk_at "b") ?_
  walk_at "nf"
  have hd4 := emod_rem (n := 4) (by decide) (cellAt ns 1)
  obtain ⟨odd, hodd, hom⟩ : ∃ w, atI odds4 (cellAt ns 1 % 4) = some w ∧ w ∈ odds4 := by
    have h9 : (cellAt ns 1 % 4).toNat < odds4.length := by show _ < 4; omega
    refine ⟨odds4[(cellAt ns 1 % 4).toNat], ?_, List.getElem_mem _⟩
    have := atI_nat (xs := odds4) (List.getElem?_eq_getElem h9)
    rw [Int.toNat_of_nonneg hd4.1] at this
    exact this
  refine run_set 2 (d := odd) (evx (ev_ixL (xs := odds4) (Ev.cast (ev_list (ds := odds4) (ea_cons ev_none (ea_cons ev_str (ea_cons (ev_list (ea_cons ev_int ea_nil)) (ea_cons (by walk_at "ev") ea_nil)))) (show 4 ≤ 100000 by decide)) rfl) (ev_mod (ev_call F1 (by walk_at "ea") ⟨ns, 1, rfl, rfl, by decide⟩ (by walk_at "j") (by walk_at "b")) ev_int (by decide)) hodd)) rfl (by walk_at "b") ?_
  walk_at "nf"
  have h12 : mode.toNat < askX.length := by show _ < 12; omega
  obtain ⟨p, hp⟩ : ∃ p, askX[mode.toNat]? = some p := ⟨_, List.getElem?_eq_getElem h12⟩
  have hpm := List.mem_of_getElem? hp
  have hat : atI wantD mode = some (.int p.2) := by
    have h1 : (askX.map fun p => PyData.int p.2)[mode.toNat]? = some (.int p.2) := by rw [List.getElem?_map, hp]; rfl
    have := atI_nat (xs := askX.map fun p => PyData.int p.2) h1
    rw [Int.toNat_of_nonneg hm.1] at this
    rw [wantD_eq] at this
    exact this
  have hat2 : atI (iL wantI) mode = some (.int p.2) := hat
  refine RunS.run ?_
  refine runS_set 3 (d := .int p.2) (evx ?_) rfl ?_ ?_ ?_
  · refine EvS.ev ?_
    refine evS_want ?_ ?_ hat2 ?_
    · exact .cons (.cons (.cons (.cons (.cons (.cons (.cons (.cons (.cons (.cons (.cons (.cons .nil)))))))))))
    · walk_at "n"
    · exact fun _ _ => rfl
  · walk_at "b"
  · walk_at "nf"
    refine run_set 4 (d := .list []) (evx (ev_list ea_nil (by walk_at "j"))) rfl (by walk_at "b") ?_
    walk_at "nf"
    refine run_trySu (y := "ClockError") (i := 5) (E := fndE) kx hcl (by decide +kernel) (by walk_at "b") (by decide) rfl (by walk_at "b") (by walk_at "b") (by assumption) (by walk_at "b") ?_ ?_
    · intro X S a oe pn x C τ W D hx hC hz hf hln hτ hS
      have hln : τ.length = 7 := hln
      have hy : ∀ l ∈ [nmsA, nmsB, nmsC], ∀ y ∈ l, y ∈ clsL ∧ glB (defScope s_law) y = true ∧ (y == ("__debug__" : Str)) = false := by decide +kernel
      refine su_set (f := 4) (ys := nmsA) S hx hC hz hf hτ (.cons (.cons (.cons .nil))) (hy _ (by simp)) (by decide) rfl (by walk_at "b") fun v1 W1 e1 d1 => ?_
      refine su_more (f := 4) (ys := nmsB) (v := v1) S hx hC hz hf (by rw [List.getElem?_set_ne (by decide)]; exact hτ) (.cons (.cons (.cons .nil))) (hy _ (by simp)) (by decide) (by show 3 ≤ 100; decide) rfl (by walk_at "b") (by walk_at "b") (by decide) (by decide) (List.getElem?_set_self (by omega)) d1 fun v2 W2 e2 d2 => ?_
      rw [List.set_set]
      refine su_more (f := 4) (ys := nmsC) (v := v2) S hx hC hz hf (by rw [List.getElem?_set_ne (by decide)]; exact hτ) (.cons (.cons (.cons .nil))) (hy _ (by simp)) (by decide) (by show 6 ≤ 100; decide) rfl (by walk_at "b") (by walk_at "b") (by decide) (by decide) (List.getElem?_set_self (by omega)) d2 fun v3 W3 e3 d3 => ?_
      rw [List.set_set]
      exact ss_nil (hS v3 W3 ((e1.trans e2).trans e3) d3)
    · refine run_exprE (y := p.1) (erx (er_call F2 (by walk_at "ea") ⟨mode, odd, p, hom, hm.1, hm.2, hp, rfl, rfl⟩ (by walk_at "j") (by walk_at "b"))) ?_
      have hpx : p ∈ [(("InvalidHours" : Str), (0 : Int)), ("InvalidRow", 1), ("HasZeroPart", 5), ("InvalidNumber", 2)] := by
        have all : ∀ p ∈ askX, p ∈ [(("InvalidHours" : Str), (0 : Int)), ("InvalidRow", 1), ("HasZeroPart", 5), ("InvalidNumber", 2)] := by decide +kernel
        exact all p hpm
      refine ⟨?_, ?_, by walk_at "j", rfl, ?_⟩
      · have all : ∀ p ∈ askX, p.1 ∈ clsL := by decide +kernel
        exact all p hpm
      · have all : ∀ p ∈ askX, subC p.1 "ClockError" = true := by decide +kernel
        exact all p hpm
      · show Run _ [some (pL ns), some (.int mode), some odd, some (.int p.2), some (.list _), none, none] _ _ _
        refine run_ret (d := .bool true) (Ev.cast (ev_eq (da := .list ((nmsA.map fun y => PyData.bool (subC p.1 y)) ++ (nmsB.map fun y => PyData.bool (subC p.1 y)) ++ (nmsC.map fun y => PyData.bool (subC p.1 y)))) (db := .list ((rng 0 9).map fun z => PyData.bool (decide (z = p.2)))) (by walk_at "n") (EvL.ev (el_lcI0 6 rfl (l := rng 0 9) (f := fun z => .bool (decide (z = p.2))) (ei_rng1 ev_int (by assumption) (by walk_at "b") (by decide) (by decide)) (by decide) (by walk_at "b") (by walk_at "b") (fun z hz => ev_eqI (by walk_at "n") (by walk_at "n")))) ?_ ?_) ?_) rfl
        · exact (shp_list (n := 0) fun x hx => by
            rcases List.mem_append.mp hx with hx | hx
            · rcases List.mem_append.mp hx with hx | hx
              · obtain ⟨_, _, rfl⟩ := List.mem_map.mp hx; exact shp_bool
              · obtain ⟨_, _, rfl⟩ := List.mem_map.mp hx; exact shp_bool
            · obtain ⟨_, _, rfl⟩ := List.mem_map.mp hx; exact shp_bool).ok
        · exact (shp_list (n := 0) fun x hx => by obtain ⟨_, _, rfl⟩ := List.mem_map.mp hx; exact shp_bool).ok
        · refine congrArg PyData.bool ?_
          simp only [List.mem_cons, List.not_mem_nil, or_false] at hpx
          rcases hpx with rfl | rfl | rfl | rfl <;> decide +kernel
  · exact fun _ => rfl

end
def dD (i : Nat) (x : Str) : He.DefD := ⟨(x, none), x, x, defArgs (topS i), defBody (topS i), defScope (topS i), [], []⟩
def fnL : List He.DefD := [dD 14 "in_range", dD 15 "check_hours", dD 16 "is_row_of", dD 17 "is_row", dD 18 "check_row", dD 19 "reached", dD 20 "sums", dD 21 "part_sum", dD 22 "is_part", dD 23 "is_zero_part", dD 24 "check_free", dD 26 "arranged", dD 27 "check_place", dD 28 "join", dD 29 "split", dD 30 "near_of", dD 31 "road", dD 33 "free_rows", dD 34 "check_small", dD 35 "all_free", dD 36 "check_answers", dD 37 "candidates", dD 38 "best_remainder", dD 40 "_law_cell", dD 41 "_law_asked", dD 42 "law"]
def faL : List He.Fa := [.glo "in_range", .glo "check_hours", .glo "is_row_of", .glo "is_row", .glo "check_row", .glo "reached", .glo "sums", .glo "part_sum", .glo "is_part", .glo "is_zero_part", .glo "check_free", .glo "arranged", .glo "check_place", .glo "join", .glo "split", .glo "near_of", .glo "road", .glo "free_rows", .glo "check_small", .glo "all_free", .glo "check_answers", .glo "candidates", .glo "best_remainder", .glo "_law_cell", .glo "_law_asked", .glo "law", .glo "ClockError", .exc "ClockError", .glo "InvalidHours", .exc "InvalidHours", .glo "InvalidRow", .exc "InvalidRow", .glo "InvalidNumber", .exc "InvalidNumber", .glo "InvalidAnswers", .exc "InvalidAnswers", .glo "NoZeroPart", .exc "NoZeroPart", .glo "HasZeroPart", .exc "HasZeroPart", .glo "NoMultiplier", .exc "NoMultiplier", .glo "CannotSplit", .exc "CannotSplit", .glo "NoRoad", .exc "NoRoad", .int "MAX_HOURS" 12, .int "MAX_LENGTH" 11, .free "bool", .free "enumerate", .free "int", .free "isinstance", .free "len", .free "max", .free "range", .free "sorted", .free "sum", .free "tuple", .free "zip"]
def loose0 : List Str := ["ClockError", "InvalidHours", "InvalidRow", "InvalidNumber", "InvalidAnswers", "NoZeroPart", "HasZeroPart", "NoMultiplier", "CannotSplit", "NoRoad", "MAX_HOURS", "MAX_LENGTH", "in_range", "check_hours", "is_row_of", "is_row", "check_row", "reached", "sums", "part_sum"]
def loose1 : List Str := ["is_part", "is_zero_part", "check_free", "arranged", "check_place", "join", "split", "near_of", "road", "free_rows", "check_small", "all_free", "check_answers", "candidates", "best_remainder", "_law_cell", "_law_asked"]
def looseL : List Str := loose0 ++ loose1
abbrev RR : PySem.W.OpenRow := PySem.W.OpenLaw.row PySem.Challenge.rw_clocksums_k17_first_exception
abbrev hk : PySem.W.Hook := He.hookX 4 faL fnL [] [] (kxB clsL)
def ob (s : PySem.W.SharedT) : He.AlX := He.obsX 4 faL fnL [] [] (kxB clsL) (HandSHeadRun.getT s)
theorem ob_eq (s : PySem.W.SharedT) : ob s = hk.obs s.abs := He.obsX_eq (HandSHeadRun.getT_eq s)
set_option maxHeartbeats 0 in
theorem run (w : World) : HandSHeadRun.RunEq RR (PySem.W.view RR.prog [42]) hk ob 6000 looseL w := by
  intro os
  kernel_rfl
theorem txt_of {P : Program} {w : World} {K : PySem.W.Frag} {h base : Heap} {mg : Str → Option Value} (X : K.In h) (G : h.Ns mainGlobals mg) (c : He.SaysD faL fnL K) (ex : kxB clsL K = true) : Txt ⟨P, w, K, mg, base⟩ where
  b := ⟨He.free_ok X G (c.fact 48 rfl), He.free_ok X G (c.fact 49 rfl), He.free_ok X G (c.fact 50 rfl), He.free_ok X G (c.fact 51 rfl), He.free_ok X G (c.fact 52 rfl), He.free_ok X G (c.fact 53 rfl), He.free_ok X G (c.fact 54 rfl), He.free_ok X G (c.fact 55 rfl), He.free_ok X G (c.fact 56 rfl), He.free_ok X G (c.fact 57 rfl), He.free_ok X G (c.fact 58 rfl), He.int_ok X G (c.fact 46 rfl), He.int_ok X G (c.fact 47 rfl)⟩
  d_in_range := by
    obtain ⟨fd, F⟩ := c.def_ 0 (d := dD 14 "in_range") rfl
    exact ⟨_, fd, F, He.glo_ok X G (c.fact 0 rfl)⟩
  d_check_hours := by
    obtain ⟨fd, F⟩ := c.def_ 1 (d := dD 15 "check_hours") rfl
    exact ⟨_, fd, F, He.glo_ok X G (c.fact 1 rfl)⟩
  d_is_row_of := by
    obtain ⟨fd, F⟩ := c.def_ 2 (d := dD 16 "is_row_of") rfl
    exact ⟨_, fd, F, He.glo_ok X G (c.fact 2 rfl)⟩
  d_is_row := by
    obtain ⟨fd, F⟩ := c.def_ 3 (d := dD 17 "is_row") rfl
    exact ⟨_, fd, F, He.glo_ok X G (c.fact 3 rfl)⟩
  d_check_row := by
    obtain ⟨fd, F⟩ := c.def_ 4 (d := dD 18 "check_row") rfl
    exact ⟨_, fd, F, He.glo_ok X G (c.fact 4 rfl)⟩
  d_reached := by
    obtain ⟨fd, F⟩ := c.def_ 5 (d := dD 19 "reached") rfl
    exact ⟨_, fd, F, He.glo_ok X G (c.fact 5 rfl)⟩
  d_sums := by
    obtain ⟨fd, F⟩ := c.def_ 6 (d := dD 20 "sums") rfl
    exact ⟨_, fd, F, He.glo_ok X G (c.fact 6 rfl)⟩
  d_part_sum := by
    obtain ⟨fd, F⟩ := c.def_ 7 (d := dD 21 "part_sum") rfl
    exact ⟨_, fd, F, He.glo_ok X G (c.fact 7 rfl)⟩
  d_is_part := by
    obtain ⟨fd, F⟩ := c.def_ 8 (d := dD 22 "is_part") rfl
    exact ⟨_, fd, F, He.glo_ok X G (c.fact 8 rfl)⟩
  d_is_zero_part := by
    obtain ⟨fd, F⟩ := c.def_ 9 (d := dD 23 "is_zero_part") rfl
    exact ⟨_, fd, F, He.glo_ok X G (c.fact 9 rfl)⟩
  d_check_free := by
    obtain ⟨fd, F⟩ := c.def_ 10 (d := dD 24 "check_free") rfl
    exact ⟨_, fd, F, He.glo_ok X G (c.fact 10 rfl)⟩
  d_arranged := by
    obtain ⟨fd, F⟩ := c.def_ 11 (d := dD 26 "arranged") rfl
    exact ⟨_, fd, F, He.glo_ok X G (c.fact 11 rfl)⟩
  d_check_place := by
    obtain ⟨fd, F⟩ := c.def_ 12 (d := dD 27 "check_place") rfl
    exact ⟨_, fd, F, He.glo_ok X G (c.fact 12 rfl)⟩
  d_join := by
    obtain ⟨fd, F⟩ := c.def_ 13 (d := dD 28 "join") rfl
    exact ⟨_, fd, F, He.glo_ok X G (c.fact 13 rfl)⟩
  d_split := by
    obtain ⟨fd, F⟩ := c.def_ 14 (d := dD 29 "split") rfl
    exact ⟨_, fd, F, He.glo_ok X G (c.fact 14 rfl)⟩
  d_near_of := by
    obtain ⟨fd, F⟩ := c.def_ 15 (d := dD 30 "near_of") rfl
    exact ⟨_, fd, F, He.glo_ok X G (c.fact 15 rfl)⟩
  d_road := by
    obtain ⟨fd, F⟩ := c.def_ 16 (d := dD 31 "road") rfl
    exact ⟨_, fd, F, He.glo_ok X G (c.fact 16 rfl)⟩
  d_free_rows := by
    obtain ⟨fd, F⟩ := c.def_ 17 (d := dD 33 "free_rows") rfl
    exact ⟨_, fd, F, He.glo_ok X G (c.fact 17 rfl)⟩
  d_check_small := by
    obtain ⟨fd, F⟩ := c.def_ 18 (d := dD 34 "check_small") rfl
    exact ⟨_, fd, F, He.glo_ok X G (c.fact 18 rfl)⟩
  d_all_free := by
    obtain ⟨fd, F⟩ := c.def_ 19 (d := dD 35 "all_free") rfl
    exact ⟨_, fd, F, He.glo_ok X G (c.fact 19 rfl)⟩
  d_check_answers := by
    obtain ⟨fd, F⟩ := c.def_ 20 (d := dD 36 "check_answers") rfl
    exact ⟨_, fd, F, He.glo_ok X G (c.fact 20 rfl)⟩
  d_candidates := by
    obtain ⟨fd, F⟩ := c.def_ 21 (d := dD 37 "candidates") rfl
    exact ⟨_, fd, F, He.glo_ok X G (c.fact 21 rfl)⟩
  d_best_remainder := by
    obtain ⟨fd, F⟩ := c.def_ 22 (d := dD 38 "best_remainder") rfl
    exact ⟨_, fd, F, He.glo_ok X G (c.fact 22 rfl)⟩
  d__law_cell := by
    obtain ⟨fd, F⟩ := c.def_ 23 (d := dD 40 "_law_cell") rfl
    exact ⟨_, fd, F, He.glo_ok X G (c.fact 23 rfl)⟩
  d__law_asked := by
    obtain ⟨fd, F⟩ := c.def_ 24 (d := dD 41 "_law_asked") rfl
    exact ⟨_, fd, F, He.glo_ok X G (c.fact 24 rfl)⟩
  d_law := by
    obtain ⟨fd, F⟩ := c.def_ 25 (d := dD 42 "law") rfl
    exact ⟨_, fd, F, He.glo_ok X G (c.fact 25 rfl)⟩
  x_ClockError := by
    obtain ⟨h1, h2, h3, h4⟩ := He.exc_ok (c.fact 27 rfl)
    exact ⟨_, He.glo_ok X G (c.fact 26 rfl), h1, h2, h3, h4⟩
  x_InvalidHours := by
    obtain ⟨h1, h2, h3, h4⟩ := He.exc_ok (c.fact 29 rfl)
    exact ⟨_, He.glo_ok X G (c.fact 28 rfl), h1, h2, h3, h4⟩
  x_InvalidRow := by
    obtain ⟨h1, h2, h3, h4⟩ := He.exc_ok (c.fact 31 rfl)
    exact ⟨_, He.glo_ok X G (c.fact 30 rfl), h1, h2, h3, h4⟩
  x_InvalidNumber := by
    obtain ⟨h1, h2, h3, h4⟩ := He.exc_ok (c.fact 33 rfl)
    exact ⟨_, He.glo_ok X G (c.fact 32 rfl), h1, h2, h3, h4⟩
  x_InvalidAnswers := by
    obtain ⟨h1, h2, h3, h4⟩ := He.exc_ok (c.fact 35 rfl)
    exact ⟨_, He.glo_ok X G (c.fact 34 rfl), h1, h2, h3, h4⟩
  x_NoZeroPart := by
    obtain ⟨h1, h2, h3, h4⟩ := He.exc_ok (c.fact 37 rfl)
    exact ⟨_, He.glo_ok X G (c.fact 36 rfl), h1, h2, h3, h4⟩
  x_HasZeroPart := by
    obtain ⟨h1, h2, h3, h4⟩ := He.exc_ok (c.fact 39 rfl)
    exact ⟨_, He.glo_ok X G (c.fact 38 rfl), h1, h2, h3, h4⟩
  x_NoMultiplier := by
    obtain ⟨h1, h2, h3, h4⟩ := He.exc_ok (c.fact 41 rfl)
    exact ⟨_, He.glo_ok X G (c.fact 40 rfl), h1, h2, h3, h4⟩
  x_CannotSplit := by
    obtain ⟨h1, h2, h3, h4⟩ := He.exc_ok (c.fact 43 rfl)
    exact ⟨_, He.glo_ok X G (c.fact 42 rfl), h1, h2, h3, h4⟩
  x_NoRoad := by
    obtain ⟨h1, h2, h3, h4⟩ := He.exc_ok (c.fact 45 rfl)
    exact ⟨_, He.glo_ok X G (c.fact 44 rfl), h1, h2, h3, h4⟩
  kx := kx_of ex (by
    intro x hx
    simp only [clsL, List.mem_cons, List.not_mem_nil, or_false] at hx
    rcases hx with rfl | rfl | rfl | rfl | rfl | rfl | rfl | rfl | rfl | rfl
    · exact He.glo_ok X G (c.fact 26 rfl)
    · exact He.glo_ok X G (c.fact 28 rfl)
    · exact He.glo_ok X G (c.fact 30 rfl)
    · exact He.glo_ok X G (c.fact 32 rfl)
    · exact He.glo_ok X G (c.fact 34 rfl)
    · exact He.glo_ok X G (c.fact 36 rfl)
    · exact He.glo_ok X G (c.fact 38 rfl)
    · exact He.glo_ok X G (c.fact 40 rfl)
    · exact He.glo_ok X G (c.fact 42 rfl)
    · exact He.glo_ok X G (c.fact 44 rfl)
    )
end CS
open PySem PySem.W PySem.Calls PyProof.Rows
set_option maxRecDepth 100000 in
set_option maxHeartbeats 0 in
theorem PySem.Challenge.cw_clocksums_k17_first_exception_holds : PySem.Challenge.rw_clocksums_k17_first_exception.Holds := by
  w_on; o_law
  refine HandSHeadRun.head_any (r := OpenLaw.row PySem.Challenge.rw_clocksums_k17_first_exception) (q := view (OpenLaw.row PySem.Challenge.rw_clocksums_k17_first_exception).prog [42]) (H := CS.hk) (ob := CS.ob) (M := 6000) (loose := CS.looseL) (d := HandSHeadRun.topDef (OpenLaw.row PySem.Challenge.rw_clocksums_k17_first_exception).prog 42) (kwd := []) CS.ob_eq
    (by kernel_rfl) (fun s => by kernel_rfl) CS.run (by kernel_rfl) (by kernel_rfl) (by kernel_rfl) (by rfl) (by first | assumption | decide +kernel) (by decide +kernel) ⟨rfl, rfl, rfl, rfl, rfl, by decide +kernel⟩ ?hw ?hc
  case hw => w_witness2
  case hc =>
    refine L2.walk_ofE (l := PySem.Challenge.rw_clocksums_k17_first_exception) (n := 63) (k := 7) (x := "script") (CX := L2.CX0) rfl (by decide) (by kernel_rfl) ⟨rfl, by decide, by decide⟩ ?F (fun _ _ _ _ z => z)
    intro w mg fa h Y G hmg0
    obtain ⟨K, KX, c⟩ := Y
    have hmg : mg ("law" : PySem.Str) = some (.ref fa) := by
      have e : (HandSHeadRun.topDef (OpenLaw.row PySem.Challenge.rw_clocksums_k17_first_exception).prog 42).name = ("law" : PySem.Str) := by kernel_rfl
      rw [← e]
      exact hmg0
    exact CS.law_end (P := (PySem.Challenge.rw_clocksums_k17_first_exception).prog) (fun base => CS.f_law (CS.txt_of (base := base) KX G c.t.d c.more)) (CS.txt_of (P := (PySem.Challenge.rw_clocksums_k17_first_exception).prog) (w := w) (base := h) KX G c.t.d c.more).d_law CS.bd_law KX hmg
