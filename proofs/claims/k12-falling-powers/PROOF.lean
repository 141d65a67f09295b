import PyProof.Rows.All
import Wide.All
import OpenK.AllK
import Wide.FinOn
import PySem.Challenge.RW_anyring_k12_falling_powers_by_difference
import HandS.ForMost
import HandS.Evl
import HandS.IsInst
import HandS.TupAny
import HandS.Wide
import HandS.Zip
import HandS.Walk
import KE.GoesNew
import KE.GoesNewDict
import KE.KDictWalk
import HandS.Style
import HandS.SortKw
import HandS.TupLe
import KE.KSortKeySt
import HandS.SortRule
import KE.KDictPairs
import KE.KTupSum
import PyProof.Rows.TupDisplay
import HandS.MakeKwOnly
set_option Elab.async false
set_option Elab.async false
set_option linter.all false
set_option maxRecDepth 100000
set_option maxHeartbeats 4000000
/-! CoreA: what an expression comes to, over deep data: judgements without the heap in sight. -/
namespace R1
open PySem PySem.Spec PyProof.Rows L2 Evl

/-! ### the weakest readings -/
def WE (X : Cx) (e : Expr) : TE := fun σ H Q => ∀ (pins : List (Addr × Obj)) (s : Shared), Inv X pins σ H s → wpAny (model X.prog X.w) X.A (eval e X.env) (EP X pins σ Q) X.xe s
def WT (X : Cx) (e : Expr) : TT := fun σ H Q => ∀ (pins : List (Addr × Obj)) (s : Shared), Inv X pins σ H s → wpAny (model X.prog X.w) X.A (isTrue e X.env (eval e X.env)) (TP X pins σ Q) X.xe s
def WA (X : Cx) (es : List Expr) : TA := fun σ H Q => ∀ (pos : Pos) (pins : List (Addr × Obj)) (s : Shared), Inv X pins σ H s → wpAny (model X.prog X.w) X.A (spliced (backTo pos (starEach es X.env))) (AP X pins σ Q) X.xe s
def WSs (X : Cx) (b : List Stmt) : TS := fun D σ H => ∀ (pins : List (Addr × Obj)) (s : Shared), Inv X pins σ H s → wpAny (model X.prog X.w) X.A (execs b X.env) (SP X pins D) X.xe s
section
variable {X : Cx} {e : Expr} {es : List Expr} {b : List Stmt} {σ : L2.St} {H : Hp} {te : TE} {tt : TT} {ta : TA} {ts : TS} {Q Q' : VK}
theorem pe_we : PE X e (WE X e) := ⟨fun pins s _ _ _ I h => h pins s I⟩
theorem pt_wt : PT X e (WT X e) := ⟨fun pins s _ _ _ I h => h pins s I⟩
theorem pa_wa : PA X es (WA X es) := ⟨fun pos pins s _ _ _ I h => h pos pins s I⟩
theorem ps_ws : PSs X b (WSs X b) := ⟨fun pins s _ _ _ I h => h pins s I⟩
theorem we_of (h : PE X e te) (q : te σ H Q) : WE X e σ H Q := fun pins s I => h.run pins s σ H Q I q
theorem wt_of {Q : Bool → Hp → Prop} (h : PT X e tt) (q : tt σ H Q) : WT X e σ H Q := fun pins s I => h.run pins s σ H Q I q
theorem wa_of {Q : List V → Hp → Prop} (h : PA X es ta) (q : ta σ H Q) : WA X es σ H Q := fun pos pins s I => h.run pos pins s σ H Q I q
theorem ws_of {D : Ends} (h : PSs X b ts) (q : ts D σ H) : WSs X b D σ H := fun pins s I => h.run pins s σ H D I q
theorem we_mono (h : WE X e σ H Q) (k : ∀ v H', Q v H' → Q' v H') : WE X e σ H Q' := fun pins s I =>
  thn (h pins s I) fun _ _ ⟨v, H', I', r, q⟩ => ⟨v, H', I', r, k v H' q⟩
theorem wt_mono {Q Q' : Bool → Hp → Prop} (h : WT X e σ H Q) (k : ∀ v H', Q v H' → Q' v H') : WT X e σ H Q' := fun pins s I =>
  thn (h pins s I) fun _ _ ⟨H', I', q⟩ => ⟨H', I', k _ H' q⟩
end

/-! ### data -/
mutual
inductive Rp (I : Hp) : V → PyData → Prop
  | non : Rp I .non .none
  | bl (b : Bool) : Rp I (.bl b) (.bool b)
  | int (i : Int) : Rp I (.int i) (.int i)
  | str (x : Str) : Rp I (.str x) (.str x)
  | lst {a : Addr} {xs : List V} {ds : List PyData} : I a = some (.lst xs) → RpAll I xs ds → Rp I (.ref a) (.list ds)
  | tup {a : Addr} {xs : List V} {ds : List PyData} : I a = some (.tup xs) → RpAll I xs ds → Rp I (.ref a) (.tuple ds)
  | dct {a : Addr} {o : Obj} {ws : List (List L2.Key × V)} {kvs : List (PyData × PyData)} : I a = some (.frz o (.dT ws)) → RpPs I ws kvs → Rp I (.ref a) (.dict kvs)
inductive RpAll (I : Hp) : List V → List PyData → Prop
  | nil : RpAll I [] []
  | cons {v : V} {vs : List V} {d : PyData} {ds : List PyData} : Rp I v d → RpAll I vs ds → RpAll I (v :: vs) (d :: ds)
inductive RpPs (I : Hp) : List (List L2.Key × V) → List (PyData × PyData) → Prop
  | nil : RpPs I [] []
  | cons {p : List Int} {v : V} {d : PyData} {ws : List (List L2.Key × V)} {kvs : List (PyData × PyData)} : Rp I v d → RpPs I ws kvs → RpPs I ((p.map Sum.inl, v) :: ws) ((.tuple (p.map .int), d) :: kvs)
end
mutual
theorem Rp.mono {I J : Hp} (e : Ex I J) : ∀ {v : V} {d : PyData}, Rp I v d → Rp J v d
  | _, _, .non => .non
  | _, _, .bl _ => .bl _
  | _, _, .int _ => .int _
  | _, _, .str _ => .str _
  | _, _, .lst h hs => .lst (e _ _ h) (RpAll.mono e hs)
  | _, _, .tup h hs => .tup (e _ _ h) (RpAll.mono e hs)
  | _, _, .dct h hs => .dct (e _ _ h) (RpPs.mono e hs)
theorem RpAll.mono {I J : Hp} (e : Ex I J) : ∀ {vs : List V} {ds : List PyData}, RpAll I vs ds → RpAll J vs ds
  | _, _, .nil => .nil
  | _, _, .cons h hs => .cons (Rp.mono e h) (RpAll.mono e hs)
theorem RpPs.mono {I J : Hp} (e : Ex I J) : ∀ {vs : List (List L2.Key × V)} {ds : List (PyData × PyData)}, RpPs I vs ds → RpPs J vs ds
  | _, _, .nil => .nil
  | _, _, .cons h hs => .cons (Rp.mono e h) (RpPs.mono e hs)
end
mutual
theorem Rp.dp {K : PySem.W.Frag} {I J : Hp} (e : Ex I J) : ∀ (d : PyData) {v : V}, PyData.canLay0 d = true → Rp I v d → Dp K J v d
  | .none, _, _, .non => .non
  | .bool _, _, _, .bl _ => .bl _
  | .int _, _, _, .int _ => .int _
  | .str _, _, _, .str _ => .str _
  | .list ds, _, c, .lst h hs => .lst (SqL.of (e _ _ h)) (RpAll.dp e ds c hs)
  | .tuple ds, _, c, .tup h hs => .tup (SqT.of (e _ _ h)) (RpAll.dp e ds c hs)
  | .dict _, _, c, _ => nomatch c
theorem RpAll.dp {K : PySem.W.Frag} {I J : Hp} (e : Ex I J) : ∀ (ds : List PyData) {vs : List V}, PyData.canLayAll0 ds = true → RpAll I vs ds → DpAll K J vs ds
  | [], _, _, .nil => .nil
  | d :: ds, _, c, .cons h hs => .cons (Rp.dp e d (Bool.and_eq_true_iff.mp c).1 h) (RpAll.dp e ds (Bool.and_eq_true_iff.mp c).2 hs)
end
section
variable {I J H H' H1 H2 : Hp} {v : V} {vs us : List V} {d : PyData} {ds es : List PyData}
theorem Rp.up (e : Ex I J) (h : Rp I v d) : Rp J v d := Rp.mono e h
theorem RpAll.up (e : Ex I J) (h : RpAll I vs ds) : RpAll J vs ds := RpAll.mono e h
theorem RpAll.length : ∀ {vs : List V} {ds : List PyData}, RpAll I vs ds → vs.length = ds.length
  | _, _, .nil => rfl
  | _, _, .cons _ h => congrArg (· + 1) h.length
theorem RpAll.get : ∀ {vs : List V} {ds : List PyData} {i : Nat} {d : PyData}, RpAll I vs ds → ds[i]? = some d → ∃ v, vs[i]? = some v ∧ Rp I v d
  | _, _, _, _, .nil, e => by simp at e
  | _, _, 0, _, .cons h _, e => by
    obtain rfl := Option.some.inj e
    exact ⟨_, rfl, h⟩
  | _, _, i + 1, _, .cons _ hs, e => RpAll.get (i := i) hs e
theorem RpAll.getV : ∀ {vs : List V} {ds : List PyData} {i : Nat} {v : V}, RpAll I vs ds → vs[i]? = some v → ∃ d, ds[i]? = some d ∧ Rp I v d
  | _, _, _, _, .nil, e => by simp at e
  | _, _, 0, _, .cons h _, e => by
    obtain rfl := Option.some.inj e
    exact ⟨_, rfl, h⟩
  | _, _, i + 1, _, .cons _ hs, e => RpAll.getV (i := i) hs e
theorem RpAll.append : ∀ {vs us : List V} {ds es : List PyData}, RpAll I vs ds → RpAll I us es → RpAll I (vs ++ us) (ds ++ es)
  | _, _, _, _, .nil, k => k
  | _, _, _, _, .cons h hs, k => .cons h (hs.append k)
theorem RpAll.snoc (h : RpAll I vs ds) (k : Rp I v d) : RpAll I (vs ++ [v]) (ds ++ [d]) := h.append (.cons k .nil)
theorem RpAll.drop : ∀ {vs : List V} {ds : List PyData} (n : Nat), RpAll I vs ds → RpAll I (vs.drop n) (ds.drop n)
  | _, _, 0, h => h
  | _, _, _ + 1, .nil => .nil
  | _, _, n + 1, .cons _ hs => RpAll.drop n hs
theorem RpAll.take : ∀ {vs : List V} {ds : List PyData} (n : Nat), RpAll I vs ds → RpAll I (vs.take n) (ds.take n)
  | _, _, 0, h => .nil
  | _, _, _ + 1, .nil => .nil
  | _, _, n + 1, .cons h hs => .cons h (RpAll.take n hs)
theorem RpAll.set : ∀ {vs : List V} {ds : List PyData} (i : Nat), RpAll I vs ds → Rp I v d → RpAll I (vs.set i v) (ds.set i d)
  | _, _, _, .nil, _ => .nil
  | _, _, 0, .cons _ hs, k => .cons k hs
  | _, _, i + 1, .cons h hs, k => .cons h (RpAll.set i hs k)
theorem RpAll.ints : ∀ {ns : List Int} {vs : List V}, RpAll I vs (ns.map PyData.int) → vs = ns.map V.int
  | [], _, .nil => rfl
  | n :: ns, _, .cons (.int _) hs => by rw [List.map_cons, hs.ints]
theorem rpAll_ints : ∀ (ns : List Int), RpAll I (ns.map V.int) (ns.map PyData.int)
  | [] => .nil
  | n :: ns => .cons (.int n) (rpAll_ints ns)
theorem RpAll.bools : ∀ {ns : List Bool} {vs : List V}, RpAll I vs (ns.map PyData.bool) → vs = ns.map V.bl
  | [], _, .nil => rfl
  | n :: ns, _, .cons (.bl _) hs => by rw [List.map_cons, hs.bools]
theorem Rp.tupI {ns : List Int} (h : Rp I v (.tuple (ns.map PyData.int))) : ∃ a, v = .ref a ∧ I a = some (.tup (ns.map V.int)) := by
  cases h with
  | tup h hs => exact ⟨_, rfl, by rw [hs.ints] at h; exact h⟩
end

/-! ### what is known for good (Im), and the heap -/
/-- at a stands what may change: no tuple -/
def Ob (H : Hp) (a : Addr) : Prop := ∃ o, H a = some o ∧ ∀ xs, o ≠ .tup xs
theorem Ob.up {H H' : Hp} {a : Addr} (e : Ex H H') (h : Ob H a) : Ob H' a := let ⟨o, q, t⟩ := h; ⟨o, e a o q, t⟩
theorem Ob.ne {H : Hp} {a p : Addr} (h : Ob H a) (hp : H p = none) : a ≠ p := fun z => by
  obtain ⟨o, q, _⟩ := h
  rw [z, hp] at q
  cases q
theorem Ob.some {H : Hp} {a : Addr} (h : Ob H a) : H a ≠ none := fun z => by
  obtain ⟨o, q, _⟩ := h
  rw [z] at q
  cases q
/-- from what is known for good (I, within H) to I' within H': nothing of H beyond I is taken for good but tuples -/
structure Nw (I H I' H' : Hp) : Prop where
  i : Ex I I'
  j : Ex I' H'
  h : Ex H H'
  k : ∀ a, I a = none → Ob H a → I' a = none
section
variable {I J H I' H' I1 H1 I2 H2 : Hp} {p : Addr} {o : HO}
theorem Nw.refl (h : Ex I H) : Nw I H I H := ⟨Ex.refl I, h, Ex.refl H, fun _ e _ => e⟩
theorem ex_some {a : Addr} (e : Ex I H) (h : I a ≠ none) : H a ≠ none := by
  intro z
  cases q : I a with
  | none => exact h q
  | some o => rw [e a o q] at z; cases z
theorem Nw.trans (a : Nw I H I1 H1) (b : Nw I1 H1 I2 H2) : Nw I H I2 H2 :=
  ⟨a.i.trans b.i, b.j, a.h.trans b.h, fun x e n => b.k x (a.k x e n) (n.up a.h)⟩
/-- a new thing is known for good -/
theorem Nw.new (e : Ex I H) (hp : H p = none) : Nw I H (upd I p o) (upd H p o) := by
  have hi : I p = none := fresh_back e hp
  refine ⟨Ex.new hi, fun a u q => ?_, Ex.new hp, fun a e n => ?_⟩
  · by_cases h : a = p
    · subst h; rw [upd_same] at q ⊢; exact q
    · rw [upd_ne h] at q ⊢; exact e a u q
  · have h : a ≠ p := n.ne hp
    rw [upd_ne h]; exact e
/-- a new thing that may change -/
theorem Nw.own (e : Ex I H) (hp : H p = none) : Nw I H I (upd H p o) := ⟨Ex.refl I, e.trans (Ex.new hp), Ex.new hp, fun _ e _ => e⟩
theorem Nw.grow (e : Ex I H) (h : Ex H H') : Nw I H I H' := ⟨Ex.refl I, e.trans h, h, fun _ e _ => e⟩
/-- what may change, beyond what is known for good, stays where nothing is touched -/
theorem Nw.keep (n : Nw I H I' H') (h : H p = some o) (hi : I p = none) (ht : ∀ xs, o ≠ .tup xs := by intro _ z; cases z) : H' p = some o ∧ I' p = none :=
  ⟨n.h p o h, n.k p hi ⟨o, h, ht⟩⟩
theorem Nw.e (n : Nw I H I' H') : Ex I' H' := n.j
theorem ex_mut (e : Ex I H) (hi : I p = none) : Ex I (upd H p o) := Ex.mut e hi
end

/-! ### slots -/
abbrev Ro := List (Option PyData)
structure VS (I : Hp) (σ : L2.St) (ρ : Ro) : Prop where
  len : σ.length = ρ.length
  at' : ∀ (i : Nat) (d : PyData), ρ[i]? = some (some d) → ∃ v, σ[i]? = some (some v) ∧ Rp I v d
section
variable {I J : Hp} {σ : L2.St} {ρ : Ro} {v : V} {d : PyData} {i : Nat}
theorem VS.up (e : Ex I J) (h : VS I σ ρ) : VS J σ ρ := ⟨h.len, fun i d q => let ⟨v, a, b⟩ := h.at' i d q; ⟨v, a, b.up e⟩⟩
theorem VS.set (h : VS I σ ρ) (r : Rp I v d) : VS I (σ.set i (some v)) (ρ.set i (some d)) := by
  refine ⟨by rw [List.length_set, List.length_set, h.len], fun j d' q => ?_⟩
  by_cases e : i = j
  · subst e
    have hl : i < ρ.length := by
      have := (List.getElem?_eq_some_iff.mp q).1
      rwa [List.length_set] at this
    rw [List.getElem?_set_self hl] at q
    cases q
    exact ⟨v, List.getElem?_set_self (by rw [h.len]; exact hl), r⟩
  · rw [List.getElem?_set_ne e] at q
    obtain ⟨u, a, b⟩ := h.at' j d' q
    exact ⟨u, by rw [List.getElem?_set_ne e]; exact a, b⟩
theorem VS.forget (h : VS I σ ρ) (i : Nat) (x : Option V) : VS I (σ.set i x) (ρ.set i none) := by
  refine ⟨by rw [List.length_set, List.length_set, h.len], fun j d' q => ?_⟩
  by_cases e : i = j
  · subst e
    have hl : i < ρ.length := by
      have := (List.getElem?_eq_some_iff.mp q).1
      rwa [List.length_set] at this
    rw [List.getElem?_set_self hl] at q
    cases q
  · rw [List.getElem?_set_ne e] at q
    obtain ⟨u, a, b⟩ := h.at' j d' q
    exact ⟨u, by rw [List.getElem?_set_ne e]; exact a, b⟩
/-- less is said -/
theorem VS.less {ρ' : Ro} (h : VS I σ ρ) (hl : ρ'.length = ρ.length) (hw : ∀ (i : Nat) (d : PyData), ρ'[i]? = some (some d) → ρ[i]? = some (some d)) : VS I σ ρ' := ⟨by rw [h.len, hl], fun i d q => h.at' i d (hw i d q)⟩
theorem vs_start : ∀ {vs : List V} {ds : List PyData} (n : Nat), RpAll I vs ds → VS I (vs.map some ++ List.replicate n none) (ds.map some ++ List.replicate n none) := fun {vs ds} n h => by
  refine ⟨by rw [List.length_append, List.length_append, List.length_map, List.length_map, h.length, List.length_replicate, List.length_replicate], fun i d q => ?_⟩
  by_cases e : i < ds.length
  · rw [List.getElem?_append_left (by rw [List.length_map]; exact e), List.getElem?_map] at q
    cases r : ds[i]? with
    | none => rw [r] at q; simp at q
    | some x =>
      rw [r] at q
      simp at q
      subst q
      obtain ⟨v, a, b⟩ := h.get r
      refine ⟨v, ?_, b⟩
      rw [List.getElem?_append_left (by rw [List.length_map, h.length]; exact e), List.getElem?_map, a]
      rfl
  · rw [List.getElem?_append_right (by rw [List.length_map]; omega)] at q
    rw [List.getElem?_replicate] at q
    split at q <;> simp at q
end

/-! ### judgements: in slots ρ the expression comes to d -/
def E (X : Cx) (ρ : Ro) (e : Expr) (d : PyData) : Prop := ∀ (I : Hp) (σ : L2.St) (H : Hp), Ex I H → VS I σ ρ → ∀ Q : VK, (∀ v I' H', Nw I H I' H' → Rp I' v d → Q v H') → WE X e σ H Q
def T (X : Cx) (ρ : Ro) (e : Expr) (b : Bool) : Prop := ∀ (I : Hp) (σ : L2.St) (H : Hp), Ex I H → VS I σ ρ → ∀ Q : Bool → Hp → Prop, (∀ I' H', Nw I H I' H' → Q b H') → WT X e σ H Q
def As (X : Cx) (ρ : Ro) (es : List Expr) (ds : List PyData) : Prop := ∀ (I : Hp) (σ : L2.St) (H : Hp), Ex I H → VS I σ ρ → ∀ Q : List V → Hp → Prop, (∀ vs I' H', Nw I H I' H' → RpAll I' vs ds → Q vs H') → WA X es σ H Q

section
variable {X : Cx} {ρ : Ro} {e a b c : Expr} {es : List Expr} {d d' : PyData} {ds : List PyData} {pos p : Pos} {i j k : Int} {x : Str}
theorem E.eq (h : E X ρ e d) (z : d = d') : E X ρ e d' := z ▸ h
theorem T.eq {k k' : Bool} (h : T X ρ e k) (z : k = k') : T X ρ e k' := z ▸ h
theorem e_of {te : TE} (h : PE X e te) (q : ∀ (I : Hp) (σ : L2.St) (H : Hp), Ex I H → VS I σ ρ → ∀ Q : VK, (∀ v I' H', Nw I H I' H' → Rp I' v d → Q v H') → te σ H Q) : E X ρ e d := fun I σ H x v Q k => we_of h (q I σ H x v Q k)
theorem t_of {te : TT} {b : Bool} (h : PT X e te) (q : ∀ (I : Hp) (σ : L2.St) (H : Hp), Ex I H → VS I σ ρ → ∀ Q : Bool → Hp → Prop, (∀ I' H', Nw I H I' H' → Q b H') → te σ H Q) : T X ρ e b := fun I σ H x v Q k => wt_of h (q I σ H x v Q k)
theorem e_name (n : Nat) {x : Str} (hN : X.N[n]? = some x) (hv : Vis X.env.scope x) (h : ρ[n]? = some (some d)) (hd : (x == ("__debug__" : Str)) = false := by decide) (hcd : (x == ("__classdict__" : Str)) = false := by decide) : E X ρ (.Name x p) d :=
  e_of (pe_var hN hv hd hcd) fun I σ H hx vs Q q => let ⟨v, s, r⟩ := vs.at' n d h; ⟨v, s, q v I H (.refl hx) r⟩
theorem e_int {j : Nat} : E X ρ (.Constant (.int i) j p) (.int i) := e_of pe_int fun I _ H hx _ _ q => q _ I H (.refl hx) (.int _)
theorem e_str {j : Nat} : E X ρ (.Constant (.str x) j p) (.str x) := e_of pe_str fun I _ H hx _ _ q => q _ I H (.refl hx) (.str _)
theorem e_bool {j : Nat} {k : Bool} : E X ρ (.Constant (.bool k) j p) (.bool k) := e_of pe_bl fun I _ H hx _ _ q => q _ I H (.refl hx) (.bl _)
theorem e_none {j : Nat} : E X ρ (.Constant .none j p) .none := e_of pe_non fun I _ H hx _ _ q => q _ I H (.refl hx) .non
/-- a module's constant -/
theorem e_globI {u : Tok} (hg : Gl X x) (hm : X.mg x = some (.int i u)) (hd : (x == ("__debug__" : Str)) = false := by decide) : E X ρ (.Name x p) (.int i) :=
  e_of (pe_glob (v := .int i) hg hm ⟨_, rfl⟩ hd) fun I _ H hx _ _ q => q _ I H (.refl hx) (.int _)
theorem e_globS {y : Str} {u : Tok} (hg : Gl X x) (hm : X.mg x = some (.str y u)) (hd : (x == ("__debug__" : Str)) = false := by decide) : E X ρ (.Name x p) (.str y) :=
  e_of (pe_glob (v := .str y) hg hm ⟨_, rfl⟩ hd) fun I _ H hx _ _ q => q _ I H (.refl hx) (.str _)
/-- two in a row -/
theorem e_two {r : R2} {dz : PyData} (h : PE X e (tOp r (WE X a) (WE X b))) (ha : E X ρ a d) (hb : E X ρ b d')
    (q : ∀ (I : Hp) (H : Hp), Ex I H → ∀ x y, Rp I x d → Rp I y d' → ∀ Q : VK, (∀ v I' H', Nw I H I' H' → Rp I' v dz → Q v H') → r x y H Q) : E X ρ e dz := e_of h fun I σ H hx vs Q k =>
  ha I σ H hx vs _ fun x I1 H1 n1 r1 => hb I1 σ H1 n1.j (vs.up n1.i) _ fun y I2 H2 n2 r2 => q I2 H2 n2.j x y (r1.up n2.i) r2 Q fun v I3 H3 n3 r3 => k v I3 H3 ((n1.trans n2).trans n3) r3
theorem e_op0 {op : Operator} {f : Int → Int → Int} (ho : OpR X (binaryOp op) (rI0 fun i j => .int (f i j))) (ha : E X ρ a (.int i)) (hb : E X ρ b (.int j)) : E X ρ (.BinOp a op b pos) (.int (f i j)) :=
  e_two (pe_op ho pe_we pe_we) ha hb fun I H hx x y rx ry Q q => by
    cases rx; cases ry
    exact ⟨i, j, rfl, rfl, q _ I H (.refl hx) (.int _)⟩
theorem e_opC {op : Operator} {C : Int → Int → Prop} {f : Int → Int → Int} (ho : OpR X (binaryOp op) (rI C fun i j => .int (f i j))) (ha : E X ρ a (.int i)) (hb : E X ρ b (.int j)) (hc : C i j) : E X ρ (.BinOp a op b pos) (.int (f i j)) :=
  e_two (pe_op ho pe_we pe_we) ha hb fun I H hx x y rx ry Q q => by
    cases rx; cases ry
    exact ⟨i, j, rfl, rfl, hc, q _ I H (.refl hx) (.int _)⟩
theorem e_add (ha : E X ρ a (.int i)) (hb : E X ρ b (.int j)) : E X ρ (.BinOp a .Add b pos) (.int (i + j)) := e_op0 op_add ha hb
theorem e_sub (ha : E X ρ a (.int i)) (hb : E X ρ b (.int j)) : E X ρ (.BinOp a .Sub b pos) (.int (i - j)) := e_op0 op_sub ha hb
theorem e_mul (ha : E X ρ a (.int i)) (hb : E X ρ b (.int j)) (hc : CMul i j) : E X ρ (.BinOp a .Mult b pos) (.int (i * j)) := e_opC op_mul ha hb hc
theorem e_fdiv (ha : E X ρ a (.int i)) (hb : E X ρ b (.int j)) (hc : CDivN i j) : E X ρ (.BinOp a .FloorDiv b pos) (.int (i.fdiv j)) := e_opC op_fdivN ha hb hc
theorem e_mod (ha : E X ρ a (.int i)) (hb : E X ρ b (.int j)) (hc : j ≠ 0) : E X ρ (.BinOp a .Mod b pos) (.int (i.fmod j)) := e_opC op_modN ha hb hc
theorem e_pow (ha : E X ρ a (.int i)) (hb : E X ρ b (.int j)) (hc : CPow i j) : E X ρ (.BinOp a .Pow b pos) (.int (i ^ j.toNat)) := e_opC op_pow ha hb hc
theorem e_neg (ha : E X ρ a (.int i)) : E X ρ (.UnaryOp .USub a pos) (.int (-i)) := e_of (pe_un un_neg pe_we) fun I σ H hx vs Q k =>
  ha I σ H hx vs _ fun x I1 H1 n1 r1 => by
    cases r1
    exact ⟨i, rfl, k _ I1 H1 n1 (.int _)⟩
/-- comparisons of whole numbers: as values, as tests -/
theorem e_cmpI {op : CmpOp} {f : Int → Int → Bool} (ho : OpR X (compareOp op) (rI0 fun i j => .bl (f i j))) (hm : behindInMarks op b = false) (ha : E X ρ a (.int i)) (hb : E X ρ b (.int j)) : E X ρ (.Compare a [op] [b] pos) (.bool (f i j)) :=
  e_two (pe_cmpR ho pe_we pe_we hm) ha hb fun I H hx x y rx ry Q q => by
    cases rx; cases ry
    exact ⟨i, j, rfl, rfl, q _ I H (.refl hx) (.bl _)⟩
theorem t_two {op : CmpOp} {r : R2} {k : Bool} (ho : OpR X (compareOp op) r) (hm : behindInMarks op b = false) (ha : E X ρ a d) (hb : E X ρ b d')
    (q : ∀ (I : Hp) (H : Hp), Ex I H → ∀ x y, Rp I x d → Rp I y d' → ∀ Q : VK, (∀ v I' H', Nw I H I' H' → Rp I' v (.bool k) → Q v H') → r x y H Q) : T X ρ (.Compare a [op] [b] pos) k :=
  t_of (pt_cmpR ho pe_we pe_we hm) fun I σ H hx vs Q z =>
  ha I σ H hx vs _ fun x I1 H1 n1 r1 => hb I1 σ H1 n1.j (vs.up n1.i) _ fun y I2 H2 n2 r2 => q I2 H2 n2.j x y (r1.up n2.i) r2 _ fun v I3 H3 n3 r3 => by
    cases r3
    exact ⟨k, rfl, z I3 H3 ((n1.trans n2).trans n3)⟩
theorem t_cmpI {op : CmpOp} {f : Int → Int → Bool} (ho : OpR X (compareOp op) (rI0 fun i j => .bl (f i j))) (hm : behindInMarks op b = false) (ha : E X ρ a (.int i)) (hb : E X ρ b (.int j)) : T X ρ (.Compare a [op] [b] pos) (f i j) :=
  t_two ho hm ha hb fun I H hx x y rx ry Q q => by
    cases rx; cases ry
    exact ⟨i, j, rfl, rfl, q _ I H (.refl hx) (.bl _)⟩
theorem e_lt (ha : E X ρ a (.int i)) (hb : E X ρ b (.int j)) : E X ρ (.Compare a [.Lt] [b] pos) (.bool (decide (i < j))) := e_cmpI op_lt (nomark _) ha hb
theorem e_le (ha : E X ρ a (.int i)) (hb : E X ρ b (.int j)) : E X ρ (.Compare a [.LtE] [b] pos) (.bool (decide (i ≤ j))) := e_cmpI op_le (nomark _) ha hb
theorem e_gt (ha : E X ρ a (.int i)) (hb : E X ρ b (.int j)) : E X ρ (.Compare a [.Gt] [b] pos) (.bool (decide (j < i))) := e_cmpI op_gt (nomark _) ha hb
theorem e_ge (ha : E X ρ a (.int i)) (hb : E X ρ b (.int j)) : E X ρ (.Compare a [.GtE] [b] pos) (.bool (decide (j ≤ i))) := e_cmpI op_ge (nomark _) ha hb
theorem t_lt (ha : E X ρ a (.int i)) (hb : E X ρ b (.int j)) : T X ρ (.Compare a [.Lt] [b] pos) (decide (i < j)) := t_cmpI op_lt (nomark _) ha hb
theorem t_le (ha : E X ρ a (.int i)) (hb : E X ρ b (.int j)) : T X ρ (.Compare a [.LtE] [b] pos) (decide (i ≤ j)) := t_cmpI op_le (nomark _) ha hb
theorem t_gt (ha : E X ρ a (.int i)) (hb : E X ρ b (.int j)) : T X ρ (.Compare a [.Gt] [b] pos) (decide (j < i)) := t_cmpI op_gt (nomark _) ha hb
theorem t_ge (ha : E X ρ a (.int i)) (hb : E X ρ b (.int j)) : T X ρ (.Compare a [.GtE] [b] pos) (decide (j ≤ i)) := t_cmpI op_ge (nomark _) ha hb
/-- == and != of whole numbers -/
theorem e_eqI (ha : E X ρ a (.int i)) (hb : E X ρ b (.int j)) : E X ρ (.Compare a [.Eq] [b] pos) (.bool (decide (i = j))) :=
  e_two (pe_cmpR op_eq pe_we pe_we (nomark _)) ha hb fun I H hx x y rx ry Q q => by
    cases rx; cases ry
    have z := q (.bl (decide (V.int i = V.int j))) I H (.refl hx) (by rw [dec_int]; rw [Bool.beq_eq_decide_eq]; exact .bl _)
    exact ⟨rfl, z⟩
theorem t_eqI (ha : E X ρ a (.int i)) (hb : E X ρ b (.int j)) : T X ρ (.Compare a [.Eq] [b] pos) (decide (i = j)) :=
  t_two op_eq (nomark _) ha hb fun I H hx x y rx ry Q q => by
    cases rx; cases ry
    have z := q (.bl (decide (V.int i = V.int j))) I H (.refl hx) (by rw [dec_int]; rw [Bool.beq_eq_decide_eq]; exact .bl _)
    exact ⟨rfl, z⟩
theorem t_neI (ha : E X ρ a (.int i)) (hb : E X ρ b (.int j)) : T X ρ (.Compare a [.NotEq] [b] pos) (!decide (i = j)) :=
  t_two op_ne (nomark _) ha hb fun I H hx x y rx ry Q q => by
    cases rx; cases ry
    have z := q (.bl (!decide (V.int i = V.int j))) I H (.refl hx) (by rw [dec_int]; rw [Bool.beq_eq_decide_eq]; exact .bl _)
    exact ⟨rfl, z⟩
/-- == and != of data -/
theorem e_eqD (hu : X.A.units + 64 < cLine) (ha : E X ρ a d) (hb : E X ρ b d') (sd : SeqAt.shaped d = true) (sd' : SeqAt.shaped d' = true) : E X ρ (.Compare a [.Eq] [b] pos) (.bool (PyData.eqv d d')) :=
  e_two (pe_cmpR (op_eqD hu) pe_we pe_we (nomark _)) ha hb fun I H hx x y rx ry Q q => ⟨d, d', Rp.dp hx d (SeqAt.canLay_of_shaped sd) rx, Rp.dp hx d' (SeqAt.canLay_of_shaped sd') ry, sd, sd', q _ I H (.refl hx) (.bl _)⟩
theorem t_eqD (hu : X.A.units + 64 < cLine) (ha : E X ρ a d) (hb : E X ρ b d') (sd : SeqAt.shaped d = true) (sd' : SeqAt.shaped d' = true) : T X ρ (.Compare a [.Eq] [b] pos) (PyData.eqv d d') :=
  t_two (op_eqD hu) (nomark _) ha hb fun I H hx x y rx ry Q q => ⟨d, d', Rp.dp hx d (SeqAt.canLay_of_shaped sd) rx, Rp.dp hx d' (SeqAt.canLay_of_shaped sd') ry, sd, sd', q _ I H (.refl hx) (.bl _)⟩
theorem e_neD (hu : X.A.units + 64 < cLine) (ha : E X ρ a d) (hb : E X ρ b d') (sd : SeqAt.shaped d = true) (sd' : SeqAt.shaped d' = true) : E X ρ (.Compare a [.NotEq] [b] pos) (.bool (!PyData.eqv d d')) :=
  e_two (pe_cmpR (op_neD hu) pe_we pe_we (nomark _)) ha hb fun I H hx x y rx ry Q q => ⟨d, d', Rp.dp hx d (SeqAt.canLay_of_shaped sd) rx, Rp.dp hx d' (SeqAt.canLay_of_shaped sd') ry, sd, sd', q _ I H (.refl hx) (.bl _)⟩
theorem t_neD (hu : X.A.units + 64 < cLine) (ha : E X ρ a d) (hb : E X ρ b d') (sd : SeqAt.shaped d = true) (sd' : SeqAt.shaped d' = true) : T X ρ (.Compare a [.NotEq] [b] pos) (!PyData.eqv d d') :=
  t_two (op_neD hu) (nomark _) ha hb fun I H hx x y rx ry Q q => ⟨d, d', Rp.dp hx d (SeqAt.canLay_of_shaped sd) rx, Rp.dp hx d' (SeqAt.canLay_of_shaped sd') ry, sd, sd', q _ I H (.refl hx) (.bl _)⟩
/-- a <= b <= c, whole numbers -/
theorem e_chain {op op' : CmpOp} {f f' : Int → Int → Bool} (ho : OpR X (compareOp op) (rI0 fun i j => .bl (f i j))) (ho' : OpR X (compareOp op') (rI0 fun i j => .bl (f' i j))) (hm : lastMarks [op, op'] [b, c] = false)
    (ha : E X ρ a (.int i)) (hb : E X ρ b (.int j)) (hc : E X ρ c (.int k)) : E X ρ (.Compare a [op, op'] [b, c] pos) (.bool (f i j && f' j k)) :=
  e_of (pe_chain ho ho' pe_we pe_we pe_we hm) fun I σ H hx vs Q z =>
    ha I σ H hx vs _ fun x I1 H1 n1 r1 => hb I1 σ H1 n1.j (vs.up n1.i) _ fun y I2 H2 n2 r2 => by
      cases r1; cases r2
      refine ⟨i, j, rfl, rfl, f i j, rfl, ?_⟩
      cases hf : f i j with
      | true =>
        rw [if_pos rfl]
        refine hc I2 σ H2 n2.j ((vs.up n1.i).up n2.i) _ fun w I3 H3 n3 r3 => ?_
        cases r3
        exact ⟨j, k, rfl, rfl, z _ I3 H3 ((n1.trans n2).trans n3) (by rw [hf, Bool.true_and]; exact .bl _)⟩
      | false =>
        rw [if_neg Bool.false_ne_true]
        exact z _ I2 H2 (n1.trans n2) (by rw [hf, Bool.false_and]; exact .bl _)
theorem e_lele (ha : E X ρ a (.int i)) (hb : E X ρ b (.int j)) (hc : E X ρ c (.int k)) (hm : lastMarks [.LtE, .LtE] [b, c] = false := by with_unfolding_all rfl) : E X ρ (.Compare a [.LtE, .LtE] [b, c] pos) (.bool (decide (i ≤ j) && decide (j ≤ k))) := e_chain op_le op_le hm ha hb hc
/-- tests -/
theorem t_val {k : Bool} (h : E X ρ e (.bool k)) (he : ∀ whole, isTrue e X.env whole = (do let v ← whole; standAt e.pos; holding [v] (truthy v)) := by intro _; rfl) : T X ρ e k :=
  t_of (pt_val pe_we he) fun I σ H hx vs Q z => h I σ H hx vs _ fun v I1 H1 n1 r1 => by
    cases r1
    exact ⟨k, rfl, z I1 H1 n1⟩
theorem t_not {k : Bool} (h : T X ρ e k) : T X ρ (.UnaryOp .Not e pos) (!k) := t_of (pt_not pt_wt) fun I σ H hx vs Q z => h I σ H hx vs _ fun I1 H1 n1 => z I1 H1 n1
end

/-! and, or: chains of tests -/
def WW (X : Cx) (e : Expr) : TT := fun σ H Q => ∀ (whole : Sem Value) (pins : List (Addr × Obj)) (s : Shared), Inv X pins σ H s → wpAny (model X.prog X.w) X.A (isTrue e X.env whole) (TP X pins σ Q) X.xe s
def TW (X : Cx) (ρ : Ro) (e : Expr) (b : Bool) : Prop := ∀ (I : Hp) (σ : L2.St) (H : Hp), Ex I H → VS I σ ρ → ∀ Q : Bool → Hp → Prop, (∀ I' H', Nw I H I' H' → Q b H') → WW X e σ H Q
section
variable {X : Cx} {ρ : Ro} {e a b c : Expr} {es rest : List Expr} {d d' : PyData} {ds : List PyData} {pos p : Pos} {k l : Bool}
theorem pw_ww : PW X e (WW X e) := ⟨fun wh pins s _ _ _ I h => h wh pins s I⟩
theorem tw_of {te : TT} (h : PW X e te) (q : ∀ (I : Hp) (σ : L2.St) (H : Hp), Ex I H → VS I σ ρ → ∀ Q : Bool → Hp → Prop, (∀ I' H', Nw I H I' H' → Q k H') → te σ H Q) : TW X ρ e k := fun I σ H x v Q z wh pins s i => h.run wh pins s σ H Q i (q I σ H x v Q z)
theorem TW.t (h : TW X ρ e k) : T X ρ e k := t_of pw_ww.pt fun I σ H hx vs Q z => h I σ H hx vs Q z
theorem tw_and1 (h : T X ρ a k) : TW X ρ (.BoolOp .And [a] pos) k := tw_of (pw_and1 pt_wt) fun I σ H hx vs Q z => h I σ H hx vs Q z
theorem tw_or1 (h : T X ρ a k) : TW X ρ (.BoolOp .Or [a] pos) k := tw_of (pw_or1 pt_wt) fun I σ H hx vs Q z => h I σ H hx vs Q z
theorem tw_and (h : T X ρ a k) (hb : k = true → TW X ρ (.BoolOp .And (b :: rest) pos) l) : TW X ρ (.BoolOp .And (a :: b :: rest) pos) (k && l) := tw_of (pw_and pt_wt pw_ww) fun I σ H hx vs Q z =>
  h I σ H hx vs _ fun I1 H1 n1 => by
    cases k with
    | true =>
      rw [if_pos rfl]
      exact hb rfl I1 σ H1 n1.j (vs.up n1.i) _ fun I2 H2 n2 => z I2 H2 (n1.trans n2)
    | false =>
      rw [if_neg Bool.false_ne_true]
      exact z I1 H1 n1
theorem tw_or (h : T X ρ a k) (hb : k = false → TW X ρ (.BoolOp .Or (b :: rest) pos) l) : TW X ρ (.BoolOp .Or (a :: b :: rest) pos) (k || l) := tw_of (pw_or pt_wt pw_ww) fun I σ H hx vs Q z =>
  h I σ H hx vs _ fun I1 H1 n1 => by
    cases k with
    | false =>
      rw [if_neg Bool.false_ne_true]
      exact hb rfl I1 σ H1 n1.j (vs.up n1.i) _ fun I2 H2 n2 => z I2 H2 (n1.trans n2)
    | true =>
      rw [if_pos rfl]
      exact z I1 H1 n1
/-- as values -/
theorem e_one {op : BoolOp} (h : E X ρ a d) : E X ρ (.BoolOp op [a] pos) d := e_of (pe_one pe_we) fun I σ H hx vs Q z => h I σ H hx vs Q z
theorem e_and (h : E X ρ a (.bool k)) (hb : k = true → E X ρ (.BoolOp .And (b :: rest) pos) (.bool l)) : E X ρ (.BoolOp .And (a :: b :: rest) pos) (.bool (k && l)) := e_of (pe_and pe_we pe_we) fun I σ H hx vs Q z =>
  h I σ H hx vs _ fun v I1 H1 n1 r1 => by
    cases r1
    refine ⟨k, rfl, ?_⟩
    cases k with
    | true =>
      rw [if_pos rfl]
      exact hb rfl I1 σ H1 n1.j (vs.up n1.i) _ fun v I2 H2 n2 r2 => z v I2 H2 (n1.trans n2) r2
    | false =>
      rw [if_neg Bool.false_ne_true]
      exact z _ I1 H1 n1 (.bl _)
theorem e_or (h : E X ρ a (.bool k)) (hb : k = false → E X ρ (.BoolOp .Or (b :: rest) pos) (.bool l)) : E X ρ (.BoolOp .Or (a :: b :: rest) pos) (.bool (k || l)) := e_of (pe_or pe_we pe_we) fun I σ H hx vs Q z =>
  h I σ H hx vs _ fun v I1 H1 n1 r1 => by
    cases r1
    refine ⟨k, rfl, ?_⟩
    cases k with
    | false =>
      rw [if_neg Bool.false_ne_true]
      exact hb rfl I1 σ H1 n1.j (vs.up n1.i) _ fun v I2 H2 n2 r2 => z v I2 H2 (n1.trans n2) r2
    | true =>
      rw [if_pos rfl]
      exact z _ I1 H1 n1 (.bl _)
theorem e_not (h : E X ρ a (.bool k)) : E X ρ (.UnaryOp .Not a pos) (.bool (!k)) := e_of (pe_not pe_we) fun I σ H hx vs Q z =>
  h I σ H hx vs _ fun v I1 H1 n1 r1 => by
    cases r1
    exact ⟨k, rfl, z _ I1 H1 n1 (.bl _)⟩
theorem e_ifExp (h : T X ρ c k) (h1 : k = true → E X ρ a d) (h2 : k = false → E X ρ b d) : E X ρ (.IfExp c a b pos) d := e_of (pe_ifExp pt_wt pe_we pe_we) fun I σ H hx vs Q z =>
  h I σ H hx vs _ fun I1 H1 n1 => by
    cases k with
    | true =>
      rw [if_pos rfl]
      exact h1 rfl I1 σ H1 n1.j (vs.up n1.i) _ fun v I2 H2 n2 r2 => z v I2 H2 (n1.trans n2) r2
    | false =>
      rw [if_neg Bool.false_ne_true]
      exact h2 rfl I1 σ H1 n1.j (vs.up n1.i) _ fun v I2 H2 n2 r2 => z v I2 H2 (n1.trans n2) r2
/-! arguments, displays -/
theorem as_nil : As X ρ [] [] := fun I σ H hx vs Q z => wa_of pa_nil (z [] I H (.refl hx) .nil)
theorem as_cons (h : E X ρ e d) (hr : As X ρ es ds) (hs : starEach (e :: es) X.env = (false, eval e X.env) :: starEach es X.env := by rfl) : As X ρ (e :: es) (d :: ds) := fun I σ H hx vs Q z =>
  wa_of (pa_cons pe_we pa_wa hs) (h I σ H hx vs _ fun v I1 H1 n1 r1 => hr I1 σ H1 n1.j (vs.up n1.i) _ fun us I2 H2 n2 r2 => z _ I2 H2 (n1.trans n2) (.cons (r1.up n2.i) r2))
theorem e_tup {x1 : Nat} (h : As X ρ es ds) (hl : ds.length ≤ 100000) : E X ρ (.Tuple es x1 pos) (.tuple ds) := e_of (pe_tup pa_wa) fun I σ H hx vs Q z =>
  h I σ H hx vs _ fun us I1 H1 n1 r1 => ⟨by rw [r1.length]; exact sz_of hl, fun q hq => z _ _ _ (n1.trans (Nw.new n1.j hq)) (.tup upd_same (r1.up (Nw.new (o := .tup us) n1.j hq).i))⟩
theorem e_lst {x1 : Nat} (h : As X ρ es ds) (hl : ds.length ≤ 100000) : E X ρ (.List es pos) (.list ds) := e_of (pe_lst pa_wa) fun I σ H hx vs Q z =>
  h I σ H hx vs _ fun us I1 H1 n1 r1 => ⟨by rw [r1.length]; exact sz_of hl, fun q hq => z _ _ _ (n1.trans (Nw.new n1.j hq)) (.lst upd_same (r1.up (Nw.new (o := .lst us) n1.j hq).i))⟩
end
end R1

set_option Elab.async false
set_option linter.all false
set_option maxRecDepth 100000
set_option maxHeartbeats 4000000
/-! CoreB: more that is walked: zip and enumerate of lists and tuples in any mix; the items of a dict whose keys are tuples. -/
namespace R1
open PySem PySem.Spec PyProof.Rows L2 Evl

/-- a list (false) or a tuple (true) -/
def SqB (K : PySem.W.Frag) : Bool → Hp → Addr → List V → Prop
  | false, H, a, xs => SqL K H a xs
  | true, H, a, xs => SqT K H a xs
def IsB : Bool → Heap → Addr → Array Value → Prop
  | false, h, a, its => h.IsList a its
  | true, h, a, its => h.IsTuple a its
def ItB : Bool → Heap → Addr → Addr → Nat → Prop
  | false, h, it, a, i => h.IsListIter it a i
  | true, h, it, a, i => h.IsTupleIter it a i
def obB : Bool → Addr → Obj
  | false, a => { cls := .type "list_iterator", data := .fields #[.ref a, .int 0 0] }
  | true, a => { cls := .type "tuple_iterator", data := .fields #[.ref a, .int 0 0] }
theorem SqB.up {K : PySem.W.Frag} {H H' : Hp} {a : Addr} {xs : List V} : ∀ {k : Bool}, Ex H H' → SqB K k H a xs → SqB K k H' a xs
  | false, e, h => ex_l e h
  | true, e, h => ex_t e h
section
variable {X : Cx} {pins : List (Addr × Obj)} {σ : L2.St} {H : Hp} {s : Shared} {a : Addr} {xs ys : List V}
theorem Inv.sqB (I : Inv X pins σ H s) : ∀ {k : Bool}, SqB X.K k H a xs → ∃ its : List Value, Vals xs its ∧ IsB k s.heap a its.toArray ∧ xs.length ≤ sizeLine ∧ a < s.heap.objs.size
  | false, h => let ⟨its, r, p, z⟩ := I.list h; ⟨its, r, p.isList, z, p.lt⟩
  | true, h => let ⟨its, r, p, z⟩ := I.tuple h; ⟨its, r, (show s.heap.IsTuple a its.toArray from p), z, p.lt⟩
theorem Inv.sqB_inj (I : Inv X pins σ H s) : ∀ {k : Bool}, SqB X.K k H a xs → SqB X.K k H a ys → xs = ys
  | false, h, h' => I.list_inj h h'
  | true, h, h' => I.tuple_inj h h'
end
theorem drawsB {prog : Program} {w : World} {A : Around} (hh : A.handled = none) (it l : Addr) (hne : l ≠ it) (items : Array Value) : ∀ k : Bool,
    Draws prog w A it [it, l] items.size (fun i v => items[i]? = some v) (fun i h => ItB k h it l i ∧ IsB k h l items)
  | false => Draws.list hh it l hne items
  | true => Draws.tuple hh it l hne items
theorem beginsB (l : Addr) (items : Array Value) : ∀ k : Bool, Begins (.ref l) (obB k l) fun h => IsB k h l items
  | false => begins_list l items
  | true => begins_tuple l items
theorem itB_obj {h : Heap} {it a : Addr} {i : Nat} : ∀ {k : Bool}, ItB k h it a i → ∃ o, h.get? it = some o ∧ ∀ v, o.data ≠ .cell v
  | false, ⟨o, e, _, d⟩ => ⟨o, e, fun v z => by rw [d] at z; cases z⟩
  | true, ⟨o, e, _, d⟩ => ⟨o, e, fun v z => by rw [d] at z; cases z⟩
theorem itB_at {h h' : Heap} {it a : Addr} {i : Nat} : ∀ {k : Bool}, ItB k h it a i → (∀ o, h.get? it = some o → h'.get? it = some o) → ItB k h' it a i
  | false, st, k => st.at k
  | true, st, k => st.at k
theorem itB_new {h : Heap} {it a : Addr} : ∀ {k : Bool}, h.get? it = some (obB k a) → ItB k h it a 0
  | false, e => ⟨_, e, rfl, rfl⟩
  | true, e => ⟨_, e, rfl, rfl⟩

/-! ### zip of two, lists or tuples -/
def Itzm (K : PySem.W.Frag) (k l : Bool) (a b : Addr) : It :=
  ⟨fun i H => ∃ (xs ys : List V) (x y : V), SqB K k H a xs ∧ SqB K l H b ys ∧ xs[i]? = some x ∧ ys[i]? = some y,
    fun i H v H' => ∃ T x y, v = .ref T ∧ H T = none ∧ H' = upd H T (.tup [x, y]) ∧ (∀ xs, SqB K k H a xs → xs[i]? = some x) ∧ ∀ ys, SqB K l H b ys → ys[i]? = some y,
    fun i H => ∃ xs ys : List V, SqB K k H a xs ∧ SqB K l H b ys ∧ i = min xs.length ys.length⟩

theorem sep_of {z TI TO i1 i2 a b : Addr} (D : ZipApart z TI TO i1 i2 a b) : ZipSep2 z TI TO i1 i2 [i1, a] [i2, b] where
  TIz := D.TIz
  TOz := D.TOz
  TITO := D.TITO
  TIi1 := D.TIi1
  mem1 := List.mem_cons_self
  zf1 := by simp only [List.mem_cons, List.not_mem_nil, or_false, not_or]; exact ⟨Ne.symm D.i1z, Ne.symm D.l1z⟩
  Tf1 := by simp only [List.mem_cons, List.not_mem_nil, or_false, not_or]; exact ⟨D.TOi1, Ne.symm D.l1TO⟩
  TIi2 := D.TIi2
  mem2 := List.mem_cons_self
  zf2 := by simp only [List.mem_cons, List.not_mem_nil, or_false, not_or]; exact ⟨Ne.symm D.i2z, Ne.symm D.l2z⟩
  Tf2 := by simp only [List.mem_cons, List.not_mem_nil, or_false, not_or]; exact ⟨D.TOi2, Ne.symm D.l2TO⟩
  sep1_2 := by simp only [List.mem_cons, List.not_mem_nil, or_false, not_or]; exact ⟨D.i12, Ne.symm D.l2i1⟩
  sep2_1 := by simp only [List.mem_cons, List.not_mem_nil, or_false, not_or]; exact ⟨Ne.symm D.i12, Ne.symm D.l1i2⟩
theorem turn_zipM {P : Program} {w : World} {K : PySem.W.Frag} {elts : List Expr} {kk : Nat} {tpos : Pos} {k l : Bool} {a b z TI TO i1 i2 : Addr} (D : ZipApart z TI TO i1 i2 a b) :
    Turn P w K (.Tuple elts kk tpos) (Itzm K k l a b) [z, TI, TO, i1, i2] z (fun i h => IsZip h z TI TO .none ∧ IsTupOf2 h TI (.ref i1) (.ref i2) ∧ (∃ x y, IsTupOf2 h TO x y) ∧ ItB k h i1 a i ∧ ItB l h i2 b i) where
  mem := by simp
  obj := fun i h st c hc => by
    obtain ⟨hz, hTI, ⟨x, y, hTO⟩, h1, h2⟩ := st
    have e' : c = z ∨ c = TI ∨ c = TO ∨ c = i1 ∨ c = i2 := by simpa using hc
    rcases e' with q | q | q | q | q
    · rw [q]; exact ⟨_, hz, fun v q => nomatch q⟩
    · rw [q]; exact ⟨_, hTI, fun v q => nomatch q⟩
    · rw [q]; exact ⟨_, hTO, fun v q => nomatch q⟩
    · rw [q]; exact itB_obj h1
    · rw [q]; exact itB_obj h2
  keep := fun i h h' st k => by
    obtain ⟨hz, hTI, ⟨x, y, hTO⟩, h1, h2⟩ := st
    exact ⟨k z (by simp) _ hz, k TI (by simp) _ hTI, ⟨x, y, k TO (by simp) _ hTO⟩, itB_at h1 fun o q => k i1 (by simp) o q, itB_at h2 fun o q => k i2 (by simp) o q⟩
  item := by
    intro X hP hw hK hc i pins s σ H E I hf st hg
    subst hP hw hK
    obtain ⟨hz, hTI, hTO, h1, h2⟩ := st
    obtain ⟨xs, ys, x, y, hqx, hqy, hx, hy⟩ := hg
    obtain ⟨its, rv, p, _, la⟩ := R1.Inv.sqB I hqx
    obtain ⟨its2, rv2, p2, _, lb⟩ := R1.Inv.sqB I hqy
    obtain ⟨u, hu, ru⟩ := rv.get hx
    obtain ⟨u2, hu2, ru2⟩ := rv2.get hy
    have hd : X.A.in1.handled = none := I.ok.hd hc
    have G := GoesN.zip2 (elts := elts) (x1 := kk) (pos := tpos) (sep_of D) (drawsB (prog := X.prog) (w := X.w) hd i1 a D.l1i1 its.toArray k) (drawsB (prog := X.prog) (w := X.w) hd i2 b D.l2i2 its2.toArray l)
    have hi1 : i < its.length := (List.getElem?_eq_some_iff.mp hu).1
    have hi2 : i < its2.length := (List.getElem?_eq_some_iff.mp hu2).1
    refine G.goes i s _ E (by simp only [List.size_toArray]; omega) ⟨hz, hTI, hTO, ⟨h1, p⟩, h2, p2⟩ fun v h' tk Y st' kk' _ => ?_
    obtain ⟨T, x', y', rfl, hT, ex, ey, tT⟩ := Y
    obtain ⟨z', TI', TO', ⟨a1, _⟩, a2, _⟩ := st'
    have ex' : x' = u := by
      have : its[i]? = some x' := by simpa using ex
      rw [hu] at this
      exact (Option.some.inj this).symm
    have ey' : y' = u2 := by
      have : its2[i]? = some y' := by simpa using ey
      rw [hu2] at this
      exact (Option.some.inj this).symm
    subst ex' ey'
    have new : ObjOk X.prog X.w (upd H T (.tup [x, y])) h' T (.tup [x, y]) :=
      ⟨by show 2 ≤ sizeLine; decide, [x', y'], .cons ru (.cons ru2 .nil), (show IsTup h' T [x', y'].toArray from tT)⟩
    have I1 : L2.Inv X pins σ (upd H T (.tup [x, y])) { s with heap := h', toks := tk } :=
      I.turnedNew (ch := [z, TI, TO, i1, i2]) (fun c o hb q => kk' c o (fun q' => hb (by
        have e' : c = z ∨ c = TO ∨ c = i1 ∨ c = i2 := by simpa using q'
        rcases e' with q | q | q | q <;> simp [q])) q) hf hT new
    refine ⟨.ref T, _, I1, rfl, ⟨_, x, y, rfl, I.hok.fresh hT, rfl, fun l hl => by rw [R1.Inv.sqB_inj I hl hqx]; exact hx, fun l hl => by rw [R1.Inv.sqB_inj I hl hqy]; exact hy⟩, ⟨z', TI', TO', a1, a2⟩, fun c hcm => ?_⟩
    have hne : c ≠ T := fun e => by
      obtain ⟨x0, y0, hTO'⟩ := hTO
      have hlt : c < s.heap.objs.size := by
        have e' : c = z ∨ c = TI ∨ c = TO ∨ c = i1 ∨ c = i2 := by simpa using hcm
        rcases e' with q | q | q | q | q
        · rw [q]; exact Heap.lt_size hz
        · rw [q]; exact Heap.lt_size hTI
        · rw [q]; exact Heap.lt_size hTO'
        · rw [q]; obtain ⟨_, e1, _⟩ := itB_obj h1; exact Heap.lt_size e1
        · rw [q]; obtain ⟨_, e1, _⟩ := itB_obj h2; exact Heap.lt_size e1
      rw [e] at hlt
      exact absurd (Nat.lt_of_lt_of_le hlt hT) (Nat.lt_irrefl _)
    rw [upd_ne hne]
    exact (hf c hcm).1
  done := by
    intro X hP hw hK hc i pins s σ H E I hf st hg
    subst hP hw hK
    obtain ⟨hz, hTI, hTO, h1, h2⟩ := st
    obtain ⟨xs, ys, hqx, hqy, hend⟩ := hg
    obtain ⟨its, rv, p, _, la⟩ := R1.Inv.sqB I hqx
    obtain ⟨its2, rv2, p2, _, lb⟩ := R1.Inv.sqB I hqy
    have l1 := rv.length
    have l2 := rv2.length
    have hd : X.A.in1.handled = none := I.ok.hd hc
    have G := GoesN.zip2 (elts := elts) (x1 := kk) (pos := tpos) (sep_of D) (drawsB (prog := X.prog) (w := X.w) hd i1 a D.l1i1 its.toArray k) (drawsB (prog := X.prog) (w := X.w) hd i2 b D.l2i2 its2.toArray l)
    have he : i = min its.toArray.size its2.toArray.size := by simp only [List.size_toArray]; omega
    rw [he] at h1 h2
    refine thn (G.stops s (fun s' => L2.Inv X pins σ H s') E ⟨hz, hTI, hTO, ⟨h1, p⟩, h2, p2⟩ fun h' tk kk' _ => ?_) fun r s' q => q
    exact I.turnedL (ch := [z, TI, TO, i1, i2]) (fun c o hb q => kk' c o (fun q' => hb (by
        have e' : c = z ∨ c = TO ∨ c = i1 ∨ c = i2 := by simpa using q'
        rcases e' with q | q | q | q <;> simp [q])) q) hf
  self := fun A i s Q E st h => wpAny_pyIter_zip st.1 h
def iZipM (K : PySem.W.Frag) (k l : Bool) (ta : TA) : TI := fun σ H R => ta σ H fun vs H1 => ∃ a b xs ys, vs = [.ref a, .ref b] ∧ SqB K k H1 a xs ∧ SqB K l H1 b ys ∧ R (Itzm K k l a b) H1
theorem fp5 {X : Cx} {pins : List (Addr × Obj)} {σ : L2.St} {H : Hp} {s : Shared} (I : L2.Inv X pins σ H s) : ∀ c, c ∈ [s.heap.objs.size + 4, s.heap.objs.size + 2, s.heap.objs.size + 3, s.heap.objs.size, s.heap.objs.size + 1] → FpOk X pins H c := fun c hcm => by
  have e' : c = s.heap.objs.size + 4 ∨ c = s.heap.objs.size + 2 ∨ c = s.heap.objs.size + 3 ∨ c = s.heap.objs.size ∨ c = s.heap.objs.size + 1 := by simpa using hcm
  have hle : s.heap.objs.size ≤ c := by
    rcases e' with z | z | z | z | z
    · rw [z]; exact Nat.le_add_right _ _
    · rw [z]; exact Nat.le_add_right _ _
    · rw [z]; exact Nat.le_add_right _ _
    · rw [z]; exact Nat.le_refl _
    · rw [z]; exact Nat.le_add_right _ _
  exact I.fpOk hle (I.hok.fresh hle)
theorem pi_zipM {X : Cx} {e e2 : Expr} {ta : TA} {p pos tpos : Pos} {elts : List Expr} {kk : Nat} {k l : Bool} (hg : Gl X "zip") (hm : X.mg "zip" = none) (ha : PA X [e, e2] ta)
    (hs : starEach [e, e2] X.env = (false, eval e X.env) :: starEach [e2] X.env := by rfl) (hpl : (backTo pos (starEach [e2] X.env)).any (·.1) = false := by rfl) :
    PI X (.Tuple elts kk tpos) (.Call (.Name "zip" p) [e, e2] [] pos) (iZipM X.K k l ta) := by
  refine ⟨fun pins s σ H R I h => ?_⟩
  refine Call_ (ld_blt I hg hm PyProof.Rows.boot_zip (PyProof.Rows.callWith_type1 (thn (ha.run pos pins s σ H _ I h) fun us s1 ⟨vs, H1, I1, r1, q1⟩ => ?_) hs hpl))
  obtain ⟨a, b, xs, ys, ex, hqx, hqy, q⟩ := q1
  subst ex
  cases r1 with
  | cons r rr =>
    cases rr with
    | cons r' rr =>
      cases rr
      cases r
      cases r'
      obtain ⟨its, rv, p1, _, la⟩ := R1.Inv.sqB I1 hqx
      obtain ⟨its2, rv2, p2, _, lb⟩ := R1.Inv.sqB I1 hqy
      refine zip_begins2 (beginsB a its.toArray k) (beginsB b its2.toArray l) p1 p2 fun h' hz hTI hTO h1 h2 hsz hk => wpAny_pyIter_zip hz ?_
      have I2 : L2.Inv X pins σ H1 { s1 with heap := h' } := I1.kept (t' := s1.toks) hk
      exact ⟨s1.heap.objs.size + 4, [s1.heap.objs.size + 4, s1.heap.objs.size + 2, s1.heap.objs.size + 3, s1.heap.objs.size, s1.heap.objs.size + 1], _, _, H1, rfl, I2, turn_zipM (PySem.W.ktu_apart s1.heap.objs.size a b la lb), ⟨hz, hTI, ⟨_, _, hTO⟩, itB_new h1, itB_new h2⟩, fp5 I1, q⟩

/-! ### enumerate of a list or a tuple -/
theorem enum_new1 {v : Value} {o : Obj} {Hh : Heap → Prop} (B : Begins v o Hh) :
    Meets (Builtin.«enumerate.__new__» ⟨[.type "enumerate", v], []⟩) (fun _ R s => Hh s.heap ∧
      R (.ok (.ret (.ref (s.heap.push o).objs.size))) { s with heap := (s.heap.push o).push { cls := .type "enumerate", data := .fields #[.none, .bool false, .ref s.heap.objs.size, rawInt 0, .none, .none] } }) :=
  .of_wp fun prog w A R s h => by
    obtain ⟨hp, g, d, tk, os⟩ := s; obtain ⟨h1, h⟩ := h
    have hsub := sub_enumerate
    have q1 : ∀ {A' : Around} {E : Value → Shared → Prop} {Q : Value → Shared → Prop}, Q (.ref hp.objs.size) ⟨hp.push o, g, d, tk, os⟩ → wpAny (model prog w) A' (pyIter v) Q E ⟨hp, g, d, tk, os⟩ :=
      fun q => B.iter prog w _ _ ⟨hp, g, d, tk, os⟩ _ h1 q
    wp_walk using q1
    refine wpAny_stack_any fun st => wpAny_pure ?_
    split
    · rename_i c _ _ _ _ _
      cases (c == Value.type "enumerate")
      · wp_walk using q1
        exact ⟨_, rfl, h⟩
      · wp_walk using q1
        exact ⟨_, rfl, h⟩
    · wp_walk using q1
      exact ⟨_, rfl, h⟩
theorem call_enum1 {prog : Program} {w : World} {A : Around} {E : Value → Shared → Prop} {s : Shared} {v : Value} {o : Obj} {Hh : Heap → Prop} {Q : Value → Shared → Prop} (B : Begins v o Hh) (h1 : Hh s.heap)
    (h : ∀ h', IsEnum h' (s.heap.objs.size + 1) s.heap.objs.size 0 .none → h'.get? s.heap.objs.size = some o → h'.objs.size = s.heap.objs.size + 2 →
      (∀ b o, s.heap.get? b = some o → h'.get? b = some o) → Q (.ref (s.heap.objs.size + 1)) { s with heap := h' }) :
    wpAny (model prog w) A (call (.type "enumerate") [v]) Q E s := by
  refine callType_new F.called_enumerate (by decide) (F.typeCall_enumerate_1 _) (F.newCall_enumerate_1 _) (fun obj => F.args_object_init_2 obj _) F.entry_enumerate_new
    (enum_new1 B) ⟨h1, ?_⟩
  have hz : (s.heap.push o).objs.size = s.heap.objs.size + 1 := Heap.size_push ..
  show _ ∧ _
  rw [hz]
  have he : IsEnum ((s.heap.push o).push { cls := .type "enumerate", data := .fields #[.none, .bool false, .ref s.heap.objs.size, rawInt 0, .none, .none] }) (s.heap.objs.size + 1) s.heap.objs.size 0 .none := by
    have := Heap.get?_push_size (s.heap.push o) (o := { cls := .type "enumerate", data := .fields #[.none, .bool false, .ref s.heap.objs.size, rawInt 0, .none, .none] }) rfl
    rw [hz] at this; exact this
  exact ⟨⟨_, he, rfl⟩, h _ he (Heap.get?_push_of_some _ (Heap.get?_push_size _ B.free)) (by rw [Heap.size_push, hz]) fun b o x => Heap.get?_push_of_some _ (Heap.get?_push_of_some _ x)⟩
def Item (K : PySem.W.Frag) (k : Bool) (a : Addr) : It :=
  ⟨fun i H => ∃ (xs : List V) (x : V), SqB K k H a xs ∧ xs[i]? = some x, fun i H v H' => ∃ T x, v = .ref T ∧ H T = none ∧ H' = upd H T (.tup [.int (i : Nat), x]) ∧ ∀ xs, SqB K k H a xs → xs[i]? = some x,
    fun i H => ∃ xs : List V, SqB K k H a xs ∧ i = xs.length⟩
theorem turn_enumM {P : Program} {w : World} {K : PySem.W.Frag} {elts : List Expr} {kk : Nat} {tpos : Pos} {k : Bool} (a e it : Addr) (h1 : e ≠ it) (h2 : a ≠ e) (h3 : a ≠ it) :
    Turn P w K (.Tuple elts kk tpos) (Item K k a) [e, it] e (fun i h => (∃ old, IsEnum h e it (0 + ((i : Nat) : Int)) old) ∧ ItB k h it a i) where
  mem := by simp
  obj := fun i h st b hb => by
    obtain ⟨⟨old, he⟩, hi⟩ := st
    have e' : b = e ∨ b = it := by simpa using hb
    rcases e' with z | z
    · rw [z]; exact ⟨_, he, fun v q => nomatch q⟩
    · rw [z]; exact itB_obj hi
  keep := fun i h h' st k => let ⟨⟨old, he⟩, hi⟩ := st; ⟨⟨old, k e (by simp) _ he⟩, itB_at hi fun o q => k it (by simp) o q⟩
  item := by
    intro X hP hw hK hc i pins s σ H E I hf st hg
    subst hP hw hK
    obtain ⟨he, hit⟩ := st
    obtain ⟨xs, x, hq, hx⟩ := hg
    obtain ⟨its, rv, p, hz, la⟩ := R1.Inv.sqB I hq
    obtain ⟨u, hu, ru⟩ := rv.get hx
    have hd : X.A.in1.handled = none := I.ok.hd hc
    have G := GoesN.enumFrom (elts := elts) (x1 := kk) (pos := tpos) 0 (drawsB (prog := X.prog) (w := X.w) hd it a h3 its.toArray k) e h1 (by simp only [List.mem_cons, List.not_mem_nil, or_false, not_or]; exact ⟨h1, Ne.symm h2⟩) (by simp)
    have hi1 : i < its.length := (List.getElem?_eq_some_iff.mp hu).1
    refine G.goes i s _ E (by simpa using hi1) ⟨he, hit, p⟩ fun v h' tk Y st' kk' _ => ?_
    obtain ⟨T, t, x', rfl, hT, ex, tT⟩ := Y
    obtain ⟨he', hit', _⟩ := st'
    have ex' : x' = u := by
      have : its[i]? = some x' := by simpa using ex
      rw [hu] at this
      exact (Option.some.inj this).symm
    subst ex'
    have e0 : (0 : Int) + (i : Int) = ((i : Nat) : Int) := Int.zero_add _
    have new : ObjOk X.prog X.w (upd H T (.tup [.int (i : Nat), x])) h' T (.tup [.int (i : Nat), x]) :=
      ⟨by show 2 ≤ sizeLine; decide, [.int (0 + (i : Int)) t, x'], .cons ⟨t, by rw [e0]⟩ (.cons ru .nil), (show IsTup h' T [.int (0 + (i : Int)) t, x'].toArray from tT)⟩
    have I1 : L2.Inv X pins σ (upd H T (.tup [.int (i : Nat), x])) { s with heap := h', toks := tk } := I.turnedNew (ch := [e, it]) (fun c o hb q => kk' c o hb q) hf hT new
    refine ⟨.ref T, _, I1, rfl, ⟨_, x, rfl, I.hok.fresh hT, rfl, fun l hl => by rw [R1.Inv.sqB_inj I hl hq]; exact hx⟩, ⟨he', hit'⟩, fun c hcm => ?_⟩
    have hne : c ≠ T := fun ee => by
      have hlt : c < s.heap.objs.size := by
        have e' : c = e ∨ c = it := by simpa using hcm
        rcases e' with q | q
        · rw [q]; obtain ⟨old, he0⟩ := he; exact Heap.lt_size he0
        · rw [q]; obtain ⟨_, e1, _⟩ := itB_obj hit; exact Heap.lt_size e1
      rw [ee] at hlt
      exact absurd (Nat.lt_of_lt_of_le hlt hT) (Nat.lt_irrefl _)
    rw [upd_ne hne]
    exact (hf c hcm).1
  done := by
    intro X hP hw hK hc i pins s σ H E I hf st hg
    subst hP hw hK
    obtain ⟨he, hit⟩ := st
    obtain ⟨xs, hq, hend⟩ := hg
    obtain ⟨its, rv, p, hz, la⟩ := R1.Inv.sqB I hq
    have hl := rv.length
    have hd : X.A.in1.handled = none := I.ok.hd hc
    have G := GoesN.enumFrom (elts := elts) (x1 := kk) (pos := tpos) 0 (drawsB (prog := X.prog) (w := X.w) hd it a h3 its.toArray k) e h1 (by simp only [List.mem_cons, List.not_mem_nil, or_false, not_or]; exact ⟨h1, Ne.symm h2⟩) (by simp)
    have hi : i = its.toArray.size := by simp only [List.size_toArray]; omega
    rw [hi] at he hit
    exact thn (G.stops s (fun s' => L2.Inv X pins σ H s') E ⟨he, hit, p⟩ fun h' tk kk' _ => I.turnedL (ch := [e, it]) (fun c o hb q => kk' c o hb q) hf) fun r s' q => q
  self := fun A i s Q E st h => let ⟨⟨_, he⟩, _⟩ := st; wpAny_pyIter_enum he h
def iEnumM (K : PySem.W.Frag) (k : Bool) (ta : TA) : TI := fun σ H R => ta σ H fun vs H1 => ∃ a xs, vs = [.ref a] ∧ SqB K k H1 a xs ∧ R (Item K k a) H1
theorem pi_enumM {X : Cx} {e : Expr} {ta : TA} {p pos tpos : Pos} {elts : List Expr} {kk : Nat} {k : Bool} (hg : Gl X "enumerate") (hm : X.mg "enumerate" = none) (ha : PA X [e] ta) (hs : starEach [e] X.env = [(false, eval e X.env)] := by rfl) :
    PI X (.Tuple elts kk tpos) (.Call (.Name "enumerate" p) [e] [] pos) (iEnumM X.K k ta) := by
  refine ⟨fun pins s σ H R I h => ?_⟩
  refine Call_ (ld_blt I hg hm boot_enumerate (PyProof.Rows.callWith_type1 (thn (ha.run pos pins s σ H _ I h) fun us s1 ⟨vs, H1, I1, r1, q1⟩ => ?_) hs rfl))
  obtain ⟨a, xs, ex, hq, q⟩ := q1
  subst ex
  cases r1 with
  | cons r rr =>
    cases rr
    cases r
    obtain ⟨its, rv, p', hz, la⟩ := R1.Inv.sqB I1 hq
    refine call_enum1 (beginsB a its.toArray k) p' fun h' he hit hsz hk => wpAny_pyIter_enum he ?_
    have I2 : L2.Inv X pins σ H1 { s1 with heap := h' } := I1.kept (t' := s1.toks) hk
    have e0 : (0 : Int) + ((0 : Nat) : Int) = 0 := rfl
    refine ⟨s1.heap.objs.size + 1, [s1.heap.objs.size + 1, s1.heap.objs.size], _, _, H1, rfl, I2, turn_enumM a (s1.heap.objs.size + 1) s1.heap.objs.size (Nat.succ_ne_self _) (Nat.ne_of_lt (Nat.lt_succ_of_lt la)) (Nat.ne_of_lt la), ⟨⟨.none, he⟩, itB_new hit⟩, fun b hb => ?_, q⟩
    have e' : b = s1.heap.objs.size + 1 ∨ b = s1.heap.objs.size := by simpa using hb
    have hle : s1.heap.objs.size ≤ b := by
      rcases e' with z | z
      · rw [z]; exact Nat.le_add_right _ _
      · rw [z]; exact Nat.le_refl _
    exact I1.fpOk hle (I1.hok.fresh hle)

/-! ### the items of a dict whose keys are tuples (locked) -/
theorem frzTv {X : Cx} {pins : List (Addr × Obj)} {σ : L2.St} {H : Hp} {s : Shared} {d : Addr} {o : Obj} {kvs : List (List L2.Key × V)} (I : L2.Inv X pins σ H s) (h : H d = some (.frz o (.dT kvs))) :
    (d == sysModules) = false ∧ s.heap.get? d = some o ∧ o.ExactDict ∧ ∃ (es : Array DictEntry) (ep : Nat), o.data = .dict es ep ∧ es.size = kvs.length ∧
      ∀ (i : Nat) (k : List L2.Key) (v : V), kvs[i]? = some (k, v) → ∃ (en : DictEntry) (q : Addr), es[i]? = some en ∧ en.key = .ref q ∧ H q = some (.tup (k.map kV)) ∧ RelV v en.val := by
  obtain ⟨hd, z, hs, xs, pr, o', es, ep, ho, hx, hdt, he, _⟩ := I.hok d _ h
  rw [hd] at ho
  cases ho
  refine ⟨hs, hd, hx, es, ep, hdt, ?_, fun i k v e => ?_⟩
  · have l1 : es.size = xs.length := size_of_entries he
    have l2 : kvs.length = xs.length := Paired.length pr
    omega
  · obtain ⟨b, hb, e1, e2, e3⟩ := paired_get pr e
    have q := entry_at he i
    rw [hb] at q
    exact ⟨_, b.2.1, q, rfl, e2, e3⟩
def Itit (d : Addr) (o : Obj) (kvs : List (List L2.Key × V)) : It :=
  ⟨fun i H => H d = some (.frz o (.dT kvs)) ∧ i < kvs.length, fun i H x H' => ∃ (T : Addr) (k : List L2.Key) (v : V) (q : Addr), kvs[i]? = some (k, v) ∧ H q = some (.tup (k.map kV)) ∧ x = .ref T ∧ H T = none ∧ H' = upd H T (.tup [.ref q, v]),
    fun i H => H d = some (.frz o (.dT kvs)) ∧ kvs.length ≤ i⟩
theorem turn_itemsT {P : Program} {w : World} {K : PySem.W.Frag} {d : Addr} {o : Obj} {es : Array DictEntry} {ep : Nat} {kvs : List (List L2.Key × V)} {elts : List Expr} {kk : Nat} {tpos : Pos} (it : Addr) (hod : o.data = .dict es ep) :
    Turn P w K (.Tuple elts kk tpos) (Itit d o kvs) [it] it (fun i h => ∃ ok ov, IsItemIter h it d i kvs.length ep ok ov) where
  mem := by simp
  obj := fun i h st b hb => by
    have e : b = it := by simpa using hb
    subst e
    obtain ⟨ok, ov, e⟩ := st
    exact ⟨_, e, fun v z => nomatch z⟩
  keep := fun i h h' st k => let ⟨ok, ov, e⟩ := st; ⟨ok, ov, k it (by simp) _ e⟩
  item := by
    intro X hP hw hK hc i pins s σ H E I hf st hg
    subst hP hw hK
    obtain ⟨hd, hi⟩ := hg
    obtain ⟨hs, hgd, hx, es', ep', hdt, hsz, ent⟩ := frzTv I hd
    obtain ⟨rfl, rfl⟩ := dict_ep hod hdt
    obtain ⟨⟨k, v⟩, hkv⟩ : ∃ p, kvs[i]? = some p := ⟨kvs[i], List.getElem?_eq_getElem hi⟩
    obtain ⟨en, q, he, hkey, hq, hval⟩ := ent i k v hkv
    obtain ⟨ok, ov, hit⟩ := st
    rw [← hsz] at hit
    have hlt : it < s.heap.objs.size := Heap.lt_size hit
    have hi' : i < es'.size := by omega
    have een : es'[i] = en := by
      rw [Array.getElem?_eq_getElem hi'] at he
      exact Option.some.inj he
    refine wpAny_pyNext_items_item_raw hit ⟨o, hgd, hx, hdt⟩ hi' fun h' ho hT hz hk => ?_
    rw [een] at ho hT
    refine ⟨_, rfl, wpAny_letOwnedTupleGo_items (s := { s with heap := h' }) ho fun h'' he' sb => ?_⟩
    rw [hkey] at hT
    have hT2 : h''.get? s.heap.objs.size = some { cls := .type "tuple", data := .seq #[.ref q, en.val] } := (sb.2 _ (Nat.ne_of_gt hlt)).trans hT
    have new : ObjOk X.prog X.w (upd H s.heap.objs.size (.tup [.ref q, v])) h'' s.heap.objs.size (.tup [.ref q, v]) :=
      ⟨by show 2 ≤ sizeLine; decide, [.ref q, en.val], .cons rfl (.cons hval .nil), ⟨_, hT2, rfl, _, rfl⟩⟩
    have I1 : L2.Inv X pins σ (upd H s.heap.objs.size (.tup [.ref q, v])) { s with heap := h'' } :=
      I.turnedNew (t' := s.toks) (ch := [it]) (fun b ob hb e => (sb.2 b (by simpa using hb)).trans (hk b ob (by simpa using hb) e)) hf (Nat.le_refl _) new
    refine ⟨.ref s.heap.objs.size, _, I1, rfl, ⟨_, k, v, q, hkv, hq, rfl, I.hok.fresh (Nat.le_refl _), rfl⟩, ⟨en.key, en.val, ?_⟩, fun b hb => ?_⟩
    · rw [← hsz]; exact he'
    · have e : b = it := by simpa using hb
      rw [e, upd_ne (Nat.ne_of_lt hlt)]
      exact (hf it (by simp)).1
  done := by
    intro X hP hw hK hc i pins s σ H E I hf st hg
    subst hP hw hK
    obtain ⟨hd, hi⟩ := hg
    obtain ⟨f0, f1, f2, f3, f4, f5⟩ := hf it (by simp)
    obtain ⟨hs, hgd, hx, es', ep', hdt, hsz, ent⟩ := frzTv I hd
    obtain ⟨rfl, rfl⟩ := dict_ep hod hdt
    obtain ⟨ok, ov, hit⟩ := st
    rw [← hsz] at hit
    exact wpAny_pyNext_items_end_raw (I.ok.hd hc) hit ⟨o, hgd, hx, hdt⟩ (by omega) fun h' eb => ⟨rfl, I.turned (t' := s.toks) (fun b ob hb e => eb b ob hb e) f0 f1 f3 f4 f5⟩
  self := fun A i s Q E st h => let ⟨_, _, e⟩ := st; PySem.W.kcp_self e h
def iItemsT (td : TE) : TI := fun σ H R => td σ H fun x H1 => ∃ d o kvs, x = .ref d ∧ H1 d = some (.frz o (.dT kvs)) ∧ R (Itit d o kvs) H1
theorem pi_itemsT {X : Cx} {e : Expr} {td : TE} {apos cpos : Pos} {elts : List Expr} {kk : Nat} {tpos : Pos} (he : PE X e td) (hbase : attributeBase e "items" X.env (eval e X.env) = eval e X.env := by rfl) (hline : (apos.endLine == cpos.line) = true := by rfl) :
    PI X (.Tuple elts kk tpos) (.Call (.Attribute e "items" apos) [] [] cpos) (iItemsT td) := by
  refine ⟨fun pins s σ H R I h => ?_⟩
  refine wpAny_Call_method (T := "dict") (id := "dict.items") hbase rfl hline F.plainAttrs_dict F.slot_dict_items F.type_dict_items (thn (he.run pins s σ H _ I h) fun u s1 ⟨x, H1, I1, rx, d, o, kvs, ex, hd, q⟩ => ?_)
  subst ex
  obtain rfl : u = Value.ref d := rx
  obtain ⟨hs, hgd, hx, es, ep, hdt, hsz, ent⟩ := frzTv I1 hd
  have raw : s1.heap.DictRaw d es ep := ⟨o, hgd, hx, hdt⟩
  have nod : ∃ o', s1.heap.get? d = some o' ∧ o'.dict = none := ⟨o, hgd, hx.2.1⟩
  refine ⟨raw.typeIs, ?_, ?_⟩
  · intro a ea
    cases ea
    exact nod
  have I2 : L2.Inv X pins σ H1 { s1 with heap := s1.heap.push { cls := .type "dict_items", data := .fields #[.ref d] } } := I1.kept (t' := s1.toks) fun b ob q => Heap.get?_push_of_some _ q
  have fin : wpAny (model X.prog X.w) X.A (pyIter (.ref s1.heap.objs.size)) (PIE X pins σ (.Tuple elts kk tpos) R) X.xe { s1 with heap := s1.heap.push { cls := .type "dict_items", data := .fields #[.ref d] } } := by
    refine wpAny_pyIter_items_raw (d := d) ⟨_, Heap.get?_push_size _ rfl, rfl, rfl⟩ (raw.at fun ob q => Heap.get?_push_of_some _ q) (pi_one (tk := s1.toks) I2 _ (turn_itemsT _ hdt) ⟨.none, .none, ?_⟩ q)
    rw [← hsz]
    exact Heap.get?_push_size _ rfl
  show wpAny _ _ (callWith cpos (.builtin "dict.items") [.ref d] [] []) _ X.xe s1
  exact method_meetsIn F.slot_dict_items F.entry_dict_items rfl (PySem.evalArgs_none ⟨rfl, raw.typeIs, F.args_dict_items_1 _, _, meets_dict_items_raw d hs, ⟨es, ep, raw⟩, fin⟩)
end R1

set_option Elab.async false
set_option linter.all false
set_option maxRecDepth 100000
set_option maxHeartbeats 4000000
/-! CoreC: what is walked, targets, comprehensions, loops, blocks, calls: over deep data. -/
namespace R1
open PySem PySem.Spec PyProof.Rows L2 Evl

/-! ### what is walked -/
def WI (X : Cx) (tg iter : Expr) : TI := fun σ H R => ∀ (pins : List (Addr × Obj)) (s : Shared), L2.Inv X pins σ H s → wpAny (model X.prog X.w) X.A (eval iter X.env) (fun v s1 => wpAny (model X.prog X.w) X.A (pyIter v) (PIE X pins σ tg R) X.xe s1) X.xe s
theorem pi_wi {X : Cx} {tg iter : Expr} : PI X tg iter (WI X tg iter) := ⟨fun pins s _ _ _ I h => h pins s I⟩
/-- it gives the data ds, whatever else is laid meanwhile; G: what is asked of the heap -/
structure ItOk (J : It) (I : Hp) (G : Hp → Prop) (ds : List PyData) : Prop where
  go : ∀ i I2 H2, Ex I I2 → Ex I2 H2 → G H2 → i < ds.length → J.go i H2
  yld : ∀ i I2 H2 x H3, Ex I I2 → Ex I2 H2 → G H2 → i < ds.length → J.yld i H2 x H3 → ∃ I3 d, Nw I2 H2 I3 H3 ∧ ds[i]? = some d ∧ Rp I3 x d
  stop : ∀ I2 H2, Ex I I2 → Ex I2 H2 → G H2 → J.stop ds.length H2
abbrev GT : Hp → Prop := fun _ => True
def IT (X : Cx) (ρ : Ro) (tg iter : Expr) (ds : List PyData) : Prop := ∀ (I : Hp) (σ : L2.St) (H : Hp), Ex I H → VS I σ ρ → ∀ R : It → Hp → Prop, (∀ J I' H', Nw I H I' H' → ItOk J I' GT ds → R J H') → WI X tg iter σ H R
theorem it_of {X : Cx} {ρ : Ro} {tg iter : Expr} {ds : List PyData} {wi : TI} (h : PI X tg iter wi) (q : ∀ (I : Hp) (σ : L2.St) (H : Hp), Ex I H → VS I σ ρ → ∀ R : It → Hp → Prop, (∀ J I' H', Nw I H I' H' → ItOk J I' GT ds → R J H') → wi σ H R) : IT X ρ tg iter ds :=
  fun I σ H hx vs R k pins s i => h.run pins s σ H R i (q I σ H hx vs R k)
theorem pa1 {X : Cx} {a : Expr} (hs : starEach [a] X.env = [(false, eval a X.env)]) : PA X [a] (tCons (WE X a) tNil) := pa_cons pe_we pa_nil (by rw [hs] <;> rfl)
theorem pa2 {X : Cx} {a b : Expr} (hs : starEach [a, b] X.env = (false, eval a X.env) :: starEach [b] X.env) (hs2 : starEach [b] X.env = [(false, eval b X.env)]) : PA X [a, b] (tCons (WE X a) (tCons (WE X b) tNil)) := pa_cons pe_we (pa1 hs2) hs
section
variable {X : Cx} {ρ : Ro} {tg iter e a b : Expr} {ds es : List PyData} {K : PySem.W.Frag} {pos p : Pos}
theorem itok_list {I : Hp} {a : Addr} {xs : List V} {G : Hp → Prop} (h : I a = some (.lst xs)) (r : RpAll I xs ds) : ItOk (Itl K a) I G ds := by
  have l : ∀ I2 H2, Ex I I2 → Ex I2 H2 → SqL K H2 a xs := fun I2 H2 e1 e2 => SqL.of (e2 _ _ (e1 _ _ h))
  refine ⟨fun i I2 H2 e1 e2 _ hi => ?_, fun i I2 H2 x H3 e1 e2 _ hi y => ?_, fun I2 H2 e1 e2 _ => ⟨xs, l I2 H2 e1 e2, by rw [r.length]; exact Nat.le_refl _⟩⟩
  · have : i < xs.length := by rw [r.length]; exact hi
    exact ⟨xs, xs[i], l I2 H2 e1 e2, List.getElem?_eq_getElem this⟩
  · obtain ⟨rfl, q⟩ := y
    obtain ⟨d, hd, rd⟩ := r.getV (q xs (l I2 H3 e1 e2))
    exact ⟨I2, d, .refl e2, hd, rd.up e1⟩
theorem itok_tup {I : Hp} {a : Addr} {xs : List V} {G : Hp → Prop} (h : I a = some (.tup xs)) (r : RpAll I xs ds) : ItOk (Itt K a) I G ds := by
  have l : ∀ I2 H2, Ex I I2 → Ex I2 H2 → SqT K H2 a xs := fun I2 H2 e1 e2 => SqT.of (e2 _ _ (e1 _ _ h))
  refine ⟨fun i I2 H2 e1 e2 _ hi => ?_, fun i I2 H2 x H3 e1 e2 _ hi y => ?_, fun I2 H2 e1 e2 _ => ⟨xs, l I2 H2 e1 e2, by rw [r.length]; exact Nat.le_refl _⟩⟩
  · have : i < xs.length := by rw [r.length]; exact hi
    exact ⟨xs, xs[i], l I2 H2 e1 e2, List.getElem?_eq_getElem this⟩
  · obtain ⟨rfl, q⟩ := y
    obtain ⟨d, hd, rd⟩ := r.getV (q xs (l I2 H3 e1 e2))
    exact ⟨I2, d, .refl e2, hd, rd.up e1⟩
theorem it_list (h : E X ρ e (.list ds)) : IT X ρ tg e ds := it_of (pi_list pe_we) fun I σ H hx vs R k => h I σ H hx vs _ fun v I1 H1 n1 r1 => by
  cases r1 with
  | lst ha hs => exact ⟨_, rfl, ⟨_, SqL.of (n1.j _ _ ha)⟩, k _ I1 H1 n1 (itok_list ha hs)⟩
theorem it_tup (h : E X ρ e (.tuple ds)) : IT X ρ tg e ds := it_of (pi_tup pe_we) fun I σ H hx vs R k => h I σ H hx vs _ fun v I1 H1 n1 r1 => by
  cases r1 with
  | tup ha hs => exact ⟨_, rfl, ⟨_, SqT.of (n1.j _ _ ha)⟩, k _ I1 H1 n1 (itok_tup ha hs)⟩
/-- whole numbers from lo on -/
def upto (lo : Int) (n : Nat) : List PyData := (List.range n).map fun (i : Nat) => PyData.int (lo + (i : Int))
theorem upto_len {lo : Int} {n : Nat} : (upto lo n).length = n := by unfold upto; rw [List.length_map, List.length_range]
theorem upto_get {lo : Int} {n i : Nat} (h : i < n) : (upto lo n)[i]? = some (.int (lo + (i : Int))) := by
  unfold upto
  rw [List.getElem?_map, List.getElem?_range h]
  rfl
theorem itok_range {I : Hp} {lo : Int} {n : Nat} {G : Hp → Prop} : ItOk (Itr lo n) I G (upto lo n) := by
  refine ⟨fun i I2 H2 _ _ _ hi => by rw [upto_len] at hi; exact hi, fun i I2 H2 x H3 _ e2 _ hi y => ?_, fun I2 H2 _ _ _ => by rw [upto_len]; exact Nat.le_refl _⟩
  obtain ⟨rfl, rfl⟩ := y
  rw [upto_len] at hi
  exact ⟨I2, _, .refl e2, upto_get hi, .int _⟩
theorem it_range1 {n : Int} (hg : Gl X "range") (hm : X.mg "range" = none) (h : E X ρ a (.int n)) (h1 : -(2 ^ 62) ≤ n := by omega) (h2 : n < 2 ^ 62 := by omega) (hs : starEach [a] X.env = [(false, eval a X.env)] := by rfl) :
    IT X ρ tg (.Call (.Name "range" p) [a] [] pos) (upto 0 n.toNat) := it_of (pi_range1 hg hm (pa1 hs) hs) fun I σ H hx vs R k => h I σ H hx vs _ fun v I1 H1 n1 r1 => by
  cases r1
  exact ⟨n, rfl, h1, h2, k _ I1 H1 n1 itok_range⟩
theorem it_range2 {m n : Int} (hg : Gl X "range") (hm : X.mg "range" = none) (ha : E X ρ a (.int m)) (hb : E X ρ b (.int n)) (h1 : -(2 ^ 62) ≤ m ∧ m < 2 ^ 62 := by omega) (h2 : -(2 ^ 62) ≤ n ∧ n < 2 ^ 62 := by omega)
    (hs : starEach [a, b] X.env = [(false, eval a X.env), (false, eval b X.env)] := by rfl) (hs2 : starEach [b] X.env = [(false, eval b X.env)] := by rfl) :
    IT X ρ tg (.Call (.Name "range" p) [a, b] [] pos) (upto m (n - m).toNat) := it_of (pi_range2 hg hm (pa2 (by rw [hs, hs2]) hs2) hs hs2) fun I σ H hx vs R k => ha I σ H hx vs _ fun v I1 H1 n1 r1 =>
  hb I1 σ H1 n1.j (vs.up n1.i) _ fun u I2 H2 n2 r2 => by
    cases r1
    cases r2
    exact ⟨m, n, rfl, ⟨h1.1, h1.2, h2.1, h2.2⟩, k _ I2 H2 (n1.trans n2) itok_range⟩
/-- a list (false), a tuple (true) of data -/
def seqD : Bool → List PyData → PyData
  | false, ds => .list ds
  | true, ds => .tuple ds
theorem Rp.seqB {I : Hp} {v : V} : ∀ {k : Bool}, Rp I v (seqD k ds) → ∃ a xs, v = .ref a ∧ SqB K k I a xs ∧ RpAll I xs ds ∧ (I a = some (if k then .tup xs else .lst xs))
  | false, .lst h hs => ⟨_, _, rfl, SqL.of h, hs, h⟩
  | true, .tup h hs => ⟨_, _, rfl, SqT.of h, hs, h⟩
def pairs (ds es : List PyData) : List PyData := (ds.zip es).map fun p => .tuple [p.1, p.2]
theorem pairs_len : (pairs ds es).length = min ds.length es.length := by unfold pairs; rw [List.length_map, List.length_zip]
theorem pairs_get {i : Nat} {d f : PyData} (h : ds[i]? = some d) (k : es[i]? = some f) : (pairs ds es)[i]? = some (.tuple [d, f]) := by
  unfold pairs
  rw [List.getElem?_map]
  have : (ds.zip es)[i]? = some (d, f) := by
    rw [List.getElem?_zip_eq_some]
    exact ⟨h, k⟩
  rw [this]
  rfl
theorem sqB_uniq {H : Hp} {a : Addr} {xs ys : List V} : ∀ {k : Bool}, H a = some (if k then .tup xs else .lst xs) → ∀ (K : PySem.W.Frag), (∀ zs, SqB K k H a zs → zs = ys) → xs = ys
  | false, h, K, q => q xs (SqL.of h)
  | true, h, K, q => q xs (SqT.of h)
theorem sqB_mk {K : PySem.W.Frag} {H : Hp} {a : Addr} {xs : List V} : ∀ {k : Bool}, H a = some (if k then .tup xs else .lst xs) → SqB K k H a xs
  | false, h => SqL.of h
  | true, h => SqT.of h
theorem it_zip {k l : Bool} {elts : List Expr} {kk : Nat} {tpos : Pos} (hg : Gl X "zip") (hm : X.mg "zip" = none) (ha : E X ρ a (seqD k ds)) (hb : E X ρ b (seqD l es))
    (hs : starEach [a, b] X.env = (false, eval a X.env) :: starEach [b] X.env := by rfl) (hs2 : starEach [b] X.env = [(false, eval b X.env)] := by rfl) (hpl : (backTo pos (starEach [b] X.env)).any (·.1) = false := by rfl) :
    IT X ρ (.Tuple elts kk tpos) (.Call (.Name "zip" p) [a, b] [] pos) (pairs ds es) := it_of (pi_zipM (k := k) (l := l) hg hm (pa2 hs hs2) hs hpl) fun I σ H hx vs R z =>
  ha I σ H hx vs _ fun v I1 H1 n1 r1 => hb I1 σ H1 n1.j (vs.up n1.i) _ fun u I2 H2 n2 r2 => by
    obtain ⟨a1, xs, rfl, sx, rx, ex⟩ := Rp.seqB (K := X.K) (r1.up n2.i)
    obtain ⟨b1, ys, rfl, sy, ry, ey⟩ := Rp.seqB (K := X.K) r2
    refine ⟨a1, b1, xs, ys, rfl, sx.up n2.j, sy.up n2.j, z _ I2 H2 (n1.trans n2) ?_⟩
    have lx : ∀ I3 H3, Ex I2 I3 → Ex I3 H3 → SqB X.K k H3 a1 xs := fun I3 H3 e1 e2 => sx.up (e1.trans e2)
    have ly : ∀ I3 H3, Ex I2 I3 → Ex I3 H3 → SqB X.K l H3 b1 ys := fun I3 H3 e1 e2 => sy.up (e1.trans e2)
    refine ⟨fun i I3 H3 e1 e2 _ hi => ?_, fun i I3 H3 x H4 e1 e2 _ hi y => ?_, fun I3 H3 e1 e2 _ => ⟨xs, ys, lx I3 H3 e1 e2, ly I3 H3 e1 e2, by rw [pairs_len, rx.length, ry.length]⟩⟩
    · rw [pairs_len, ← rx.length, ← ry.length] at hi
      have h1 : i < xs.length := by omega
      have h2 : i < ys.length := by omega
      exact ⟨xs, ys, xs[i], ys[i], lx I3 H3 e1 e2, ly I3 H3 e1 e2, List.getElem?_eq_getElem h1, List.getElem?_eq_getElem h2⟩
    · obtain ⟨T, x1, y1, rfl, hT, rfl, f1, f2⟩ := y
      obtain ⟨d1, g1, s1⟩ := rx.getV (f1 xs (lx I3 H3 e1 e2))
      obtain ⟨d2, g2, s2⟩ := ry.getV (f2 ys (ly I3 H3 e1 e2))
      have nw := Nw.new (o := .tup [x1, y1]) e2 hT
      exact ⟨_, _, nw, pairs_get g1 g2, .tup upd_same (.cons ((s1.up e1).up nw.i) (.cons ((s2.up e1).up nw.i) .nil))⟩
def counted (ds : List PyData) : List PyData := pairs (upto 0 ds.length) ds
theorem counted_len : (counted ds).length = ds.length := by unfold counted; rw [pairs_len, upto_len, Nat.min_self]
theorem counted_get {i : Nat} {d : PyData} (h : ds[i]? = some d) : (counted ds)[i]? = some (.tuple [.int (i : Int), d]) := by
  have hi : i < ds.length := (List.getElem?_eq_some_iff.mp h).1
  have := pairs_get (es := ds) (upto_get (lo := 0) hi) h
  rw [Int.zero_add] at this
  exact this
theorem it_enum {k : Bool} {elts : List Expr} {kk : Nat} {tpos : Pos} (hg : Gl X "enumerate") (hm : X.mg "enumerate" = none) (ha : E X ρ a (seqD k ds)) (hs : starEach [a] X.env = [(false, eval a X.env)] := by rfl) :
    IT X ρ (.Tuple elts kk tpos) (.Call (.Name "enumerate" p) [a] [] pos) (counted ds) := it_of (pi_enumM (k := k) hg hm (pa1 hs) hs) fun I σ H hx vs R z =>
  ha I σ H hx vs _ fun v I1 H1 n1 r1 => by
    obtain ⟨a1, xs, rfl, sx, rx, ex⟩ := Rp.seqB (K := X.K) r1
    refine ⟨a1, xs, rfl, sx.up n1.j, z _ I1 H1 n1 ?_⟩
    have lx : ∀ I3 H3, Ex I1 I3 → Ex I3 H3 → SqB X.K k H3 a1 xs := fun I3 H3 e1 e2 => sx.up (e1.trans e2)
    refine ⟨fun i I3 H3 e1 e2 _ hi => ?_, fun i I3 H3 x H4 e1 e2 _ hi y => ?_, fun I3 H3 e1 e2 _ => ⟨xs, lx I3 H3 e1 e2, by rw [counted_len, rx.length]⟩⟩
    · rw [counted_len, ← rx.length] at hi
      exact ⟨xs, xs[i], lx I3 H3 e1 e2, List.getElem?_eq_getElem hi⟩
    · obtain ⟨T, x1, rfl, hT, rfl, f1⟩ := y
      obtain ⟨d1, g1, s1⟩ := rx.getV (f1 xs (lx I3 H3 e1 e2))
      have nw := Nw.new (o := .tup [.int (i : Nat), x1]) e2 hT
      exact ⟨_, _, nw, counted_get g1, .tup upd_same (.cons (.int _) (.cons ((s1.up e1).up nw.i) .nil))⟩
end

/-! ### targets -/
structure Gt (g : TG) (ts : List Nat) (ρ : Ro) (d : PyData) (ρ' : Ro) : Prop where
  run : ∀ (I : Hp) (σ : L2.St) (H : Hp) (v : V), Ex I H → VS I σ ρ → Rp I v d → ∀ Q : L2.St → Hp → Prop, (∀ σ', VS I σ' ρ' → (∀ j, j ∉ ts → σ'[j]? = σ[j]?) → σ'.length = σ.length → Q σ' H) → g v σ H Q
theorem set_other {σ : L2.St} {i : Nat} {x : Option V} {ts : List Nat} (hi : i ∈ ts) : ∀ j, j ∉ ts → (σ.set i x)[j]? = σ[j]? := fun j hj => List.getElem?_set_ne fun e => hj (by rw [← e]; exact hi)
theorem gt_name {i : Nat} {ts : List Nat} {ρ : Ro} {d : PyData} (hi : i ∈ ts) : Gt (gName i) ts ρ d (ρ.set i (some d)) := ⟨fun I σ H v hx vs r Q q => q _ (vs.set r) (set_other hi) (List.length_set ..)⟩
theorem gt_tup2 {K : PySem.W.Frag} {i j : Nat} {ts : List Nat} {ρ : Ro} {d f : PyData} (hi : i ∈ ts) (hj : j ∈ ts) : Gt (gTup K 2 (gCons (gName i) (gCons (gName j) gNil))) ts ρ (.tuple [d, f]) ((ρ.set i (some d)).set j (some f)) := by
  refine ⟨fun I σ H v hx vs r Q q => ?_⟩
  cases r with
  | tup ha hs =>
    cases hs with
    | cons h1 h2 =>
      cases h2 with
      | cons h2 h3 =>
        cases h3
        refine ⟨_, _, rfl, SqT.of (hx _ _ ha), rfl, _, _, rfl, _, _, rfl, rfl, ?_⟩
        exact q _ ((vs.set h1).set h2) (fun k hk => by rw [set_other hj k hk, set_other hi k hk]) (by rw [List.length_set, List.length_set])
theorem gt_tup3 {K : PySem.W.Frag} {i j l : Nat} {ts : List Nat} {ρ : Ro} {d f h : PyData} (hi : i ∈ ts) (hj : j ∈ ts) (hl : l ∈ ts) :
    Gt (gTup K 3 (gCons (gName i) (gCons (gName j) (gCons (gName l) gNil)))) ts ρ (.tuple [d, f, h]) (((ρ.set i (some d)).set j (some f)).set l (some h)) := by
  refine ⟨fun I σ H v hx vs r Q q => ?_⟩
  cases r with
  | tup ha hs =>
    cases hs with
    | cons h1 h2 =>
      cases h2 with
      | cons h2 h3 =>
        cases h3 with
        | cons h3 h4 =>
          cases h4
          refine ⟨_, _, rfl, SqT.of (hx _ _ ha), rfl, _, _, rfl, _, _, rfl, _, _, rfl, rfl, ?_⟩
          exact q _ (((vs.set h1).set h2).set h3) (fun k hk => by rw [set_other hl k hk, set_other hj k hk, set_other hi k hk]) (by rw [List.length_set, List.length_set, List.length_set])

/-! ### comprehensions -/
def wipeR (ρ : Ro) : List Nat → Ro
  | [] => ρ
  | v :: vs => (wipeR ρ vs).set v none
theorem VS.wipe {I : Hp} {σ : L2.St} {ρ : Ro} (h : VS I σ ρ) : ∀ vs : List Nat, VS I (L2.wipe σ vs) (wipeR ρ vs)
  | [] => h
  | v :: vs => (h.wipe vs).forget v none
theorem wipe_get (σ : L2.St) (j : Nat) : ∀ vs : List Nat, (L2.wipe σ vs)[j]? = if j ∈ vs ∧ j < σ.length then some none else σ[j]?
  | [] => by simp [L2.wipe]
  | v :: vs => by
    unfold L2.wipe
    by_cases e : v = j
    · subst e
      by_cases hl : v < σ.length
      · rw [List.getElem?_set_self (by rw [wipe_length]; exact hl), if_pos ⟨List.mem_cons_self, hl⟩]
      · rw [List.getElem?_eq_none (by rw [List.length_set, wipe_length]; omega), if_neg (fun z => hl z.2), List.getElem?_eq_none (by omega)]
    · rw [List.getElem?_set_ne e, wipe_get σ j vs]
      by_cases hj : j ∈ vs ∧ j < σ.length
      · rw [if_pos hj, if_pos ⟨List.mem_cons_of_mem _ hj.1, hj.2⟩]
      · rw [if_neg hj, if_neg fun z => hj ⟨(List.mem_cons.mp z.1).resolve_left fun q => e q.symm, z.2⟩]
theorem wipe_same {σ σ' : L2.St} {vs : List Nat} (h : ∀ j, j ∉ vs → σ'[j]? = (L2.wipe σ vs)[j]?) (hl : σ'.length = (L2.wipe σ vs).length) : L2.wipe σ' vs = L2.wipe σ vs := by
  refine List.ext_getElem? fun j => ?_
  rw [wipe_length] at hl
  rw [wipe_get, wipe_get σ]
  by_cases hj : j ∈ vs
  · by_cases hs : j < σ.length
    · rw [if_pos ⟨hj, by omega⟩, if_pos ⟨hj, hs⟩]
    · rw [if_neg (fun z => by omega), if_neg (fun z => hs z.2), List.getElem?_eq_none (by omega), List.getElem?_eq_none (by omega)]
  · rw [if_neg fun z => hj z.1, if_neg fun z => hj z.1, h j hj, wipe_get, if_neg fun z => hj z.1]
def WEb (X : Cx) (sc : Scope) (e : Expr) : TE := fun σ H Q => ∀ (s : Shared) (H0 : Hp) (C : Addr) (cl : List (Str × Addr)) (fp : List Addr), WE (X.blk s H0 sc (compEnvC sc cl C X.env) fp) e σ H Q
def WTb (X : Cx) (sc : Scope) (e : Expr) : TT := fun σ H Q => ∀ (s : Shared) (H0 : Hp) (C : Addr) (cl : List (Str × Addr)) (fp : List Addr), WT (X.blk s H0 sc (compEnvC sc cl C X.env) fp) e σ H Q
def Eb (X : Cx) (sc : Scope) (ρ : Ro) (e : Expr) (d : PyData) : Prop := ∀ (s : Shared) (H0 : Hp) (C : Addr) (cl : List (Str × Addr)) (fp : List Addr), E (X.blk s H0 sc (compEnvC sc cl C X.env) fp) ρ e d
def Tb (X : Cx) (sc : Scope) (ρ : Ro) (e : Expr) (b : Bool) : Prop := ∀ (s : Shared) (H0 : Hp) (C : Addr) (cl : List (Str × Addr)) (fp : List Addr), T (X.blk s H0 sc (compEnvC sc cl C X.env) fp) ρ e b
section
variable {X : Cx} {ρ : Ro} {tg iter elt c : Expr} {ds : List PyData} {scope : Scope} {own : List (Str × Nat)} {pos : Pos} {g : TG} {f : PyData → Bool} {F : PyData → PyData} {ρ' : PyData → Ro}
theorem take_filter {i : Nat} {d : PyData} (h : ds[i]? = some d) : ((ds.take (i + 1)).filter f).map F = ((ds.take i).filter f).map F ++ (if f d then [F d] else []) := by
  rw [List.take_add_one, h, List.filter_append, List.map_append]
  show _ ++ ([d].filter f).map F = _
  cases e : f d <;> simp [List.filter_cons, e]
/-- what stands at a turn: D the new list -/
def LcP (I H : Hp) (D : Addr) (f : PyData → Bool) (F : PyData → PyData) (ds : List PyData) (i : Nat) (H' : Hp) : Prop :=
  ∃ I2 acc, Ex I I2 ∧ Ex I2 H' ∧ I2 D = none ∧ H' D = some (.lst acc) ∧ Ex H H' ∧ (∀ a, I a = none → Ob H a → I2 a = none) ∧ RpAll I2 acc (((ds.take i).filter f).map F)
theorem lcp_len {I H H' : Hp} {D : Addr} {i : Nat} {acc : List V} {I2 : Hp} (r : RpAll I2 acc (((ds.take i).filter f).map F)) (h : ds.length < 100000) : acc.length < sizeLine := by
  rw [r.length, List.length_map]
  refine sz_lt (Nat.lt_of_le_of_lt (List.length_filter_le _ _) (Nat.lt_of_le_of_lt ?_ h))
  rw [List.length_take]
  exact Nat.min_le_right _ _
theorem tlcIf (it : IT X ρ tg iter ds)
    (gt : ∀ d, d ∈ ds → Gt g (own.map (·.2)) (wipeR ρ (own.map (·.2))) d (ρ' d)) (ht : ∀ d, d ∈ ds → Tb X scope (ρ' d) c (f d)) (he : ∀ d, d ∈ ds → f d = true → Eb X scope (ρ' d) elt (F d)) (hl : ds.length < 100000)
    {I : Hp} {σ : L2.St} {H : Hp} (hx : Ex I H) (vs : VS I σ ρ) (Q : VK) (k : ∀ v I' H', Nw I H I' H' → Rp I' v (.list ((ds.filter f).map F)) → Q v H') : tLc (WI X tg iter) g (WTb X scope c) (WEb X scope elt) (own.map (·.2)) σ H Q := by
  refine it I σ H hx vs _ fun J I1 H1 n1 ok1 D hD => ?_
  have hD0 : I1 D = none := fresh_back n1.j hD
  refine ⟨fun i m H' => m = ds.length - i ∧ i ≤ ds.length ∧ LcP I1 H1 D f F ds i H', ⟨ds.length, rfl, Nat.zero_le _, I1, [], Ex.refl _, n1.j.trans (Ex.new hD), hD0, upd_same, Ex.new hD, fun a e _ => e, .nil⟩, ?_⟩
  rintro i m H2 ⟨rfl, hi, I2, acc, a1, a2, a3, a4, a5, a6, a7⟩
  by_cases hlt : i < ds.length
  · refine .inr ⟨ok1.go i I2 H2 a1 a2 trivial hlt, LcP I1 H1 D f F ds (i + 1), fun H' p' => ⟨ds.length - (i + 1), by omega, rfl, hlt, p'⟩, fun x H3 y => ?_⟩
    obtain ⟨I3, d, n3, hd, rd⟩ := ok1.yld i I2 H2 x H3 a1 a2 trivial hlt y
    have hm : d ∈ ds := List.mem_of_getElem? hd
    refine (gt d hm).run I3 (L2.wipe σ (own.map (·.2))) H3 x n3.j (((vs.up n1.i).up (a1.trans n3.i)).wipe _) rd _ ?_
    intro σ2 vs2 ag hl2
    refine ⟨wipe_same ag hl2, ?_⟩
    have D3 := n3.keep a4 a3
    intro s0 H0 C cl fp
    refine ht d hm s0 H0 C cl fp I3 σ2 H3 n3.j vs2 _ fun I4 H4 n4 => ?_
    have D4 := n4.keep D3.1 D3.2
    have k4 : ∀ a, I1 a = none → Ob H1 a → I4 a = none := fun a e z => n4.k a (n3.k a (a6 a e z) (z.up a5)) (z.up (a5.trans n3.h))
    cases hf : f d with
    | true =>
      rw [if_pos rfl]
      intro s0 H0 C cl fp
      refine he d hm hf s0 H0 C cl fp I4 σ2 H4 n4.j (vs2.up n4.i) _ fun v5 I5 H5 n5 r5 => ?_
      have D5 := n5.keep D4.1 D4.2
      refine ⟨acc, D5.1, lcp_len (I := I1) (H := H1) (H' := H2) (D := D) a7 hl, I5, acc ++ [v5], ((a1.trans n3.i).trans n4.i).trans n5.i, n5.j.mut D5.2, D5.2, upd_same, (((a5.trans n3.h).trans n4.h).trans n5.h).mut hD, fun a e z => n5.k a (k4 a e z) (z.up ((a5.trans n3.h).trans n4.h)), ?_⟩
      · rw [take_filter hd, hf, if_pos rfl]
        exact (a7.up ((n3.i.trans n4.i).trans n5.i)).snoc r5
    | false =>
      rw [if_neg Bool.false_ne_true]
      refine ⟨I4, acc, (a1.trans n3.i).trans n4.i, n4.j, D4.2, D4.1, (a5.trans n3.h).trans n4.h, k4, ?_⟩
      rw [take_filter hd, hf, if_neg Bool.false_ne_true, List.append_nil]
      exact a7.up (n3.i.trans n4.i)
  · have e : i = ds.length := by omega
    subst e
    have nw : Nw I1 H1 (upd I2 D (.lst acc)) H2 := by
      refine ⟨a1.trans (Ex.new a3), fun a o q => ?_, a5, fun a e z => ?_⟩
      · by_cases h : a = D
        · subst h; rw [upd_same] at q; rw [a4]; exact q
        · rw [upd_ne h] at q; exact a2 a o q
      · rw [upd_ne (z.ne hD)]
        exact a6 a e z
    refine .inl ⟨ok1.stop I2 H2 a1 a2 trivial, k _ _ _ (n1.trans nw) ?_⟩
    rw [List.take_length] at a7
    exact .lst upd_same (a7.up (Ex.new a3))
theorem tlc (it : IT X ρ tg iter ds)
    (gt : ∀ d, d ∈ ds → Gt g (own.map (·.2)) (wipeR ρ (own.map (·.2))) d (ρ' d)) (he : ∀ d, d ∈ ds → Eb X scope (ρ' d) elt (F d)) (hl : ds.length < 100000)
    {I : Hp} {σ : L2.St} {H : Hp} (hx : Ex I H) (vs : VS I σ ρ) (Q : VK) (k : ∀ v I' H', Nw I H I' H' → Rp I' v (.list (ds.map F)) → Q v H') : tLc (WI X tg iter) g tYes (WEb X scope elt) (own.map (·.2)) σ H Q := by
  refine it I σ H hx vs _ fun J I1 H1 n1 ok1 D hD => ?_
  have hD0 : I1 D = none := fresh_back n1.j hD
  refine ⟨fun i m H' => m = ds.length - i ∧ i ≤ ds.length ∧ LcP I1 H1 D (fun _ => true) F ds i H', ⟨ds.length, rfl, Nat.zero_le _, I1, [], Ex.refl _, n1.j.trans (Ex.new hD), hD0, upd_same, Ex.new hD, fun a e _ => e, .nil⟩, ?_⟩
  rintro i m H2 ⟨rfl, hi, I2, acc, a1, a2, a3, a4, a5, a6, a7⟩
  by_cases hlt : i < ds.length
  · refine .inr ⟨ok1.go i I2 H2 a1 a2 trivial hlt, LcP I1 H1 D (fun _ => true) F ds (i + 1), fun H' p' => ⟨ds.length - (i + 1), by omega, rfl, hlt, p'⟩, fun x H3 y => ?_⟩
    obtain ⟨I3, d, n3, hd, rd⟩ := ok1.yld i I2 H2 x H3 a1 a2 trivial hlt y
    have hm : d ∈ ds := List.mem_of_getElem? hd
    refine (gt d hm).run I3 (L2.wipe σ (own.map (·.2))) H3 x n3.j (((vs.up n1.i).up (a1.trans n3.i)).wipe _) rd _ ?_
    intro σ2 vs2 ag hl2
    refine ⟨wipe_same ag hl2, ?_⟩
    have D3 := n3.keep a4 a3
    unfold tYes
    dsimp only
    rw [if_pos rfl]
    intro s0 H0 C cl fp
    refine he d hm s0 H0 C cl fp I3 σ2 H3 n3.j vs2 _ fun v5 I5 H5 n5 r5 => ?_
    have D5 := n5.keep D3.1 D3.2
    refine ⟨acc, D5.1, lcp_len (I := I1) (H := H1) (H' := H2) (D := D) a7 hl, I5, acc ++ [v5], (a1.trans n3.i).trans n5.i, n5.j.mut D5.2, D5.2, upd_same, ((a5.trans n3.h).trans n5.h).mut hD, fun a e z => ?_, ?_⟩
    · exact n5.k a (n3.k a (a6 a e z) (z.up a5)) (z.up (a5.trans n3.h))
    · rw [take_filter hd, if_pos rfl]
      exact (a7.up (n3.i.trans n5.i)).snoc r5
  · have e : i = ds.length := by omega
    subst e
    have nw : Nw I1 H1 (upd I2 D (.lst acc)) H2 := by
      refine ⟨a1.trans (Ex.new a3), fun a o q => ?_, a5, fun a e z => ?_⟩
      · by_cases h : a = D
        · subst h; rw [upd_same] at q; rw [a4]; exact q
        · rw [upd_ne h] at q; exact a2 a o q
      · rw [upd_ne (z.ne hD)]
        exact a6 a e z
    refine .inl ⟨ok1.stop I2 H2 a1 a2 trivial, k _ _ _ (n1.trans nw) ?_⟩
    rw [List.take_length, List.filter_eq_self.mpr fun _ _ => rfl] at a7
    exact .lst upd_same (a7.up (Ex.new a3))
/-- the target of a comprehension: one name, two, three -/
abbrev PGb (X : Cx) (scope : Scope) (tg : Expr) (g : TG) : Prop := ∀ (s : Shared) (H : Hp) (C : Addr) (cl : List (Str × Addr)) (fp : List Addr), PG (X.blk s H scope (compEnvC scope cl C X.env) fp) tg g
theorem e_lcIf (hc : X.calm = true) (hN : X.N.Nodup) (ok : BlkOk X.N X.env.scope scope own) (hg : PGb X scope tg g) (it : IT X ρ tg iter ds)
    (gt : ∀ d, d ∈ ds → Gt g (own.map (·.2)) (wipeR ρ (own.map (·.2))) d (ρ' d)) (ht : ∀ d, d ∈ ds → Tb X scope (ρ' d) c (f d)) (he : ∀ d, d ∈ ds → f d = true → Eb X scope (ρ' d) elt (F d)) (hl : ds.length < 100000)
    (hs : ∀ x, foldedSetIterable iter X.env x = pure x := by intro _; rfl) : E X ρ (.ListComp elt [⟨tg, iter, [c], 0⟩] scope pos) (.list ((ds.filter f).map F)) :=
  e_of (pe_lc (wi := WI X tg iter) (g := g) (tt := WTb X scope c) (te := WEb X scope elt) hc hN pi_wi ok hg (fun s H C cl fp => pts_one ⟨fun pins s' σ H' Q I h => h s H C cl fp pins s' I⟩) (fun s H C cl fp => ⟨fun pins s' σ H' Q I h => h s H C cl fp pins s' I⟩) hs) fun I σ H hx vs Q k =>
    tlcIf it gt ht he hl hx vs Q k
theorem e_lc (hc : X.calm = true) (hN : X.N.Nodup) (ok : BlkOk X.N X.env.scope scope own) (hg : PGb X scope tg g) (it : IT X ρ tg iter ds)
    (gt : ∀ d, d ∈ ds → Gt g (own.map (·.2)) (wipeR ρ (own.map (·.2))) d (ρ' d)) (he : ∀ d, d ∈ ds → Eb X scope (ρ' d) elt (F d)) (hl : ds.length < 100000)
    (hs : ∀ x, foldedSetIterable iter X.env x = pure x := by intro _; rfl) : E X ρ (.ListComp elt [⟨tg, iter, [], 0⟩] scope pos) (.list (ds.map F)) :=
  e_of (pe_lc (wi := WI X tg iter) (g := g) (tt := tYes) (te := WEb X scope elt) hc hN pi_wi ok hg (fun s H C cl fp => pts_nil) (fun s H C cl fp => ⟨fun pins s' σ H' Q I h => h s H C cl fp pins s' I⟩) hs) fun I σ H hx vs Q k =>
    tlc it gt he hl hx vs Q k
end
end R1

set_option Elab.async false
set_option linter.all false
set_option maxRecDepth 100000
set_option maxHeartbeats 4000000
/-! CoreD: built-ins, items, blocks, calls: over deep data. -/
namespace R1
open PySem PySem.Spec PyProof.Rows L2 Evl

/-! ### built-in functions and types, called with one argument -/
section
variable {X : Cx} {ρ : Ro} {e a b c : Expr} {ds es : List PyData} {d f : PyData} {pos p : Pos} {id Tn : String} {x : Str} {r : List V → Hp → VK → Prop}
theorem e_cb1 (hc : CallR X (.builtin id) r) (hg : Gl X x) (hm : X.mg x = none) (hv : bootBuiltins x = some (.builtin id)) (ha : E X ρ a d) (q : ∀ (I H : Hp) (v : V), Ex I H → Rp I v d → ∀ Q : VK, (∀ u I' H', Nw I H I' H' → Rp I' u f → Q u H') → r [v] H Q)
    (hn : x ≠ "__name__" := by decide) (hdb : (x == ("__debug__" : Str)) = false := by decide) (hs : starEach [a] X.env = [(false, eval a X.env)] := by rfl) : E X ρ (.Call (.Name x p) [a] [] pos) f :=
  e_of (pe_callB hc hg hm hv (pa1 hs) hn hdb hs rfl) fun I σ H hx vs Q k => ha I σ H hx vs _ fun v I1 H1 n1 r1 => q I1 H1 v n1.j r1 Q fun u I2 H2 n2 r2 => k u I2 H2 (n1.trans n2) r2
theorem e_ct1 (hc : CallR X (.type Tn) r) (hg : Gl X x) (hm : X.mg x = none) (hv : bootBuiltins x = some (.type Tn)) (ha : E X ρ a d) (q : ∀ (I H : Hp) (v : V), Ex I H → Rp I v d → ∀ Q : VK, (∀ u I' H', Nw I H I' H' → Rp I' u f → Q u H') → r [v] H Q)
    (hn : x ≠ "__name__" := by decide) (hdb : (x == ("__debug__" : Str)) = false := by decide) (hs : starEach [a] X.env = [(false, eval a X.env)] := by rfl) : E X ρ (.Call (.Name x p) [a] [] pos) f :=
  e_of (pe_callTy hc hg hm hv (pa1 hs) hn hdb hs rfl) fun I σ H hx vs Q k => ha I σ H hx vs _ fun v I1 H1 n1 r1 => q I1 H1 v n1.j r1 Q fun u I2 H2 n2 r2 => k u I2 H2 (n1.trans n2) r2
/-- len of a list or a tuple -/
theorem e_len {k : Bool} (hg : Gl X "len") (hm : X.mg "len" = none) (ha : E X ρ a (seqD k ds)) (hs : starEach [a] X.env = [(false, eval a X.env)] := by rfl) : E X ρ (.Call (.Name "len" p) [a] [] pos) (.int ds.length) :=
  e_cb1 call_len_seq hg hm PySem.boot_len ha (fun I H v hx r Q q => by
    obtain ⟨a, xs, rfl, s, ra, ea⟩ := Rp.seqB (K := X.K) r
    refine ⟨a, xs, rfl, ?_, ?_⟩
    · cases k with
      | false => exact .inl (ex_l hx s)
      | true => exact .inr (ex_t hx s)
    · rw [ra.length]; exact q _ I H (.refl hx) (.int _)) (by decide) (by decide) hs
/-- tuple of a list, of a tuple -/
theorem e_tupOf {k : Bool} (hg : Gl X "tuple") (hm : X.mg "tuple" = none) (ha : E X ρ a (seqD k ds)) (hs : starEach [a] X.env = [(false, eval a X.env)] := by rfl) : E X ρ (.Call (.Name "tuple" p) [a] [] pos) (.tuple ds) :=
  e_ct1 call_tuple_of hg hm PyProof.Rows.boot_tuple ha (fun I H v hx r Q q => by
    obtain ⟨a, xs, rfl, s, ra, ea⟩ := Rp.seqB (K := X.K) r
    refine ⟨a, xs, rfl, ?_⟩
    cases k with
    | false => exact .inl ⟨ex_l hx s, fun l hl => q _ _ _ (Nw.new hx hl) (.tup upd_same (ra.up (Nw.new (o := .tup xs) hx hl).i))⟩
    | true => exact .inr ⟨ex_t hx s, q _ I H (.refl hx) (.tup ea ra)⟩) (by decide) (by decide) hs
theorem e_listOf {k : Bool} (hg : Gl X "list") (hm : X.mg "list" = none) (ha : E X ρ a (seqD k ds)) (hs : starEach [a] X.env = [(false, eval a X.env)] := by rfl) : E X ρ (.Call (.Name "list" p) [a] [] pos) (.list ds) :=
  e_ct1 call_list_of hg hm PyProof.Rows.boot_list ha (fun I H v hx r Q q => by
    obtain ⟨a, xs, rfl, s, ra, ea⟩ := Rp.seqB (K := X.K) r
    refine ⟨a, xs, rfl, ?_, fun l hl => q _ _ _ (Nw.new hx hl) (.lst upd_same (ra.up (Nw.new (o := .lst xs) hx hl).i))⟩
    cases k with
    | false => exact .inl (ex_l hx s)
    | true => exact .inr (ex_t hx s)) (by decide) (by decide) hs
theorem e_all {bs : List Bool} (hc : X.calm = true) (hg : Gl X "all") (hm : X.mg "all" = none) (ha : E X ρ a (.list (bs.map .bool))) (hs : starEach [a] X.env = [(false, eval a X.env)] := by rfl) : E X ρ (.Call (.Name "all" p) [a] [] pos) (.bool (bs.all fun z => z)) :=
  e_cb1 (cr_all hc) hg hm (by decide +kernel) ha (fun I H v hx r Q q => by
    cases r with
    | lst ea ra =>
      have := ra.bools
      subst this
      exact ⟨_, bs, rfl, SqL.of (hx _ _ ea), q _ I H (.refl hx) (.bl _)⟩) (by decide) (by decide) hs
theorem e_sumL {ns : List Int} (hc : X.calm = true) (hg : Gl X "sum") (hm : X.mg "sum" = none) (ha : E X ρ a (.list (ns.map .int))) (hs : starEach [a] X.env = [(false, eval a X.env)] := by rfl) : E X ρ (.Call (.Name "sum" p) [a] [] pos) (.int ns.sum) :=
  e_cb1 (cr_sum hc) hg hm (by decide +kernel) ha (fun I H v hx r Q q => by
    cases r with
    | lst ea ra =>
      have := ra.ints
      subst this
      exact ⟨_, ns, rfl, SqL.of (hx _ _ ea), q _ I H (.refl hx) (.int _)⟩) (by decide) (by decide) hs
theorem e_abs {i : Int} (hg : Gl X "abs") (hm : X.mg "abs" = none) (ha : E X ρ a (.int i)) (hs : starEach [a] X.env = [(false, eval a X.env)] := by rfl) : E X ρ (.Call (.Name "abs" p) [a] [] pos) (.int (if i < 0 then -i else i)) :=
  e_cb1 call_abs hg hm (by decide +kernel) ha (fun I H v hx r Q q => by
    cases r
    exact ⟨i, rfl, q _ I H (.refl hx) (.int _)⟩) (by decide) (by decide) hs
theorem e_intI {i : Int} (hg : Gl X "int") (hm : X.mg "int" = none) (ha : E X ρ a (.int i)) (hs : starEach [a] X.env = [(false, eval a X.env)] := by rfl) : E X ρ (.Call (.Name "int" p) [a] [] pos) (.int i) :=
  e_ct1 call_int1 hg hm PyProof.Rows.boot_int ha (fun I H v hx r Q q => by
    cases r
    exact .inl ⟨i, rfl, q _ I H (.refl hx) (.int _)⟩) (by decide) (by decide) hs
theorem e_intB {k : Bool} (hg : Gl X "int") (hm : X.mg "int" = none) (ha : E X ρ a (.bool k)) (hs : starEach [a] X.env = [(false, eval a X.env)] := by rfl) : E X ρ (.Call (.Name "int" p) [a] [] pos) (.int (if k then 1 else 0)) :=
  e_ct1 call_int1 hg hm PyProof.Rows.boot_int ha (fun I H v hx r Q q => by
    cases r
    exact .inr ⟨k, rfl, q _ I H (.refl hx) (.int _)⟩) (by decide) (by decide) hs
theorem e_maxL {ns : List Int} {m : Int} (hc : X.calm = true) (hg : Gl X "max") (hm : X.mg "max" = none) (ha : E X ρ a (.list (ns.map .int))) (h0 : 0 < ns.length) (hmx : ∀ m', m' ∈ ns → (∀ y, y ∈ ns → y ≤ m') → m' = m)
    (hs : starEach [a] X.env = [(false, eval a X.env)] := by rfl) : E X ρ (.Call (.Name "max" p) [a] [] pos) (.int m) :=
  e_cb1 (cr_max hc) hg hm (by decide +kernel) ha (fun I H v hx r Q q => by
    cases r with
    | lst ea ra =>
      have := ra.ints
      subst this
      exact ⟨_, ns, rfl, SqL.of (hx _ _ ea), h0, fun m' h1 h2 => by rw [hmx m' h1 h2]; exact q _ I H (.refl hx) (.int _)⟩) (by decide) (by decide) hs
theorem e_max2 {i j : Int} (hc : X.calm = true) (hg : Gl X "max") (hm : X.mg "max" = none) (ha : E X ρ a (.int i)) (hb : E X ρ b (.int j))
    (hs : starEach [a, b] X.env = (false, eval a X.env) :: starEach [b] X.env := by rfl) (hs2 : starEach [b] X.env = [(false, eval b X.env)] := by rfl) : E X ρ (.Call (.Name "max" p) [a, b] [] pos) (.int (if j > i then j else i)) :=
  e_of (pe_callB (call_max2 hc) hg hm (by decide +kernel) (pa2 hs hs2) (by decide) (by decide) hs (by rw [hs2]; rfl)) fun I σ H hx vs Q k => ha I σ H hx vs _ fun v I1 H1 n1 r1 => hb I1 σ H1 n1.j (vs.up n1.i) _ fun u I2 H2 n2 r2 => by
    cases r1; cases r2
    exact ⟨i, j, rfl, k _ I2 H2 (n1.trans n2) (.int _)⟩

/-! ### isinstance -/
def tyD : PyData → String
  | .none => "NoneType"
  | .bool _ => "bool"
  | .int _ => "int"
  | .str _ => "str"
  | .list _ => "list"
  | .tuple _ => "tuple"
  | .dict _ => "dict"
def isDictD : PyData → Bool
  | .dict _ => true
  | _ => false
theorem tyX_of {K : PySem.W.Frag} {I H : Hp} {v : V} (hx : Ex I H) (r : Rp I v d) (nd : isDictD d = false) : TyX K H v (.type (tyD d)) := by
  cases r with
  | dct _ _ => cases nd
  | non => exact .base .non
  | bl b => exact .base (.bl b)
  | int i => exact .base (.int i)
  | str x => exact .base (.str x)
  | lst h _ => exact .base (.lst (hx _ _ h))
  | tup h _ => exact .base (.tup (hx _ _ h))
theorem pe_tyName {T : String} (hg : Gl X x) (hm : X.mg x = none) (hv : bootBuiltins x = some (.type T)) (hn : x ≠ "__name__" := by decide) (hd : (x == ("__debug__" : Str)) = false := by decide) : PE X (.Name x p) (tC (.ty T)) := pe_bltn hg hm hv rfl hn hd
/-- isinstance(a, T) -/
theorem e_isi {T : String} {y : Str} {k : Bool} {p1 : Pos} (hg : Gl X "isinstance") (hm : X.mg "isinstance" = none) (hgT : Gl X y) (hmT : X.mg y = none) (hvT : bootBuiltins y = some (.type T)) (ha : E X ρ a d) (nd : isDictD d = false) (hk : kitB (tyD d) T = some k)
    (hnT : y ≠ "__name__" := by decide) (hdT : (y == ("__debug__" : Str)) = false := by decide) (hs : starEach [a, .Name y p1] X.env = (false, eval a X.env) :: starEach [.Name y p1] X.env := by rfl) :
    E X ρ (.Call (.Name "isinstance" p) [a, .Name y p1] [] pos) (.bool k) :=
  e_of (pe_callB call_isi hg hm PyProof.Rows.boot_isinstance (pa_cons pe_we (pa_cons (pe_tyName hgT hmT hvT hnT hdT) pa_nil rfl) hs) (by decide) (by decide) hs rfl) fun I σ H hx vs Q q => ha I σ H hx vs _ fun v I1 H1 n1 r1 =>
    ⟨v, .ty T, _, _, k, rfl, .ty T, tyX_of n1.j r1 nd, kit_ty hk, q _ I1 H1 n1 (.bl _)⟩
/-- isinstance(a, (T, U)) -/
theorem e_isi2 {T U : String} {y z : Str} {k l : Bool} {p1 p2 p3 : Pos} {x1 : Nat} (hg : Gl X "isinstance") (hm : X.mg "isinstance" = none) (hgT : Gl X y) (hmT : X.mg y = none) (hvT : bootBuiltins y = some (.type T)) (hgU : Gl X z) (hmU : X.mg z = none) (hvU : bootBuiltins z = some (.type U)) (ha : E X ρ a d)
    (nd : isDictD d = false) (hk : kitB (tyD d) T = some k) (hl : kitB (tyD d) U = some l)
    (hnT : y ≠ "__name__" := by decide) (hdT : (y == ("__debug__" : Str)) = false := by decide) (hnU : z ≠ "__name__" := by decide) (hdU : (z == ("__debug__" : Str)) = false := by decide)
    (hs : starEach [a, .Tuple [.Name y p1, .Name z p2] x1 p3] X.env = (false, eval a X.env) :: starEach [.Tuple [.Name y p1, .Name z p2] x1 p3] X.env := by rfl) :
    E X ρ (.Call (.Name "isinstance" p) [a, .Tuple [.Name y p1, .Name z p2] x1 p3] [] pos) (.bool (k || l)) :=
  e_of (pe_callB call_isiT hg hm PyProof.Rows.boot_isinstance (pa_cons pe_we (pa_cons (pe_tup (pa_cons (pe_tyName hgT hmT hvT hnT hdT) (pa_cons (pe_tyName hgU hmU hvU hnU hdU) pa_nil rfl) rfl)) pa_nil rfl) hs) (by decide) (by decide) hs rfl) fun I σ H hx vs Q q =>
    ha I σ H hx vs _ fun v I1 H1 n1 r1 => ⟨by show 2 ≤ sizeLine; decide, fun t ht => ⟨v, t, [.ty T, .ty U], _, [.type T, .type U], k || l, rfl, upd_same, .cons (.ty T) (.cons (.ty U) .nil), tyX_of (Nw.own (o := .tup [.ty T, .ty U]) n1.j ht).j r1 nd,
      kitAny_cons (kit_ty hk) (fun h => by subst h; exact kitAny_cons (kit_ty hl) (fun h => by subst h; exact kitAny_nil) (fun h => by subst h; rfl)) (fun h => by subst h; rfl), q _ I1 _ (n1.trans (Nw.own n1.j ht)) (.bl _)⟩⟩
def isIntD : PyData → Bool
  | .bool _ => true
  | .int _ => true
  | _ => false
def isBoolD : PyData → Bool
  | .bool _ => true
  | _ => false
def isSeqD : PyData → Bool
  | .list _ => true
  | .tuple _ => true
  | _ => false
def isStrD : PyData → Bool
  | .str _ => true
  | _ => false
theorem kit_int : ∀ d : PyData, kitB (tyD d) "int" = some (isIntD d)
  | .none => by decide +kernel
  | .bool _ => by show kitB "bool" "int" = some true; decide +kernel
  | .int _ => by show kitB "int" "int" = some true; decide +kernel
  | .str _ => by show kitB "str" "int" = some false; decide +kernel
  | .list _ => by show kitB "list" "int" = some false; decide +kernel
  | .tuple _ => by show kitB "tuple" "int" = some false; decide +kernel
  | .dict _ => by show kitB "dict" "int" = some false; decide +kernel
theorem kit_bool : ∀ d : PyData, kitB (tyD d) "bool" = some (isBoolD d)
  | .none => by decide +kernel
  | .bool _ => by show kitB "bool" "bool" = some true; decide +kernel
  | .int _ => by show kitB "int" "bool" = some false; decide +kernel
  | .str _ => by show kitB "str" "bool" = some false; decide +kernel
  | .list _ => by show kitB "list" "bool" = some false; decide +kernel
  | .tuple _ => by show kitB "tuple" "bool" = some false; decide +kernel
  | .dict _ => by show kitB "dict" "bool" = some false; decide +kernel
theorem kit_str : ∀ d : PyData, kitB (tyD d) "str" = some (isStrD d)
  | .none => by decide +kernel
  | .bool _ => by show kitB "bool" "str" = some false; decide +kernel
  | .int _ => by show kitB "int" "str" = some false; decide +kernel
  | .str _ => by show kitB "str" "str" = some true; decide +kernel
  | .list _ => by show kitB "list" "str" = some false; decide +kernel
  | .tuple _ => by show kitB "tuple" "str" = some false; decide +kernel
  | .dict _ => by show kitB "dict" "str" = some false; decide +kernel
def isListD : PyData → Bool
  | .list _ => true
  | _ => false
def isTupD : PyData → Bool
  | .tuple _ => true
  | _ => false
theorem kit_list : ∀ d : PyData, kitB (tyD d) "list" = some (isListD d)
  | .none => by decide +kernel
  | .bool _ => by show kitB "bool" "list" = some false; decide +kernel
  | .int _ => by show kitB "int" "list" = some false; decide +kernel
  | .str _ => by show kitB "str" "list" = some false; decide +kernel
  | .list _ => by show kitB "list" "list" = some true; decide +kernel
  | .tuple _ => by show kitB "tuple" "list" = some false; decide +kernel
  | .dict _ => by show kitB "dict" "list" = some false; decide +kernel
theorem kit_tuple : ∀ d : PyData, kitB (tyD d) "tuple" = some (isTupD d)
  | .none => by decide +kernel
  | .bool _ => by show kitB "bool" "tuple" = some false; decide +kernel
  | .int _ => by show kitB "int" "tuple" = some false; decide +kernel
  | .str _ => by show kitB "str" "tuple" = some false; decide +kernel
  | .list _ => by show kitB "list" "tuple" = some false; decide +kernel
  | .tuple _ => by show kitB "tuple" "tuple" = some true; decide +kernel
  | .dict _ => by show kitB "dict" "tuple" = some false; decide +kernel
theorem isSeqD_eq : ∀ d : PyData, (isListD d || isTupD d) = isSeqD d
  | .none | .bool _ | .int _ | .str _ | .list _ | .tuple _ | .dict _ => rfl
/-- isinstance(a, (list, tuple)) -/
theorem e_isSeq {p1 p2 p3 : Pos} {x1 : Nat} (hg : Gl X "isinstance") (hm : X.mg "isinstance" = none) (hgT : Gl X "list") (hmT : X.mg "list" = none) (hgU : Gl X "tuple") (hmU : X.mg "tuple" = none) (ha : E X ρ a d) (nd : isDictD d = false)
    (hs : starEach [a, .Tuple [.Name "list" p1, .Name "tuple" p2] x1 p3] X.env = (false, eval a X.env) :: starEach [.Tuple [.Name "list" p1, .Name "tuple" p2] x1 p3] X.env := by rfl) :
    E X ρ (.Call (.Name "isinstance" p) [a, .Tuple [.Name "list" p1, .Name "tuple" p2] x1 p3] [] pos) (.bool (isSeqD d)) :=
  (e_isi2 hg hm hgT hmT PyProof.Rows.boot_list hgU hmU PyProof.Rows.boot_tuple ha nd (kit_list d) (kit_tuple d) (by decide) (by decide) (by decide) (by decide) hs).eq (by rw [isSeqD_eq])

/-! ### items and slices -/
theorem atI_rp {I : Hp} : ∀ {vs : List V} {ds : List PyData} {i : Int} {d : PyData}, RpAll I vs ds → atI ds i = some d → ∃ v, atI vs i = some v ∧ Rp I v d := fun {vs ds i d} r h => by
  unfold atI at h ⊢
  rw [r.length]
  cases q : ixN ds.length i with
  | none => rw [q] at h; cases h
  | some j =>
    rw [q] at h
    exact r.get h
theorem e_ix {k : Bool} {i : Int} (ha : E X ρ a (seqD k ds)) (hb : E X ρ b (.int i)) (h : atI ds i = some d) (hp : PlainIx b := by intro _ _; rfl) : E X ρ (.Subscript a b pos) d := by
  cases k with
  | false =>
    refine e_two (pe_ix ix_list pe_we pe_we hp) ha hb fun I H hx x y rx ry Q q => ?_
    · cases ry
      cases rx with
      | lst ea ra =>
        obtain ⟨v, hv, rv⟩ := atI_rp ra h
        exact ⟨_, _, i, v, rfl, rfl, SqL.of (hx _ _ ea), hv, q _ I H (.refl hx) rv⟩
  | true =>
    refine e_two (pe_ix ix_tup pe_we pe_we hp) ha hb fun I H hx x y rx ry Q q => ?_
    · cases ry
      cases rx with
      | tup ea ra =>
        obtain ⟨v, hv, rv⟩ := atI_rp ra h
        exact ⟨_, _, i, v, rfl, rfl, SqT.of (hx _ _ ea), hv, q _ I H (.refl hx) rv⟩
/-- xs[n:] of a list, n written -/
theorem e_from {n : Nat} {j : Nat} {p1 p2 : Pos} (ha : E X ρ a (.list ds)) : E X ρ (.Subscript a (.Slice (some (.Constant (.int (n : Nat)) j p1)) none none p2) pos) (.list (ds.drop n)) :=
  e_of (pe_slice sl_list pe_we (po_some pe_int) po_none) fun I σ H hx vs Q k => ha I σ H hx vs _ fun v I1 H1 n1 r1 => by
    cases r1 with
    | lst ea ra =>
      rename_i ad xs
      refine ⟨(n : Int), rfl, ?_⟩
      refine ⟨_, _, rfl, SqL.of (n1.j _ _ ea), fun q hq => ?_⟩
      have e : cutV xs (some (n : Int)) none = xs.drop n := by
        unfold cutV
        rw [HT.sIx_nat, HT.sIx_none]
        by_cases h : n ≤ xs.length
        · rw [Nat.min_eq_left h, List.take_of_length_le (by rw [List.length_drop]; exact Nat.le_refl _)]
        · rw [Nat.min_eq_right (by omega), Nat.sub_self, List.take_zero, List.drop_eq_nil_of_le (by omega)]
      rw [e]
      exact k _ _ _ (n1.trans (Nw.new n1.j hq)) (.lst upd_same ((ra.drop n).up (Nw.new (o := .lst (xs.drop n)) n1.j hq).i))
/-- a + b of tuples -/
theorem e_catT (ha : E X ρ a (.tuple ds)) (hb : E X ρ b (.tuple es)) (hl : ds.length + es.length ≤ 100000) : E X ρ (.BinOp a .Add b pos) (.tuple (ds ++ es)) :=
  e_two (pe_op op_catA pe_we pe_we) ha hb fun I H hx x y rx ry Q q => by
    cases rx with
    | tup ea ra =>
      cases ry with
      | tup eb rb =>
        refine ⟨_, _, _, _, rfl, rfl, SqT.of (hx _ _ ea), SqT.of (hx _ _ eb), by rw [ra.length, rb.length]; exact sz_of hl, fun h => ?_, fun h1 h2 => ?_, fun h1 h2 c hc => ?_⟩
        · subst h
          have e := ra.length
          have : ds = [] := List.eq_nil_of_length_eq_zero e.symm
          subst this
          exact q _ I H (.refl hx) (.tup eb rb)
        · subst h2
          have e := rb.length
          have : es = [] := List.eq_nil_of_length_eq_zero e.symm
          subst this
          exact q _ I H (.refl hx) (by rw [List.append_nil]; exact .tup ea ra)
        · exact q _ _ _ (Nw.new hx hc) (.tup upd_same ((ra.append rb).up (Nw.new hx hc).i))
/-- a + b of lists -/
theorem e_catL (ha : E X ρ a (.list ds)) (hb : E X ρ b (.list es)) (hl : ds.length + es.length ≤ 100000) : E X ρ (.BinOp a .Add b pos) (.list (ds ++ es)) :=
  e_two (pe_op op_cat pe_we pe_we) ha hb fun I H hx x y rx ry Q q => by
    cases rx with
    | lst ea ra =>
      cases ry with
      | lst eb rb =>
        exact ⟨_, _, _, _, rfl, rfl, hx _ _ ea, hx _ _ eb, by rw [ra.length, rb.length]; exact sz_of hl, fun c hc => q _ _ _ (Nw.new hx hc) (.lst upd_same ((ra.append rb).up (Nw.new hx hc).i))⟩
theorem rpAll_flat {I : Hp} {vs : List V} (r : RpAll I vs ds) : ∀ n : Nat, RpAll I (List.replicate n vs).flatten (List.replicate n ds).flatten
  | 0 => .nil
  | n + 1 => by
    rw [List.replicate_succ, List.replicate_succ, List.flatten_cons, List.flatten_cons]
    exact r.append (rpAll_flat r n)
/-- [..] * n -/
theorem e_repL {n : Int} (ha : E X ρ a (.list ds)) (hb : E X ρ b (.int n)) (hl : ds.length * n.toNat ≤ 100000) (h1 : -(2 ^ 63) ≤ n := by omega) (h2 : n < 2 ^ 63 := by omega) : E X ρ (.BinOp a .Mult b pos) (.list (List.replicate n.toNat ds).flatten) :=
  e_two (pe_op op_rep pe_we pe_we) ha hb fun I H hx x y rx ry Q q => by
    cases ry
    cases rx with
    | lst ea ra =>
      exact ⟨_, n, _, rfl, rfl, hx _ _ ea, h1, h2, by rw [ra.length]; exact sz_of hl, fun c hc => q _ _ _ (Nw.new hx hc) (.lst upd_same ((rpAll_flat ra _).up (Nw.new hx hc).i))⟩
end

/-! ### defs -/
/-- the def st stands at the name x -/
def Dfn (K : PySem.W.Frag) (mg : Str → Option Value) (x : Str) (st : Stmt) : Prop := ∃ f fd, mg x = some (.ref f) ∧ Fun K x x st f fd
structure Fn (P : Program) (w : World) (K : PySem.W.Frag) (mg : Str → Option Value) (base : Heap) (x : Str) (k : Nat) (ps : List Str) (sp : Sp) : Prop where
  ex : ∃ (f : Addr) (fd : FuncData) (qual : Str) (st : Stmt), mg x = some (.ref f) ∧ Fun K x qual st f fd ∧ Binds K fd ps [] ∧ FnOk P w K mg base CX0 k f fd ps sp
/-- a promise over data: the arguments ds, the answer d of which R ds d -/
def spP (R : List PyData → PyData → Prop) : Sp := fun vs H Q _ => ∃ I ds d, Ex I H ∧ RpAll I vs ds ∧ R ds d ∧ ∀ v I' H', Nw I H I' H' → Rp I' v d → Q v H'
section
variable {X : Cx} {ρ : Ro} {e a b c : Expr} {es : List Expr} {ds : List PyData} {d : PyData} {pos p : Pos} {x : Str} {k : Nat} {ps : List Str} {sp : Sp} {R : List PyData → PyData → Prop}
theorem we_call {σ : L2.St} {H : Hp} {Q : VK} (F : Fn X.prog X.w X.K X.mg X.base x k ps sp) (hr : Room k X.A) (hg : Gl X x) (h : WA X (e :: es) σ H fun vs H1 => sp vs H1 Q E0) (hdb : (x == ("__debug__" : Str)) = false := by decide)
    (he : starEach (e :: es) X.env = (false, eval e X.env) :: starEach es X.env := by rfl) (hpl : (backTo pos (starEach es X.env)).any (·.1) = false := by rfl) : WE X (.Call (.Name x p) (e :: es) [] pos) σ H Q := by
  obtain ⟨f, fd, q, st, hm, hF, hb, ok⟩ := F.ex
  refine we_of (pe_call ok hr hg hm hF.kp hb .nil pass0 pa_wa hdb he hpl) ?_
  refine fun pos pins s I => thn (h pos pins s I) fun us s' ⟨vs, H', I', r, q⟩ => ⟨vs, H', I', r, ?_⟩
  show sp (vs ++ []) H' Q E0
  rw [List.append_nil]
  exact q
theorem e_call (F : Fn X.prog X.w X.K X.mg X.base x k ps (spP R)) (hr : Room k X.A) (hg : Gl X x) (ha : As X ρ (e :: es) ds) (h : R ds d) (hdb : (x == ("__debug__" : Str)) = false := by decide)
    (he : starEach (e :: es) X.env = (false, eval e X.env) :: starEach es X.env := by rfl) (hpl : (backTo pos (starEach es X.env)).any (·.1) = false := by rfl) : E X ρ (.Call (.Name x p) (e :: es) [] pos) d := fun I σ H hx vs Q q =>
  we_call F hr hg (ha I σ H hx vs _ fun us I1 H1 n1 r1 => ⟨I1, ds, d, n1.j, r1, h, fun v I2 H2 n2 r2 => q v I2 H2 (n1.trans n2) r2⟩) hdb he hpl
end

/-! ### blocks that change nothing: from slots ρ they return d -/
def Bd (X : Cx) (ρ : Ro) (b : List Stmt) (d : PyData) : Prop := ∀ (I : Hp) (σ : L2.St) (H : Hp) (D : Ends), Ex I H → VS I σ ρ → (∀ v I' H', Nw I H I' H' → Rp I' v d → D.rt v H') → WSs X b D σ H
section
variable {X : Cx} {ρ : Ro} {e c : Expr} {b b1 b2 rest : List Stmt} {d d' : PyData} {pos p : Pos} {x : Str} {D : Ends} {σ : L2.St} {H I : Hp}
theorem ws_cons {st : Stmt} {ts : TS} (h : PS X st ts) (q : ts { D with nx := WSs X rest D } σ H) : WSs X (st :: rest) D σ H := ws_of (pss_cons h ps_ws) q
theorem ws_nil (q : D.nx σ H) : WSs X [] D σ H := ws_of pss_nil q
theorem ws_ret (h : WE X e σ H D.rt) : WSs X (.Return (some e) pos :: rest) D σ H := ws_cons (ps_ret pe_we) h
theorem ws_set {i : Nat} (hN : X.N.Nodup) (hi : X.N[i]? = some x) (hl : Loc X.env.scope x) (h : WE X e σ H fun v H1 => WSs X rest D (σ.set i (some v)) H1) (hs : swapsWith e (some (.Name x p)) pos.line X.env = pure false := by rfl)
    (hf : X.fn x = true ∨ X.env.scope.names.lookup x = some .local := by first | exact .inl rfl | exact .inr rfl | assumption) : WSs X (.Assign [.Name x p] e pos :: rest) D σ H := ws_cons (ps_set hN hi hl pe_we hs hf) h
theorem ws_if (h : WT X c σ H fun k H1 => if k = true then WSs X b1 { D with nx := WSs X rest D } σ H1 else WSs X b2 { D with nx := WSs X rest D } σ H1) : WSs X (.If c b1 b2 pos :: rest) D σ H := ws_cons (ps_if pt_wt ps_ws ps_ws) h
theorem ws_ifF (hx : Ex I H) (vs : VS I σ ρ) (hc : T X ρ c false) (q : ∀ I' H', Nw I H I' H' → WSs X rest D σ H') : WSs X (.If c b1 [] pos :: rest) D σ H :=
  ws_cons (ps_if pt_wt (pss_never (sts := b1)) pss_nil) (hc I σ H hx vs _ fun I' H' n => by rw [if_neg Bool.false_ne_true]; exact q I' H' n)
theorem bd_ret (h : E X ρ e d) : Bd X ρ (.Return (some e) pos :: rest) d := fun I σ H D hx vs q => ws_ret (h I σ H hx vs _ q)
theorem bd_set {i : Nat} (hN : X.N.Nodup) (hi : X.N[i]? = some x) (hl : Loc X.env.scope x) (h : E X ρ e d) (k : Bd X (ρ.set i (some d)) rest d') (hs : swapsWith e (some (.Name x p)) pos.line X.env = pure false := by rfl)
    (hf : X.fn x = true ∨ X.env.scope.names.lookup x = some .local := by first | exact .inl rfl | exact .inr rfl | assumption) : Bd X ρ (.Assign [.Name x p] e pos :: rest) d' := fun I σ H D hx vs q =>
  ws_set hN hi hl (h I σ H hx vs _ fun v I1 H1 n1 r1 => k I1 _ H1 D n1.j ((vs.up n1.i).set r1) fun u I2 H2 n2 r2 => q u I2 H2 (n1.trans n2) r2) hs hf
/-- if c: (returns) rest -/
theorem bd_if {k : Bool} (hc : T X ρ c k) (h1 : k = true → Bd X ρ b1 d) (h2 : k = false → Bd X ρ rest d) : Bd X ρ (.If c b1 [] pos :: rest) d := fun I σ H D hx vs q => by
  refine ws_if (hc I σ H hx vs _ fun I1 H1 n1 => ?_)
  cases k with
  | true =>
    rw [if_pos rfl]
    exact h1 rfl I1 σ H1 _ n1.j (vs.up n1.i) fun v I2 H2 n2 r2 => q v I2 H2 (n1.trans n2) r2
  | false =>
    rw [if_neg Bool.false_ne_true]
    exact ws_nil (h2 rfl I1 σ H1 D n1.j (vs.up n1.i) fun v I2 H2 n2 r2 => q v I2 H2 (n1.trans n2) r2)
/-- if c: (never) rest -/
theorem bd_ifF (hc : T X ρ c false) (h2 : Bd X ρ rest d) : Bd X ρ (.If c b1 [] pos :: rest) d := fun I σ H D hx vs q =>
  ws_ifF hx vs hc fun I1 H1 n1 => h2 I1 σ H1 D n1.j (vs.up n1.i) fun v I2 H2 n2 r2 => q v I2 H2 (n1.trans n2) r2
end
/-- name = [elt for ..] on one line -/
theorem bd_setLc {X : Cx} {ρ : Ro} {rest : List Stmt} {d' : PyData} {i : Nat} {y : Str} {py : Pos} {elt tg iter : Expr} {scope : Scope} {own : List (Str × Nat)} {pos spos : Pos} {g : TG} {ds : List PyData} {F : PyData → PyData} {ρ' : PyData → Ro}
    (hc : X.calm = true) (hN : X.N.Nodup) (hy : X.N[i]? = some y) (hyl : X.env.scope.names.lookup y = some .local) (hsw : swapsWith (.ListComp elt [⟨tg, iter, [], 0⟩] scope pos) (some (.Name y py)) spos.line X.env = pure true)
    (ok : BlkOk X.N X.env.scope scope own) (hg : PGb X scope tg g) (it : IT X ρ tg iter ds) (gt : ∀ d, d ∈ ds → Gt g (own.map (·.2)) (wipeR ρ (own.map (·.2))) d (ρ' d)) (he : ∀ d, d ∈ ds → Eb X scope (ρ' d) elt (F d)) (hl : ds.length < 100000)
    (k : Bd X (ρ.set i (some (.list (ds.map F)))) rest d') (hs : ∀ x, foldedSetIterable iter X.env x = pure x := by intro _; rfl) : Bd X ρ (.Assign [.Name y py] (.ListComp elt [⟨tg, iter, [], 0⟩] scope pos) spos :: rest) d' := fun I σ H D hx vs q =>
  ws_cons (ps_setLc (wi := WI X tg iter) (g := g) (tt := tYes) (te := WEb X scope elt) hc hN hy hyl hsw pi_wi ok hg (fun s H C cl fp => pts_nil) (fun s H C cl fp => ⟨fun pins s' σ H' Q I h => h s H C cl fp pins s' I⟩) hs)
    (tlc it gt he hl hx vs _ fun v I1 H1 n1 r1 => k I1 _ H1 D n1.j ((vs.up n1.i).set r1) fun u I2 H2 n2 r2 => q u I2 H2 (n1.trans n2) r2)

/-! ### a def that changes nothing -/
abbrev cxB (P : Program) (w : World) (K : PySem.W.Frag) (mg : Str → Option Value) (base : Heap) (N : List Str) (x : Str) (st : Stmt) (f : Addr) (cdv : Value) (A : Around) (outer : List Env) (s : Shared) (H : Hp) (E : XK) : Cx :=
  (cxOf CX0 P w K mg base N x (defScope st) f cdv A outer s H E).nox
section
variable {P : Program} {w : World} {K : PySem.W.Frag} {mg : Str → Option Value} {base : Heap} {x : Str} {st : Stmt} {N ps : List Str} {k : Nat} {R : List PyData → PyData → Prop} {sp : Sp}
theorem fn_mk (D : Dfn K mg x st) (S : FnScope N ps (defScope st)) (len : ∀ vs H Q E, sp vs H Q E → vs.length = ps.length)
    (hb : ∀ (kV doc pm : Value) (an : Option Addr) (cdv ct : Value) (us : List Value), us.length = ps.length → bindArgs (PySem.W.fnOf x x (defArgs st) (defBody st) (defScope st) .none kV doc pm an cdv ct) ⟨us, []⟩ = pure (ps.zip us))
    (body : ∀ (f : Addr) (cdv : Value) (A : Around) (outer : List Env) (s : Shared) (H : Hp) (E : XK), Room k (A.deeper (envOfC x (defScope st) s.heap.objs.size f cdv)) → ∀ vs Q, sp vs H Q E →
      WSs (cxB P w K mg base N x st f cdv A outer s H E) (defBody st) { nx := fun _ H' => Q .non H', rt := Q } (L2.start N vs) H) : Fn P w K mg base x (k + 1) ps sp := by
  obtain ⟨f, fd, hm, hF⟩ := D
  exact ⟨f, fd, x, st, hm, hF, hF.binds hb, hF.ok S len fun cdv A outer s H vs Q E hr h => ⟨_, ps_ws, body f cdv A outer s H E hr vs Q h⟩⟩
theorem fn_pure (D : Dfn K mg x st) (S : FnScope N ps (defScope st)) (len : ∀ ds d, R ds d → ds.length = ps.length)
    (hb : ∀ (kV doc pm : Value) (an : Option Addr) (cdv ct : Value) (us : List Value), us.length = ps.length → bindArgs (PySem.W.fnOf x x (defArgs st) (defBody st) (defScope st) .none kV doc pm an cdv ct) ⟨us, []⟩ = pure (ps.zip us))
    (body : ∀ (f : Addr) (cdv : Value) (A : Around) (outer : List Env) (s : Shared) (H : Hp) (E : XK), Room k (A.deeper (envOfC x (defScope st) s.heap.objs.size f cdv)) → ∀ ds d, R ds d →
      Bd (cxB P w K mg base N x st f cdv A outer s H E) (ds.map some ++ List.replicate (N.length - ds.length) none) (defBody st) d) : Fn P w K mg base x (k + 1) ps (spP R) := by
  refine fn_mk D S (fun vs H Q E h => ?_) hb fun f cdv A outer s H E hr vs Q h => ?_
  · obtain ⟨I, ds, d, _, r, hR, _⟩ := h
    rw [r.length]
    exact len ds d hR
  · obtain ⟨I, ds, d, hx, r, hR, q⟩ := h
    refine body f cdv A outer s H E hr ds d hR I _ H _ hx ?_ q
    unfold L2.start
    rw [r.length]
    exact vs_start _ r
end
end R1

set_option Elab.async false
set_option linter.all false
set_option maxRecDepth 100000
set_option maxHeartbeats 4000000
/-! CoreS: ranks (a number, powers, numbers), their order; comparing and sorting tuples that tell ranks; sorting by a def's answers. -/
namespace R1
open PySem PySem.Spec PyProof.Rows L2 Evl

/-! ### the order of rows of whole numbers -/
abbrev lexLt := HT.lexLt
theorem lexLt_asym : ∀ x y : List Int, lexLt x y = true → lexLt y x = false
  | [], [], h => by cases h
  | [], _ :: _, _ => rfl
  | _ :: _, [], h => by cases h
  | a :: x, b :: y, h => by
    show HT.lexLt (b :: y) (a :: x) = false
    have h' : HT.lexLt (a :: x) (b :: y) = true := h
    rw [HT.lexLt_cons] at h' ⊢
    by_cases e : a = b
    · rw [if_pos e] at h'
      rw [if_pos e.symm]
      exact lexLt_asym x y h'
    · rw [if_neg e] at h'
      rw [if_neg (Ne.symm e)]
      have := of_decide_eq_true h'
      exact decide_eq_false (by omega)
theorem lexLt_ntr : ∀ x y z : List Int, lexLt y x = false → lexLt z y = false → lexLt z x = false
  | [], _, [], _, _ => rfl
  | _ :: _, [], _, h, _ => by cases h
  | [], y, c :: z, _, _ => rfl
  | a :: x, b :: y, [], _, h => by cases h
  | a :: x, b :: y, c :: z, h1, h2 => by
    have h1' : HT.lexLt (b :: y) (a :: x) = false := h1
    have h2' : HT.lexLt (c :: z) (b :: y) = false := h2
    show HT.lexLt (c :: z) (a :: x) = false
    rw [HT.lexLt_cons] at h1' h2' ⊢
    by_cases e1 : b = a
    · by_cases e2 : c = b
      · rw [if_pos e1] at h1'
        rw [if_pos e2] at h2'
        rw [if_pos (e2.trans e1)]
        exact lexLt_ntr x y z h1' h2'
      · rw [if_neg e2] at h2'
        have := of_decide_eq_false h2'
        rw [if_neg (by omega)]
        exact decide_eq_false (by omega)
    · rw [if_neg e1] at h1'
      have q1 := of_decide_eq_false h1'
      by_cases e2 : c = b
      · rw [if_neg (by omega)]
        exact decide_eq_false (by omega)
      · rw [if_neg e2] at h2'
        have q2 := of_decide_eq_false h2'
        rw [if_neg (by omega)]
        exact decide_eq_false (by omega)
theorem lexLt_tri : ∀ x y : List Int, lexLt x y = false → lexLt y x = false → x = y
  | [], [], _, _ => rfl
  | [], _ :: _, h, _ => by cases h
  | _ :: _, [], _, h => by cases h
  | a :: x, b :: y, h1, h2 => by
    have h1' : HT.lexLt (a :: x) (b :: y) = false := h1
    have h2' : HT.lexLt (b :: y) (a :: x) = false := h2
    rw [HT.lexLt_cons] at h1' h2'
    by_cases e : a = b
    · rw [if_pos e] at h1'
      rw [if_pos e.symm] at h2'
      rw [e, lexLt_tri x y h1' h2']
    · rw [if_neg e] at h1'
      rw [if_neg (Ne.symm e)] at h2'
      have q1 := of_decide_eq_false h1'
      have q2 := of_decide_eq_false h2'
      omega
theorem lexLt_irr (x : List Int) : lexLt x x = false := by
  cases h : lexLt x x with
  | false => rfl
  | true => rw [lexLt_asym x x h] at h; cases h
/-- a rank: a number, a row, a row -/
abbrev Rk := Int × List Int × List Int
def rkLt (a b : Rk) : Bool := if a.1 = b.1 then (if a.2.1 = b.2.1 then lexLt a.2.2 b.2.2 else lexLt a.2.1 b.2.1) else decide (a.1 < b.1)
theorem rkLt_asym (a b : Rk) (h : rkLt a b = true) : rkLt b a = false := by
  unfold rkLt at h ⊢
  by_cases e : a.1 = b.1
  · rw [if_pos e] at h
    rw [if_pos e.symm]
    by_cases f : a.2.1 = b.2.1
    · rw [if_pos f] at h
      rw [if_pos f.symm]
      exact lexLt_asym _ _ h
    · rw [if_neg f] at h
      rw [if_neg (Ne.symm f)]
      exact lexLt_asym _ _ h
  · rw [if_neg e] at h
    rw [if_neg (Ne.symm e)]
    have := of_decide_eq_true h
    exact decide_eq_false (by omega)
theorem rkLt_ntr (a b c : Rk) (h1 : rkLt b a = false) (h2 : rkLt c b = false) : rkLt c a = false := by
  unfold rkLt at h1 h2 ⊢
  by_cases e1 : b.1 = a.1
  · rw [if_pos e1] at h1
    by_cases e2 : c.1 = b.1
    · rw [if_pos e2] at h2
      rw [if_pos (e2.trans e1)]
      by_cases f1 : b.2.1 = a.2.1
      · rw [if_pos f1] at h1
        by_cases f2 : c.2.1 = b.2.1
        · rw [if_pos f2] at h2
          rw [if_pos (f2.trans f1)]
          exact lexLt_ntr _ _ _ h1 h2
        · rw [if_neg f2] at h2
          rw [if_neg (fun q => f2 (q.trans f1.symm)), ← f1]
          exact h2
      · rw [if_neg f1] at h1
        by_cases f2 : c.2.1 = b.2.1
        · rw [if_neg (fun q => f1 (f2.symm.trans q)), f2]
          exact h1
        · rw [if_neg f2] at h2
          have q := lexLt_ntr _ _ _ h1 h2
          by_cases f3 : c.2.1 = a.2.1
          · exfalso
            rw [f3] at h2
            exact f1 (lexLt_tri _ _ h1 h2)
          · rw [if_neg f3]
            exact q
    · rw [if_neg e2] at h2
      have := of_decide_eq_false h2
      rw [if_neg (by omega)]
      exact decide_eq_false (by omega)
  · rw [if_neg e1] at h1
    have q1 := of_decide_eq_false h1
    by_cases e2 : c.1 = b.1
    · rw [if_neg (by omega)]
      exact decide_eq_false (by omega)
    · rw [if_neg e2] at h2
      have q2 := of_decide_eq_false h2
      rw [if_neg (by omega)]
      exact decide_eq_false (by omega)
theorem rkLt_tri (a b : Rk) (h1 : rkLt a b = false) (h2 : rkLt b a = false) : a = b := by
  unfold rkLt at h1 h2
  by_cases e : a.1 = b.1
  · rw [if_pos e] at h1
    rw [if_pos e.symm] at h2
    by_cases f : a.2.1 = b.2.1
    · rw [if_pos f] at h1
      rw [if_pos f.symm] at h2
      exact Prod.ext e (Prod.ext f (lexLt_tri _ _ h1 h2))
    · rw [if_neg f] at h1
      rw [if_neg (Ne.symm f)] at h2
      exact absurd (lexLt_tri _ _ h1 h2) f
  · rw [if_neg e] at h1
    rw [if_neg (Ne.symm e)] at h2
    have q1 := of_decide_eq_false h1
    have q2 := of_decide_eq_false h2
    omega
theorem swo_rk {α : Type} (k : α → Rk) : SrtO.Swo fun v u => rkLt (k v) (k u) := ⟨fun x y h => rkLt_asym _ _ h, fun x y z h1 h2 => rkLt_ntr _ _ _ h1 h2⟩

/-! ### values that tell ranks -/
/-- the tuple of a rank -/
def rkD (k : Rk) : PyData := .tuple (.int k.1 :: .tuple (k.2.1.map .int) :: k.2.2.map .int)
structure IsRk (h : Heap) (v : Value) (k : Rk) : Prop where
  ex : ∃ (a : Addr) (o : Obj) (t : Tok) (b : Addr) (us cs : List Value) (n : Nat), v = .ref a ∧ h.get? a = some o ∧ o.cls = .type "tuple" ∧ o.data = .seq (.int k.1 t :: .ref b :: cs).toArray n ∧ IsTup h b us.toArray ∧ IntsAre us k.2.1 ∧ IntsAre cs k.2.2
theorem eqvAll_ints : ∀ p q : List Int, PyData.eqvAll (p.map .int) (q.map .int) = decide (p = q)
  | [], [] => rfl
  | [], _ :: _ => rfl
  | _ :: _, [] => rfl
  | a :: p, b :: q => by
    show (PyData.eqv (.int a) (.int b) && PyData.eqvAll (p.map .int) (q.map .int)) = _
    rw [eqvAll_ints p q]
    show ((a == b) && decide (p = q)) = _
    by_cases e : a = b
    · subst e
      by_cases f : p = q
      · subst f; simp
      · simp [f]
    · simp [e]
theorem canLay_ints : ∀ p : List Int, PyData.canLayAll0 (p.map .int) = true
  | [] => rfl
  | a :: p => by
    show (PyData.canLay0 (.int a) && PyData.canLayAll0 (p.map .int)) = true
    rw [canLay_ints p]
    rfl

theorem depth_ints : ∀ p : List Int, PyData.depthAll (p.map .int) = 0
  | [] => rfl
  | a :: p => by
    show max (PyData.depth (.int a)) (PyData.depthAll (p.map .int)) = 0
    rw [depth_ints p]
    rfl
section
variable {A : Around} {s : Shared} {h : Heap} {b b' : Addr} {us ws : List Value} {p q : List Int}
theorem reads_tupI (hb : IsTup h b us.toArray) (i : IntsAre us p) : Reads h (.ref b) (.tuple (p.map .int)) [] := by
  obtain ⟨o, ho, hc, n, hd⟩ := hb
  exact .tuple ho hc hd (by simpa using i.reads h)
theorem eqAt_tupI (hb : IsTup s.heap b us.toArray) (hb' : IsTup s.heap b' ws.toArray) (i : IntsAre us p) (i' : IntsAre ws q) (hu : A.units + 1 < cLine) : SeqAt.EqAt A s (.ref b) (.ref b') (decide (p = q)) := by
  have r := SeqAt.eqAt_reads (.tuple (p.map .int)) (.tuple (q.map .int)) A s _ _ _ _ (reads_tupI hb i) (reads_tupI hb' i') (canLay_ints p) (canLay_ints q) (by
    show A.units + min (PyData.depthAll (p.map .int) + 1) (PyData.depthAll (q.map .int) + 1) < cLine
    rw [depth_ints, depth_ints]
    exact hu)
  have e : PyData.eqv (.tuple (p.map .int)) (.tuple (q.map .int)) = decide (p = q) := eqvAll_ints p q
  rwa [e] at r
theorem ltAt_tupI (hb : IsTup s.heap b us.toArray) (hb' : IsTup s.heap b' ws.toArray) (i : IntsAre us p) (i' : IntsAre ws q) (hu : A.units < cLine) : Ob.RcOp .Lt A s (.ref b) (.ref b') (lexLt p q) := fun prog w E Q h => HT.lt_tupInts hb hb' (by simpa using i) (by simpa using i') hu h
/-- t > u of rows of whole numbers -/
theorem lexAt_gt : ∀ (p q : List Int) (k : Nat) (ns ms : List Int), ns = p.drop k → ms = q.drop k → p.take k = q.take k → k ≤ p.length → k ≤ q.length →
    Ob.lexAt (fun j => decide (p.getD j 0 = q.getD j 0)) (fun j => decide (q.getD j 0 < p.getD j 0)) (decide (p.length > q.length)) k (min p.length q.length - k) = lexLt ms ns := fun p q k ns => by
  induction ns generalizing k with
  | nil =>
    intro ms hn hm ht hk hk'
    have hp : p.length = k := by
      have := congrArg List.length hn
      rw [List.length_nil, List.length_drop] at this
      omega
    have e : min p.length q.length - k = 0 := by omega
    rw [e]
    show decide (p.length > q.length) = _
    cases ms with
    | nil => rw [decide_eq_false (by omega)]; rfl
    | cons m ms => rw [decide_eq_false (by omega)]; rfl
  | cons n ns ih =>
    intro ms hn hm ht hk hk'
    have hlp : k < p.length := by
      have := congrArg List.length hn
      rw [List.length_cons, List.length_drop] at this
      omega
    cases ms with
    | nil =>
      have hq : q.length = k := by
        have := congrArg List.length hm
        rw [List.length_nil, List.length_drop] at this
        omega
      have e : min p.length q.length - k = 0 := by omega
      rw [e]
      show decide (p.length > q.length) = true
      exact decide_eq_true (by omega)
    | cons m ms =>
      have hlq : k < q.length := by
        have := congrArg List.length hm
        rw [List.length_cons, List.length_drop] at this
        omega
      have en : p.getD k 0 = n := by
        rw [List.drop_eq_getElem_cons hlp] at hn
        injection hn with h1 _
        rw [List.getD_eq_getElem?_getD, List.getElem?_eq_getElem hlp, h1]
        rfl
      have em : q.getD k 0 = m := by
        rw [List.drop_eq_getElem_cons hlq] at hm
        injection hm with h1 _
        rw [List.getD_eq_getElem?_getD, List.getElem?_eq_getElem hlq, h1]
        rfl
      have e : min p.length q.length - k = (min p.length q.length - (k + 1)) + 1 := by omega
      rw [e, Ob.lexAt_succ, en, em]
      show _ = HT.lexLt (m :: ms) (n :: ns)
      rw [HT.lexLt_cons]
      by_cases c : n = m
      · rw [if_pos (decide_eq_true c), if_pos c.symm]
        rw [List.drop_eq_getElem_cons hlp] at hn
        rw [List.drop_eq_getElem_cons hlq] at hm
        injection hn with h1 h2
        injection hm with h3 h4
        refine ih (k + 1) ms h2 h4 ?_ hlp hlq
        rw [List.take_add_one, List.take_add_one, ht, List.getElem?_eq_getElem hlp, List.getElem?_eq_getElem hlq, ← h1, ← h3, c]
      · rw [if_neg (by rw [decide_eq_false c]; exact Bool.false_ne_true), if_neg (Ne.symm c)]
theorem gtAt_tupI (hb : IsTup s.heap b us.toArray) (hb' : IsTup s.heap b' ws.toArray) (i : IntsAre us p) (i' : IntsAre ws q) (hu : A.units < cLine) : Ob.RcOp .Gt A s (.ref b) (.ref b') (lexLt q p) := by
  have at1 : ∀ j (h1 : j < us.toArray.size), ∃ t, us.toArray[j] = .int (p.getD j 0) t := fun j h1 => PyProof.Rows.IntsAre.int_at i _ _ (by simp at h1; simp [h1])
  have at2 : ∀ j (h1 : j < ws.toArray.size), ∃ t, ws.toArray[j] = .int (q.getD j 0) t := fun j h1 => PyProof.Rows.IntsAre.int_at i' _ _ (by simp at h1; simp [h1])
  have e1 : us.toArray.size = p.length := by rw [List.size_toArray]; exact i.length
  have e2 : ws.toArray.size = q.length := by rw [List.size_toArray]; exact i'.length
  have R := Ob.RcOp.tuples_gt (A := A) (s := s) (e := fun j => decide (p.getD j 0 = q.getD j 0)) (r := fun j => decide (q.getD j 0 < p.getD j 0)) hb hb' hu (fun j h1 h2 => by
    obtain ⟨t, et⟩ := at1 j h1
    obtain ⟨t', et'⟩ := at2 j h2
    rw [et, et']
    have z : (p.getD j 0 == q.getD j 0) = decide (p.getD j 0 = q.getD j 0) := Bool.beq_eq_decide_eq _ _
    rw [← z]
    exact SeqAt.EqAt.int_int _ _ _ _) (fun j h1 h2 _ => by
    obtain ⟨t, et⟩ := at1 j h1
    obtain ⟨t', et'⟩ := at2 j h2
    rw [et, et']
    exact Ob.RcOp.gt_int _ _ _ _)
  rw [e1, e2] at R
  have z := lexAt_gt p q 0 p q rfl rfl rfl (Nat.zero_le _) (Nat.zero_le _)
  rw [Nat.sub_zero] at z
  rwa [z] at R
end
/-- (a number, a row) > (a number, a row) -/
def rRkGt (K : PySem.W.Frag) : R2 := fun x y H Q => ∃ (a b c d : Addr) (m n : Int) (p q : List Int), x = .ref a ∧ y = .ref b ∧ SqT K H a [.int m, .ref c] ∧ SqT K H b [.int n, .ref d] ∧ SqT K H c (p.map V.int) ∧ SqT K H d (q.map V.int) ∧ Q (.bl (rkLt (n, q, []) (m, p, []))) H
theorem op_rkGt {X : Cx} (hu : X.A.units + 64 < cLine) : OpR X (compareOp .Gt) (rRkGt X.K) := by
  intro pins s σ H x y v u Q I rx ry h
  obtain ⟨a, b, c, d, m, n, p, q, rfl, rfl, ha, hb, hc, hd, hq⟩ := h
  cases rx
  cases ry
  obtain ⟨its, r1, p1, _⟩ := I.tuple ha
  obtain ⟨its2, r2, p2, _⟩ := I.tuple hb
  obtain ⟨jts, r3, p3, _⟩ := I.tuple hc
  obtain ⟨jts2, r4, p4, _⟩ := I.tuple hd
  have i3 : IntsAre jts p := Vals.ints r3
  have i4 : IntsAre jts2 q := Vals.ints r4
  cases r1 with
  | cons a1 a2 =>
    cases a2 with
    | cons a2 a3 =>
      cases a3
      cases r2 with
      | cons b1 b2 =>
        cases b2 with
        | cons b2 b3 =>
          cases b3
          obtain ⟨t1, rfl⟩ := a1
          obtain ⟨t2, rfl⟩ := b1
          cases a2
          cases b2
          have R := Ob.RcOp.tuples_gt (A := X.A) (s := s) (e := fun j => if j = 0 then decide (m = n) else decide (p = q)) (r := fun j => if j = 0 then decide (n < m) else lexLt q p) p1 p2 (by omega) (fun j h1 h2 => by
            match j, h1 with
            | 0, _ =>
              have z : (m == n) = decide (m = n) := Bool.beq_eq_decide_eq _ _
              show SeqAt.EqAt X.A.in1 s (.int m t1) (.int n t2) (decide (m = n))
              rw [← z]
              exact SeqAt.EqAt.int_int _ _ _ _
            | 1, _ => exact eqAt_tupI p3 p4 i3 i4 (by show X.A.units + 1 + 1 < cLine; omega)) (fun j h1 h2 _ => by
            match j, h1 with
            | 0, _ => exact Ob.RcOp.gt_int _ _ _ _
            | 1, _ => exact gtAt_tupI p3 p4 i3 i4 (by show X.A.units + 1 < cLine; omega))
          have z : wpAny (model X.prog X.w) X.A (compareOp .Gt (.ref a) (.ref b)) (EP X pins σ Q) X.xe s := R X.prog X.w X.xe (EP X pins σ Q) (by
            refine ⟨.bl _, H, I, rfl, ?_⟩
            have e : Ob.lexAt (fun j => if j = 0 then decide (m = n) else decide (p = q)) (fun j => if j = 0 then decide (n < m) else lexLt q p) (decide ([Value.int m t1, Value.ref c].toArray.size > [Value.int n t2, Value.ref d].toArray.size)) 0
                (min [Value.int m t1, Value.ref c].toArray.size [Value.int n t2, Value.ref d].toArray.size) = rkLt (n, q, []) (m, p, []) := by
              show (if decide (m = n) = true then (if decide (p = q) = true then false else lexLt q p) else decide (n < m)) = _
              unfold rkLt
              show _ = if n = m then (if q = p then lexLt [] [] else lexLt q p) else decide (n < m)
              by_cases h1 : m = n
              · rw [if_pos (decide_eq_true h1), if_pos h1.symm]
                by_cases h2 : p = q
                · rw [if_pos (decide_eq_true h2), if_pos h2.symm]; rfl
                · rw [if_neg (by rw [decide_eq_false h2]; exact Bool.false_ne_true), if_neg (Ne.symm h2)]
              · rw [if_neg (by rw [decide_eq_false h1]; exact Bool.false_ne_true), if_neg (Ne.symm h1)]
            rw [e]
            exact hq)
          exact z
section
variable {X : Cx} {ρ : Ro} {a b : Expr} {pos : Pos} {m n : Int} {p q : List Int}
abbrev pwD (p : List Int) : PyData := .tuple (p.map .int)
theorem e_rkGt (hu : X.A.units + 64 < cLine) (ha : E X ρ a (.tuple [.int m, pwD p])) (hb : E X ρ b (.tuple [.int n, pwD q])) : E X ρ (.Compare a [.Gt] [b] pos) (.bool (rkLt (n, q, []) (m, p, []))) :=
  e_two (pe_cmpR (op_rkGt hu) pe_we pe_we (nomark _)) ha hb fun I H hx x y rx ry Q k => by
    cases rx with
    | tup ea ra =>
      cases ry with
      | tup eb rb =>
        cases ra with
        | cons a1 a2 =>
          cases a2 with
          | cons a2 a3 =>
            cases a3
            cases rb with
            | cons b1 b2 =>
              cases b2 with
              | cons b2 b3 =>
                cases b3
                cases a1
                cases b1
                obtain ⟨c, rfl, hc⟩ := a2.tupI
                obtain ⟨d, rfl, hd⟩ := b2.tupI
                exact ⟨_, _, c, d, m, n, p, q, rfl, rfl, SqT.of (hx _ _ ea), SqT.of (hx _ _ eb), SqT.of (hx _ _ hc), SqT.of (hx _ _ hd), k _ I H (.refl hx) (.bl _)⟩
end
end R1

set_option Elab.async false
set_option linter.all false
set_option maxRecDepth 100000
set_option maxHeartbeats 4000000
/-! CoreT: sorted(tuples that tell ranks, reverse=True); sorted(things, key=own def that answers ranks, reverse=True). -/
namespace R1
open PySem PySem.Spec PyProof.Rows L2 Evl

theorem intsAre_inj : ∀ {us : List Value} {p q : List Int}, IntsAre us p → IntsAre us q → p = q
  | _, _, _, .nil, .nil => rfl
  | _, _, _, .cons n t h, .cons _ _ h' => by rw [intsAre_inj h h']
theorem IsRk.inj {h : Heap} {v : Value} {k k' : Rk} (a : IsRk h v k) (b : IsRk h v k') : k = k' := by
  obtain ⟨⟨x, o, t, y, us, cs, n, rfl, ho, hc, hd, hy, i1, i2⟩⟩ := a
  obtain ⟨⟨x', o', t', y', us', cs', n', e, ho', hc', hd', hy', i1', i2'⟩⟩ := b
  cases e
  rw [ho] at ho'
  cases ho'
  rw [hd] at hd'
  injection hd' with z1 z2
  have z3 : Value.int k.1 t :: Value.ref y :: cs = Value.int k'.1 t' :: Value.ref y' :: cs' := by
    have := congrArg Array.toList z1
    simpa using this
  injection z3 with z4 z5
  injection z5 with z6 z7
  injection z4 with z8 z9
  injection z6 with z10
  subst z7
  subst z10
  obtain ⟨w, hw, _, m, hwd⟩ := hy
  obtain ⟨w', hw', _, m', hwd'⟩ := hy'
  rw [hw] at hw'
  cases hw'
  rw [hwd] at hwd'
  injection hwd' with y1 y2
  have y3 : us = us' := by
    have := congrArg Array.toList y1
    simpa using this
  subst y3
  exact Prod.ext z8 (Prod.ext (intsAre_inj i1 i1') (intsAre_inj i2 i2'))
theorem IsRk.keeps {h h' : Heap} {v : Value} {k : Rk} (a : IsRk h v k) (keep : ∀ b o, h.get? b = some o → o.cls = .type "tuple" → h'.get? b = some o) : IsRk h' v k := by
  obtain ⟨⟨x, o, t, y, us, cs, n, rfl, ho, hc, hd, hy, i1, i2⟩⟩ := a
  obtain ⟨w, hw, hwc, m, hwd⟩ := hy
  exact ⟨x, o, t, y, us, cs, n, rfl, keep _ _ ho hc, hc, hd, ⟨w, keep _ _ hw hwc, hwc, m, hwd⟩, i1, i2⟩

section
variable {prog : Program} {w : World} {A : Around} {E : Value → Shared → Prop} {s : Shared} {Q : Bool → Shared → Prop}
theorem lex_intsR {b : Bool} {xs ys : List Value} {ns ms : List Int} (i : Nat) (hx : IntsAre xs ns) (hy : IntsAre ys ms) (h : Q (lexLt ns ms) s) {fin : Bool} (hf : fin = decide (xs.length < ys.length)) : PySem.W.KatLex prog w A b fin Q (xs.zip ys) i s := by
  induction hx generalizing ys ms i with
  | nil =>
    cases hy with
    | nil => subst hf; exact PySem.W.kat_nil h
    | cons q u hy => subst hf; exact PySem.W.kat_nil h
  | @cons p t xs ns hx ih =>
    cases hy with
    | nil => subst hf; exact PySem.W.kat_nil h
    | @cons q u ys ms hy =>
      show PySem.W.KatLex prog w A b fin Q ((Value.int p t, Value.int q u) :: xs.zip ys) i s
      refine PySem.W.kat_cons (wpAny_eqBool_int ?_)
      have h' : Q (HT.lexLt (p :: ns) (q :: ms)) s := h
      rw [HT.lexLt_cons] at h'
      by_cases e : p = q
      · subst e
        rw [beq_self_eq_true]
        rw [if_pos rfl] at h'
        refine PySem.W.kat_yes ?_
        refine ih (i + 1) hy h' ?_
        rw [hf]
        simp
      · have e' : (p == q) = false := beq_false_of_ne e
        rw [e']
        rw [if_neg e] at h'
        exact PySem.W.kat_no (TS.oneLt_ints _ h')
theorem rk_cmp {vs : List Value} {k : Value → Rk} (hu : A.units + 64 < cLine) (hp : ∀ v ∈ vs, IsRk s.heap v (k v)) : SrtO.Cmp prog w A s (tuples' true) (fun p => p.1 ∈ vs) (SrtO.lt2 fun v u => rkLt (k v) (k u)) := by
  intro p q hm hm'
  have h1 := hp _ hm
  have h2 := hp _ hm'
  show wpAny (model prog w) A (keyLt' (tuples' true) p.1 q.1) (fun r s' => s' = s ∧ r = rkLt (k p.1) (k q.1)) (fun _ _ => False) s
  generalize k p.1 = kx at h1 ⊢
  generalize k q.1 = ky at h2 ⊢
  obtain ⟨⟨a, o, t, y, us, cs, n, e, ho, hc, hd, hy, i1, i2⟩⟩ := h1
  obtain ⟨⟨a', o', t', y', us', cs', n', e', ho', hc', hd', hy', i1', i2'⟩⟩ := h2
  rw [e, e']
  refine PySem.W.kat_lt ho hd ho' hd' ?_
  show PySem.W.KatLex prog w A true _ _ ((.int kx.1 t, .int ky.1 t') :: (.ref y, .ref y') :: cs.zip cs') 0 s
  have hsz : decide ((Value.int kx.1 t :: Value.ref y :: cs).toArray.size < (Value.int ky.1 t' :: Value.ref y' :: cs').toArray.size) = decide (cs.length < cs'.length) := by simp
  rw [hsz]
  unfold rkLt
  refine PySem.W.kat_cons (SeqAt.EqAt.int_int kx.1 t ky.1 t' prog w _ _ ?_)
  refine PySem.W.kat_go (fun e1 => ?_) (fun e1 => ?_)
  · have ex : kx.1 = ky.1 := by simpa using e1
    refine PySem.W.kat_yes (PySem.W.kat_cons (eqAt_tupI hy hy' i1 i1' (by omega) prog w _ _ ?_))
    refine PySem.W.kat_go (fun e2 => ?_) (fun e2 => ?_)
    · have ey : kx.2.1 = ky.2.1 := of_decide_eq_true e2
      refine PySem.W.kat_yes (lex_intsR 2 i2 i2' ⟨rfl, ?_⟩ rfl)
      rw [if_pos ex, if_pos ey]
    · have ey : ¬ kx.2.1 = ky.2.1 := of_decide_eq_false e2
      refine PySem.W.kat_no (PySem.W.kat_one _ _ ?_)
      refine ltAt_tupI hy hy' i1 i1' (by omega) prog w _ _ ?_
      exact (show s = s ∧ lexLt kx.2.1 ky.2.1 = _ from ⟨rfl, by rw [if_pos ex, if_neg ey]⟩)
  · have ex : ¬ kx.1 = ky.1 := by simpa using e1
    exact PySem.W.kat_no (oneLt_int ⟨rfl, by rw [if_neg ex]⟩)
theorem rk_firsts {h : Heap} : ∀ {vs : List Value}, (∀ v ∈ vs, ∃ k, IsRk h v k) → ∃ fs, PySem.W.KatTups h vs fs ∧ fs.length = vs.length ∧ ∀ f ∈ fs, ∃ x t, f = Value.int x t
  | [], _ => ⟨[], PySem.W.KatTups.nil, rfl, fun _ z => nomatch z⟩
  | v :: vs, hp => by
    obtain ⟨fs, h1, h2, h3⟩ := rk_firsts (vs := vs) fun u hu => hp u (.tail _ hu)
    obtain ⟨k, ⟨a, o, t, y, us, cs, n, rfl, ho, hc, hd, hy, i1, i2⟩⟩ := hp v (.head _)
    refine ⟨.int k.1 t :: fs, PySem.W.KatTups.cons ho hc hd (by simp) h1, by rw [List.length_cons, List.length_cons, h2], fun f hf => ?_⟩
    rcases List.mem_cons.mp hf with rfl | hf
    · exact ⟨_, _, rfl⟩
    · exact h3 f hf
theorem rk_kind {vs : List Value} {k : Value → Rk} {Q : SortKind → Shared → Prop} (h0 : 0 < vs.length) (hp : ∀ v ∈ vs, IsRk s.heap v (k v)) (hq : Q (tuples' true) s) : wpAny (model prog w) A (keyKind' vs.toArray) Q E s := by
  obtain ⟨fs, h1, h2, h3⟩ := rk_firsts fun v hm => ⟨_, hp v hm⟩
  refine PySem.W.kat_kind (T := .type "int") h1 (by omega) (fun f hm => ?_) (by rfl) ?_
  · obtain ⟨x, t, rfl⟩ := h3 f hm
    exact PySem.W.Looks.now
  · have e : (Value.type "int" != Value.type "tuple") = true := by first | decide +kernel | rfl | decide
    rw [e]
    exact hq
theorem rk_sortable {a : Addr} {vs : List Value} {k : Value → Rk} (hu : A.units + 64 < cLine) (h0 : 0 < vs.length) (hp : ∀ v ∈ vs, IsRk s.heap v (k v)) (ha : ∀ o, s.heap.get? a = some o → o.cls ≠ .type "tuple") : SrtO.SortableO prog w A s a vs fun v u => rkLt (k v) (k u) := by
  intro h' keep
  have hp' : ∀ v ∈ vs, IsRk h' v (k v) := fun v hm => (hp v hm).keeps fun b o e c => keep b o (fun z => by subst z; exact ha o e c) e
  exact ⟨tuples' true, fun Q E hq => rk_kind (s := { s with heap := h' }) h0 hp' hq, rk_cmp (s := { s with heap := h' }) hu hp'⟩
end
noncomputable def rkOf (h : Heap) (v : Value) : Rk := by
  classical
  exact if z : ∃ k, IsRk h v k then z.choose else (0, [], [])
theorem rkOf_eq {h : Heap} {v : Value} {k : Rk} (a : IsRk h v k) : rkOf h v = k := by
  unfold rkOf
  have z : ∃ k, IsRk h v k := ⟨k, a⟩
  rw [dif_pos z]
  exact z.choose_spec.inj a
/-- data that tells a rank, as the heap lays it -/
theorem Rp.isRk {X : Cx} {pins : List (Addr × Obj)} {s : Shared} {σ : L2.St} {I H : Hp} {x : V} {v : Value} {k : Rk} (i : Inv X pins σ H s) (e : Ex I H) (r : Rp I x (rkD k)) (rv : RelV x v) : IsRk s.heap v k := by
  cases r with
  | tup ha hr =>
    cases rv
    cases hr with
    | cons r1 hr =>
      cases hr with
      | cons r2 hr =>
        cases r1
        obtain ⟨b, rfl, hb⟩ := r2.tupI
        obtain ⟨_, its, rv1, o, ho, hc, n, hd⟩ := i.hok _ _ (e _ _ ha)
        obtain ⟨_, its2, rv2, hd2⟩ := i.hok _ _ (e _ _ hb)
        cases rv1 with
        | cons v1 rv1 =>
          cases rv1 with
          | cons v2 rv1 =>
            obtain ⟨t, rfl⟩ := v1
            cases v2
            rw [hr.ints] at rv1
            exact ⟨_, o, t, b, its2, _, n, rfl, ho, hc, hd, hd2, Vals.ints rv2, Vals.ints rv1⟩

/-! ### the row of ranks, the greatest first -/
def rkGe (a b : Rk) : Bool := !rkLt a b
def srtD (ks : List Rk) : List Rk := ks.mergeSort rkGe
theorem srtD_perm (ks : List Rk) : (srtD ks).Perm ks := List.mergeSort_perm _ _
theorem srtD_pw (ks : List Rk) : (srtD ks).Pairwise fun a b => rkLt a b = false := by
  have h := List.pairwise_mergeSort (le := rkGe) (fun a b c h1 h2 => by
    unfold rkGe at h1 h2 ⊢
    rw [Bool.not_eq_true'] at h1 h2 ⊢
    exact rkLt_ntr c b a h2 h1) (fun a b => by
    unfold rkGe
    cases h : rkLt a b with
    | false => rfl
    | true => rw [rkLt_asym _ _ h]; rfl) ks
  refine h.imp fun {a b} z => ?_
  unfold rkGe at z
  rwa [Bool.not_eq_true'] at z
theorem srtD_eq {ks ns : List Rk} (hp : ns.Perm ks) (hs : ns.Pairwise fun a b => rkLt a b = false) : ns = srtD ks :=
  List.Perm.eq_of_pairwise (le := fun a b => rkLt a b = false) (fun a b _ _ h1 h2 => rkLt_tri a b h1 h2) hs (srtD_pw ks) (hp.trans (srtD_perm ks).symm)
theorem rpAll_map {I : Hp} {α β : Type} {f : α → V} {g : β → PyData} {l : List α} {m : α → β} (h : ∀ x ∈ l, Rp I (f x) (g (m x))) : RpAll I (l.map f) ((l.map m).map g) := by
  induction l with
  | nil => exact .nil
  | cons x l ih => exact .cons (h x (.head _)) (ih fun y hy => h y (.tail _ hy))
theorem rpAll_mem {I : Hp} : ∀ {vs : List V} {ds : List PyData}, RpAll I vs ds → ∀ v ∈ vs, ∃ d ∈ ds, Rp I v d
  | _, _, .nil, v, hv => nomatch hv
  | _, _, .cons h hs, v, hv => by
    rcases List.mem_cons.mp hv with rfl | hv
    · exact ⟨_, .head _, h⟩
    · obtain ⟨d, hd, r⟩ := rpAll_mem hs v hv
      exact ⟨d, .tail _ hd, r⟩
def rSortRk (K : PySem.W.Frag) : List V → List V → Hp → VK → Prop := fun vs zs H Q => ∃ (a : Addr) (xs : List V) (I : Hp) (ks : List Rk), vs = [V.ref a] ∧ zs = [.bl true] ∧ SqL K H a xs ∧ Ex I H ∧ RpAll I xs (ks.map rkD) ∧
  ∀ (ys : List V) (p : Addr), RpAll I ys ((srtD ks).map rkD) → H p = none → Q (.ref p) (upd H p (.lst ys))
theorem rk_back {X : Cx} {pins : List (Addr × Obj)} {s : Shared} {σ : L2.St} {I H : Hp} (i : Inv X pins σ H s) (e : Ex I H) : ∀ {xs : List V} {its : List Value} {ks : List Rk}, RpAll I xs (ks.map rkD) → Vals xs its →
    (∀ v ∈ its, IsRk s.heap v (rkOf s.heap v) ∧ Rp I (backV v) (rkD (rkOf s.heap v)) ∧ ∃ a, v = .ref a) ∧ its.map (rkOf s.heap) = ks
  | [], [], [], .nil, .nil => ⟨fun _ h => (nomatch h), rfl⟩
  | x :: xs, v :: its, k :: ks, .cons r rs, .cons q qs => by
    obtain ⟨h1, h2⟩ := rk_back i e rs qs
    have z := Rp.isRk i e r q
    have z' := rkOf_eq z
    refine ⟨fun u hu => ?_, by rw [List.map_cons, z', h2]⟩
    rcases List.mem_cons.mp hu with rfl | hu
    · rw [z']
      refine ⟨z, ?_, ?_⟩
      · cases r with
        | tup ha hr => cases q; exact .tup ha hr
      · cases r with
        | tup ha hr => cases q; exact ⟨_, rfl⟩
    · exact h1 u hu
theorem cr_sortRk {X : Cx} (hu : X.A.units + 70 < cLine) : CallRK X (.builtin "sorted") [Str.ofString "reverse"] (rSortRk X.K) := by
  intro pins s σ H vs zs us ws Q I r rz h
  obtain ⟨a, xs, I0, ks, rfl, rfl, hs, hx, hr, q⟩ := h
  obtain rfl := Vals.ref1 r
  obtain ⟨w1, rfl, e1⟩ := vals1 rz
  obtain rfl : w1 = Value.bool true := e1
  obtain ⟨its, rv, hl, hz⟩ := I.list hs
  obtain ⟨hb, hk⟩ := rk_back I hx hr rv
  refine SrtR.sorted_ordK (b := true) (ltv := fun v u => rkLt (rkOf s.heap v) (rkOf s.heap u)) (fun _ => rfl) (PyProof.Rows.args_sorted_rev _ _) (fun _ => PyProof.Rows.args_list_sort_rev _ _) (swo_rk _) hl.isList (by rw [← rv.length]; exact hz) (fun h2 h₁ a' ha kk => ?_) fun out h1 h2 => ?_
  · refine rk_sortable (s := { s with heap := h₁ }) (k := rkOf s.heap) (by show X.A.units + 1 + 1 + 64 < cLine; omega) (by omega) (fun v hv => (hb v hv).1.keeps fun b o e _ => (kk b o e).2) fun o e => ?_
    have e' : some o = some (seqObj "list" its.toArray 0) := e.symm.trans ha
    cases e'
    intro c
    exact absurd (Value.type.inj c) (by decide)
  · have hp : out.Perm its := h2.perm.trans (List.reverse_perm _)
    have hm : ∀ v ∈ out.reverse, IsRk s.heap v (rkOf s.heap v) ∧ Rp I0 (backV v) (rkD (rkOf s.heap v)) ∧ ∃ a, v = .ref a := fun v hv => hb v (hp.mem_iff.mp (List.mem_reverse.mp hv))
    have hks : out.reverse.map (rkOf s.heap) = srtD ks := by
      refine srtD_eq ?_ ?_
      · rw [← hk]
        exact ((List.reverse_perm _).trans hp).map _
      · rw [List.map_reverse, List.pairwise_reverse, List.pairwise_map]
        exact h1
    obtain ⟨ep, he'⟩ := PyProof.Rows.sortedAll_at s.heap its (if true = true then out.toArray.reverse else out.toArray)
    have e0 : (out.reverse).toArray = out.toArray.reverse := by
      apply Array.ext'
      rw [Array.toList_reverse]
    have hlen : (out.reverse.map backV).length ≤ sizeLine := by
      rw [List.length_map, List.length_reverse, hp.length_eq, ← rv.length]
      exact hz
    refine ⟨.ref _, upd H (s.heap.objs.size + 1) (.lst (out.reverse.map backV)), I.laid (t' := s.toks) (fun _ _ => PyProof.Rows.sortedAll_old) (Nat.le_succ _) ⟨hlen, out.reverse, ep, vals_back fun u hu => (hm u hu).2.2, by rw [e0]; exact he'⟩, rfl, q _ _ ?_ (I.hok.fresh (Nat.le_succ _))⟩
    rw [← hks]
    exact rpAll_map fun v hv => (hm v hv).2.1
section
variable {X : Cx} {ρ : Ro} {e f : Expr} {ks : List Rk} {pos p q kp : Pos} {j : Nat}
/-- sorted(xs, reverse=True) of tuples that tell ranks -/
theorem e_sortRk (hu : X.A.units + 70 < cLine) (hg : Gl X "sorted") (hm : X.mg "sorted" = none) (ha : E X ρ e (.list (ks.map rkD)))
    (hs : starEach [e] X.env = [(false, eval e X.env)] := by rfl) : E X ρ (.Call (.Name "sorted" p) [e] [⟨some "reverse", .Constant (.bool true) j q, kp⟩] pos) (.list ((srtD ks).map rkD)) :=
  e_of (pe_callBK (ks := [Str.ofString "reverse"]) (cr_sortRk hu) hg hm (by decide +kernel) (pa1 hs) (pk_cons pe_bl pk_nil) (by decide) (by decide) (by rw [hs]; rfl) (by rw [hs]; rfl) (by rfl) (by rfl) (by rfl)) fun I σ H hx vs Q k =>
    ha I σ H hx vs _ fun v I1 H1 n1 r1 => by
      cases r1 with
      | lst ea ra =>
        exact ⟨_, _, I1, ks, rfl, rfl, SqL.of (n1.j _ _ ea), n1.j, ra, fun ys l ry hl => k _ _ _ (n1.trans (Nw.new n1.j hl)) (.lst upd_same (ry.up (Nw.new (o := .lst ys) n1.j hl).i))⟩
end
end R1

set_option Elab.async false
set_option linter.all false
set_option maxRecDepth 100000
set_option maxHeartbeats 4000000
/-! CoreU: sorted(rows of whole numbers, key=an own def that answers their rank, reverse=True). -/
namespace R1
open PySem PySem.Spec PyProof.Rows L2 Evl

def rkP (p : List Int) : Rk := (p.sum, p, [])
/-- rank_of -/
def RkR (ds : List PyData) (d : PyData) : Prop := ∃ p : List Int, ds = [pwD p] ∧ d = rkD (rkP p)
/-- rows of whole numbers, the greatest rank first -/
def srtP (ps : List (List Int)) : List (List Int) := (srtD (ps.map rkP)).map (·.2.1)
theorem srtP_perm (ps : List (List Int)) : (srtP ps).Perm ps := by
  have h := (srtD_perm (ps.map rkP)).map (·.2.1)
  rw [List.map_map] at h
  have e : ps.map ((fun k : Rk => k.2.1) ∘ rkP) = ps := by
    show ps.map (fun p => p) = ps
    exact List.map_id _
  rw [e] at h
  exact h
theorem srtP_rk (ps : List (List Int)) : (srtP ps).map rkP = srtD (ps.map rkP) := by
  unfold srtP
  rw [List.map_map]
  conv => rhs; rw [← List.map_id (srtD (ps.map rkP))]
  refine List.map_congr_left fun k hk => ?_
  obtain ⟨p, _, rfl⟩ := List.mem_map.mp ((srtD_perm _).mem_iff.mp hk)
  rfl
theorem srtP_eq {ps ns : List (List Int)} (hp : ns.Perm ps) (hs : ns.Pairwise fun a b => rkLt (rkP a) (rkP b) = false) : ns = srtP ps := by
  have h : ns.map rkP = srtD (ps.map rkP) := srtD_eq (hp.map _) (List.pairwise_map.mpr hs)
  have e : ns = (ns.map rkP).map (·.2.1) := by
    rw [List.map_map]
    show ns = ns.map (fun p => p)
    exact (List.map_id _).symm
  rw [e, h]
  rfl

section
variable {X : Cx} {pins : List (Addr × Obj)} {s : Shared} {σ : L2.St} {I H : Hp} {f : Addr} {fd : FuncData} {ps : List Str} {k : Nat}
theorem key_run {R : List PyData → PyData → Prop} {v : Value} {x : V} {d e : PyData} {C : Value → Shared → Prop} (F : FnOk X.prog X.w X.K X.mg X.base CX0 k f fd ps (spP R)) (hr : Room (k + 2) X.A) (hb : Binds X.K fd ps []) (i : Inv X pins σ H s) (rv : RelV x v) (hx : Ex I H) (rx : Rp I x d) (hR : R [d] e) :
    wpAny (model X.prog X.w) X.A.in1.in1 (call (.ref f) [v]) (EP X pins σ fun u H' => ∃ I', Nw I H I' H' ∧ Rp I' u e) C s := by
  have r2 : Vals [x] [v] := .cons rv .nil
  have h : spP R [x] H (fun u H' => ∃ I', Nw I H I' H' ∧ Rp I' u e) E0 := ⟨I, [d], e, hx, .cons rx .nil, hR, fun u I' H' n r => ⟨I', n, r⟩⟩
  have hl : ([v] : List Value).length = ps.length := by rw [← r2.length]; exact F.len _ _ _ _ h
  refine wpAny_call (codeAny_mono (F.run X.A.in1.in1 X.stack s H ⟨[v], []⟩ [v] [x] _ E0 hr.in1.in1 i.env0.in1.in1 (by have z := hb s [v] i.kIn (by simpa using hl); simpa using z) r2 h) fun r s' hq => ?_)
  cases r with
  | error e => exact hq.elim
  | ok fl =>
    cases fl with
    | ret u => exact i.after hq
    | next => exact False.elim hq
    | brk => exact False.elim hq
    | cont => exact False.elim hq
end

/-- pairs (key, item) in some order: the keys tell ranks, the items are the rows -/
structure Prd (h : Heap) (I : Hp) (q : Keyed) (p : List Int) : Prop where
  k : IsRk h q.1 (rkP p)
  i : Rp I (backV q.2) (pwD p)
  r : ∃ a, q.2 = Value.ref a
inductive PrdAll (h : Heap) (I : Hp) : List Keyed → List (List Int) → Prop
  | nil : PrdAll h I [] []
  | cons {q p l ps} : Prd h I q p → PrdAll h I l ps → PrdAll h I (q :: l) (p :: ps)
theorem PrdAll.mem {h : Heap} {I : Hp} : ∀ {l : List Keyed} {ps : List (List Int)}, PrdAll h I l ps → ∀ q ∈ l, ∃ p, Prd h I q p
  | _, _, .nil, q, z => nomatch z
  | _, _, .cons a b, q, z => by
    rcases List.mem_cons.mp z with rfl | z
    · exact ⟨_, a⟩
    · exact b.mem q z
theorem PrdAll.keys {h : Heap} {I : Hp} : ∀ {l : List Keyed} {ps : List (List Int)}, PrdAll h I l ps → l.map (fun q => rkOf h q.1) = ps.map rkP
  | _, _, .nil => rfl
  | _, _, .cons a b => by rw [List.map_cons, List.map_cons, b.keys, rkOf_eq a.k]

section
variable {X : Cx} {pins : List (Addr × Obj)} {s : Shared} {σ : L2.St} {I H : Hp} {a kS : Addr} {e1 : Nat} {b : Bool}
/-- the end: what was sorted is written back -/
theorem keys_end {its : List Value} {keys : Array Value} {ps : List (List Int)} {n : Nat} {xs ys : List V} {P : PySem.Fin → Shared → Prop} (hu : X.A.units + 70 < cLine) (i : Inv X pins σ H s)
    (ha : s.heap.get? a = some (seqObj "list" #[] e1)) (hHa : Mut (H a)) (hk : H kS = some (.lst xs)) (hks : s.heap.get? kS = some (seqObj "list" keys n)) (hne : kS ≠ a) (hsz : its.length ≤ sizeLine) (hlen : keys.size = its.length)
    (hp : PrdAll s.heap I (keys.zip its.toArray).toList ps)
    (h : ∀ (s' : Shared) (out : List V), RpAll I out ((srtP ps).map pwD) → Inv X pins σ (upd (upd H kS (.lst [])) a (.lst out)) s' → P (.done (.ret .none)) s') :
    wpAny (model X.prog X.w) X.A.in1.in1 (ksk_end a true its.toArray e1 (.ref kS) keys) P (fun _ _ => False) s := by
  have hzs : (keys.zip its.toArray).size = its.length := by rw [Array.size_zip, hlen, List.size_toArray, Nat.min_self]
  have fin : ∀ st' : SortSt, SrtO.Srtd (SrtO.lt2 fun v u => rkLt (rkOf s.heap v) (rkOf s.heap u)) (arrOf st').toList → (arrOf st').toList.Perm (keys.zip its.toArray).toList → failedOf st' = none →
      wpAny (model X.prog X.w) X.A.in1.in1 (ksk_tail a true e1 (.ref kS) st') P (fun _ _ => False) s := by
    intro st' h1 h2 h3
    have hl : (arrOf st').toList.length = its.length := by rw [h2.length_eq, Array.length_toList, hzs]
    have hm : ∀ q ∈ (arrOf st').toList.reverse, ∃ p, Prd s.heap I q p := fun q hq => hp.mem q (h2.mem_iff.mp (List.mem_reverse.mp hq))
    have hks' : (arrOf st').toList.reverse.map (fun q => rkOf s.heap q.1) = srtD (ps.map rkP) := by
      refine srtD_eq ?_ ?_
      · rw [← hp.keys]
        exact ((List.reverse_perm _).trans h2).map _
      · rw [List.map_reverse, List.pairwise_reverse, List.pairwise_map]
        exact h1
    have ho : (((arrOf st').map (·.2)).reverse).toList = (arrOf st').toList.reverse.map (·.2) := by
      rw [Array.toList_reverse, Array.toList_map, List.map_reverse]
    have s1 := Heap.SameBut.update s.heap kS (Obj.mapSeq fun _ => (#[] : Array Value))
    have na1 : (s.heap.update kS (Obj.mapSeq fun _ => (#[] : Array Value))).get? a = some (seqObj "list" #[] e1) := (s1.2 a hne.symm).trans ha
    unfold ksk_tail
    try dsimp only
    refine wpAny_bind (listUpdate_at hks rfl ?_ (by rw [hlen]; exact hsz) (Nat.zero_le _))
    refine wpAny_bind (wpAny_letGo ?_)
    refine wpAny_bind (seqEpoch_at na1 rfl ?_)
    refine wpAny_bind (listUpdate_at na1 rfl ?_ (Nat.zero_le _) ?_)
    · rw [h3]
      simp only [bne_self_eq_false, Bool.false_eq_true, if_false]
      have i1 : Inv X pins σ (upd H kS (.lst [])) { s with heap := s.heap.update kS (Obj.mapSeq fun _ => (#[] : Array Value)), toks := s.toks } := by
        have hks2 : s.heap.get? kS = some { cls := .type "list", data := .seq keys.toList.toArray n } := by rw [Array.toArray_toList]; exact hks
        have q := get?_update_seq hks fun _ => (#[] : Array Value)
        refine i.write (x := kS) (e := kS) (o := .lst []) (by rw [hk]; trivial) (.inl rfl) (fun b u hb z => (Heap.get?_update_other _ _ (Ne.symm hb)).trans z) ⟨_, q⟩ ⟨Nat.zero_le _, [], _, .nil, q⟩
      obtain ⟨c2, q2⟩ : ∃ c2, ((s.heap.update kS (Obj.mapSeq fun _ => (#[] : Array Value))).update a (Obj.mapSeq fun _ => if true = true then ((arrOf st').map (·.2)).reverse else (arrOf st').map (·.2))).get? a = some (seqObj "list" ((arrOf st').map (·.2)).reverse c2) :=
        ⟨_, get?_update_seq na1 fun _ => if true = true then ((arrOf st').map (·.2)).reverse else (arrOf st').map (·.2)⟩
      refine wpAny_pure (h _ ((arrOf st').toList.reverse.map fun q => backV q.2) ?_ ?_)
      · have e0 : (srtP ps).map pwD = (((arrOf st').toList.reverse.map (fun q => rkOf s.heap q.1)).map fun k => pwD k.2.1) := by
          rw [hks']
          unfold srtP
          rw [List.map_map]
          rfl
        rw [e0]
        exact rpAll_map (g := fun k : Rk => pwD k.2.1) fun q hq => by
          obtain ⟨p, hpr⟩ := hm q hq
          rw [rkOf_eq hpr.k]
          exact hpr.i
      · refine i1.write (x := a) (e := a) (t' := s.toks) ?_ (.inl rfl) (fun b u hb z => (Heap.get?_update_other _ _ (Ne.symm hb)).trans z) ⟨_, q2⟩ ?_
        · rw [upd_ne hne.symm]
          exact hHa
        · refine ⟨?_, (arrOf st').toList.reverse.map (·.2), c2, ?_, ?_⟩
          · rw [List.length_map, List.length_reverse, hl]
            exact hsz
          · have := vals_back (us := (arrOf st').toList.reverse.map (·.2)) fun u hu => by
              obtain ⟨q, hq, rfl⟩ := List.mem_map.mp hu
              obtain ⟨p, hpr⟩ := hm q hq
              exact hpr.r
            rw [List.map_map] at this
            exact this
          · rw [← ho, Array.toArray_toList]
            exact q2
    · show (((arrOf st').map (·.2)).reverse).size ≤ _
      have : (arrOf st').size = its.length := by rw [← Array.length_toList]; exact hl
      simp only [Array.size_reverse, Array.size_map]
      omega
  have est : ((keys.zip its.toArray).reverse).toList.Perm (keys.zip its.toArray).toList := by rw [Array.toList_reverse]; exact List.reverse_perm _
  unfold ksk_end
  try dsimp only
  rw [if_pos rfl]
  refine wpAny_bind (wpAny_rule ?_)
  by_cases h2 : its.toArray.size < 2
  · rw [if_pos h2, if_pos h2]
    refine wpAny_bind (wpAny_pure ?_)
    rw [StateT.run_pure]
    refine wpAny_bind (wpAny_pure ?_)
    try dsimp only
    rw [if_pos rfl]
    refine fin (SortSt.mk' general' (keys.zip its.toArray).reverse #[] 7 none) ?_ est rfl
    show SrtO.Srtd _ ((keys.zip its.toArray).reverse).toList
    have hl : ((keys.zip its.toArray).reverse).toList.length < 2 := by
      rw [est.length_eq, Array.length_toList, hzs]
      simpa using h2
    revert hl
    generalize ((keys.zip its.toArray).reverse).toList = l
    intro hl
    match l, hl with
    | [], _ => exact List.Pairwise.nil
    | [v], _ => exact List.pairwise_singleton _ _
  · rw [if_neg h2, if_neg h2]
    have h2' : 2 ≤ its.length := by simpa using h2
    have hkm : ∀ v ∈ keys.toList, IsRk s.heap v (rkOf s.heap v) := fun v hv => by
      have hz : (keys.zip its.toArray).toList = keys.toList.zip its := ksk_zip keys its
      obtain ⟨j, hj, rfl⟩ := List.getElem_of_mem hv
      have hj1 : j < keys.toList.length := hj
      rw [Array.length_toList] at hj1
      have hjz : j < (keys.toList.zip its).length := by rw [List.length_zip, Array.length_toList]; omega
      have hq : (keys.toList.zip its)[j] ∈ (keys.zip its.toArray).toList := by rw [hz]; exact List.getElem_mem hjz
      obtain ⟨p, hpr⟩ := hp.mem _ hq
      have e : ((keys.toList.zip its)[j]).1 = keys.toList[j] := by rw [List.getElem_zip]
      have k := hpr.k
      rw [e] at k
      rw [rkOf_eq k]
      exact k
    have ek : keys = keys.toList.toArray := (Array.toArray_toList).symm
    refine wpAny_bind (m := keyKind' keys) ?_
    have hkk := rk_kind (prog := X.prog) (w := X.w) (A := X.A.in1.in1) (s := s) (E := fun _ _ => False) (vs := keys.toList) (k := rkOf s.heap) (by rw [Array.length_toList]; omega) hkm (Q := fun κ s' => κ = tuples' true ∧ s' = s) ⟨rfl, rfl⟩
    rw [Array.toArray_toList] at hkk
    refine wpAny_mono hkk ?_ fun _ _ e => e
    rintro κ s' ⟨rfl, rfl⟩
    have hall : SrtO.AllL (fun p : Keyed => p.1 ∈ keys.toList) ((keys.zip its.toArray).reverse).toList := fun p hm => by
      have hm' := est.mem_iff.mp hm
      rw [ksk_zip] at hm'
      obtain ⟨x, y⟩ := p
      exact (List.of_mem_zip hm').1
    refine wpAny_bind (wpAny_mono (SrtO.wpS_sortO (st0 := SortSt.mk' (tuples' true) (keys.zip its.toArray).reverse #[] 7 none)
      (Q := fun _ st' => SrtO.Srtd (SrtO.lt2 fun v u => rkLt (rkOf s'.heap v) (rkOf s'.heap u)) (arrOf st').toList ∧ (arrOf st').toList.Perm (keys.zip its.toArray).toList ∧ failedOf st' = none)
      (SrtO.swo2 (swo_rk fun v => rkOf s'.heap v)) (rk_cmp (k := rkOf s'.heap) (by show X.A.units + 1 + 1 + 64 < cLine; omega) hkm) rfl hall rfl rfl fun st' a1 a2 a3 => ⟨a1, a2.perm.trans est, a3⟩) ?_ fun _ _ e => e)
    rintro ⟨⟨⟩, st'⟩ s'' ⟨rfl, hp1, hp2, hf⟩
    try dsimp only
    exact fin st' hp1 hp2 hf
end
end R1

set_option Elab.async false
set_option linter.all false
set_option maxRecDepth 100000
set_option maxHeartbeats 4000000
/-! CoreV: the keys are made; sorted(..) as a whole. -/
namespace R1
open PySem PySem.Spec PyProof.Rows L2 Evl

theorem RpAll.nth {I : Hp} {vs : List V} {ds : List PyData} (h : RpAll I vs ds) {j : Nat} {v : V} (hv : vs[j]? = some v) : ∃ d, ds[j]? = some d ∧ Rp I v d := by
  have hl := h.length
  obtain ⟨hj, _⟩ := List.getElem?_eq_some_iff.mp hv
  obtain ⟨u, a, b⟩ := h.get (List.getElem?_eq_getElem (by omega : j < ds.length))
  rw [hv] at a
  cases a
  exact ⟨_, List.getElem?_eq_getElem (by omega), b⟩
theorem vals_nth : ∀ {xs : List V} {its : List Value}, Vals xs its → ∀ {j : Nat} {v : Value}, its[j]? = some v → ∃ x, xs[j]? = some x ∧ RelV x v
  | _, _, .nil, j, v, h => by simp at h
  | _, _, .cons a b, 0, v, h => by simp at h; subst h; exact ⟨_, rfl, a⟩
  | _, _, .cons a b, j + 1, v, h => vals_nth b (j := j) (by simpa using h)
theorem back_eq {I : Hp} {x : V} {v : Value} {p : List Int} (r : Rp I x (pwD p)) (rv : RelV x v) : Rp I (backV v) (pwD p) ∧ ∃ a, v = .ref a := by
  cases r with
  | tup ha hr => cases rv; exact ⟨.tup ha hr, _, rfl⟩
theorem prd_all {h : Heap} {I : Hp} : ∀ {ks xs : List V} {kv its : List Value} {ps : List (List Int)}, (∀ (x : V) (v : Value) (k : Rk), Rp I x (rkD k) → RelV x v → IsRk h v k) → Vals ks kv → RpAll I ks (ps.map fun p => rkD (rkP p)) → Vals xs its → RpAll I xs (ps.map pwD) → PrdAll h I (kv.zip its) ps
  | _, _, _, _, [], _, .nil, .nil, .nil, .nil => .nil
  | _, _, _, _, p :: ps, hk, .cons a as, .cons b bs, .cons c cs, .cons d ds => by
    obtain ⟨e, f⟩ := back_eq d c
    exact .cons ⟨hk _ _ _ b a, e, f⟩ (prd_all hk as bs cs ds)
theorem vals_snoc {xs : List V} {us : List Value} {x : V} {u : Value} (a : Vals xs us) (b : RelV x u) : Vals (xs ++ [x]) (us ++ [u]) := a.append (.cons b .nil)

section
variable {X : Cx} {pins : List (Addr × Obj)} {s : Shared} {σ : L2.St} {H : Hp} {I : Hp} {f : Addr} {fd : FuncData} {ps : List Str} {k : Nat}
theorem nw_mut {I H I' H' : Hp} {p : Addr} {o : HO} (n : Nw I H I' H') (h : H p = none) (hi : I' p = none) : Nw I H I' (upd H' p o) := ⟨n.i, ex_mut n.j hi, ex_mut n.h h, n.k⟩
theorem keys_rest {H0 : Hp} {its : List Value} {xs : List V} {rs : List (List Int)} {a kS : Addr} {e1 : Nat} {P : PySem.Fin → Shared → Prop} (hu : X.A.units + 70 < cLine) (F : FnOk X.prog X.w X.K X.mg X.base CX0 k f fd ps (spP RkR)) (hr : Room (k + 2) X.A) (hb : Binds X.K fd ps [])
    (i : Inv X pins σ H s) (hx : Nw I H0 I H) (h0a : H0 a = none) (h0k : H0 kS = none) (hHa : H a = some (.ext fun h => h.get? a = some (seqObj "list" #[] e1))) (hIa : I a = none) (hHk : H kS = some (.lst [])) (hIk : I kS = none) (hne : kS ≠ a)
    (rv : Vals xs its) (rx : RpAll I xs (rs.map pwD)) (hsz : its.length ≤ sizeLine)
    (h : ∀ (s' : Shared) (out : List V) (I' H' : Hp), Nw I H0 I' H' → RpAll I' out ((srtP rs).map pwD) → I' a = none → I' kS = none → Inv X pins σ (upd (upd H' kS (.lst [])) a (.lst out)) s' → P (.done (.ret .none)) s') :
    wpAny (model X.prog X.w) X.A.in1.in1 (ksk_rest a (.ref f) true its.toArray e1 (.ref kS)) P (fun _ _ => False) s := by
  have hlx : xs.length = rs.length := by rw [rx.length, List.length_map]
  have hli : its.length = rs.length := by rw [← rv.length, hlx]
  unfold ksk_rest
  refine wpAny_bind (wpAny_rule ?_)
  first
    | rw [List.forIn_toArray]
    | (rw [← Array.forIn_toList]; simp only [List.toList_toArray])
    | rw [← Array.forIn_toList]
  refine wpAny_bind (ksk_fold (fun j s' => ∃ (I' H' : Hp) (ks : List V), Inv X pins σ H' s' ∧ Nw I H0 I' H' ∧ RpAll I' ks ((rs.take j).map fun p => rkD (rkP p)) ∧ H' kS = some (.lst ks) ∧ H' a = some (.ext fun h => h.get? a = some (seqObj "list" #[] e1)) ∧ I' a = none ∧ I' kS = none) its 0 s
    ⟨I, H, [], i, hx, .nil, hHk, hHa, hIa, hIk⟩ ?step ?done)
  case step =>
    rintro j x s' hj ⟨I1, H1, ks, i1, n1, r1, e1k, e1a, q1, q2⟩
    simp only [Nat.zero_add] at r1 ⊢
    obtain ⟨y, hy, ry⟩ := vals_nth rv hj
    obtain ⟨d, hd, rd⟩ := rx.nth hy
    obtain ⟨p, hp, rfl⟩ : ∃ p, rs[j]? = some p ∧ pwD p = d := by
      rw [List.getElem?_map] at hd
      cases q : rs[j]? with
      | none => rw [q] at hd; simp at hd
      | some p => rw [q] at hd; simp at hd; exact ⟨p, rfl, hd⟩
    have hjl : j < its.length := (List.getElem?_eq_some_iff.mp hj).1
    refine wpAny_bind (wpAny_attempt (wpAny_mono (key_run (C := fun _ _ => False) F hr hb i1 ry n1.j (rd.up n1.i) ⟨p, rfl, rfl⟩) (fun u s'' he => ?_) fun _ _ z => z.elim))
    obtain ⟨v, H2, i2, rv2, I2, n2, r2⟩ := he
    try dsimp only
    obtain ⟨k1, k2⟩ := n2.keep e1k q2
    obtain ⟨k3, k4⟩ := n2.keep e1a q1
    obtain ⟨hz, kit, kn, rk, hob⟩ := i2.hok kS _ k1
    have hkl : ks.length = j := by
      rw [r1.length, List.length_map, List.length_take]
      omega
    have hkit : kit.length = j := by rw [← rk.length, hkl]
    have hz2 := hsz
    rw [sizeLine_eq] at hz2
    refine wpAny_bind (listUpdate_at hob rfl ?_ (by rw [List.size_toArray, sizeLine_eq]; omega) (by rw [Array.size_push, List.size_toArray, sizeLine_eq]; omega))
    have hlen : (ks ++ [v]).length ≤ sizeLine := by rw [List.length_append, List.length_singleton, sizeLine_eq]; omega
    obtain ⟨c2, hc2⟩ : ∃ c2, (s''.heap.update kS (Obj.mapSeq (·.push u))).get? kS = some (seqObj "list" (kit.toArray.push u) c2) := ⟨_, get?_update_seq hob (·.push u)⟩
    rw [List.push_toArray] at hc2
    have i3 : Inv X pins σ (upd H2 kS (.lst (ks ++ [v]))) { s'' with heap := s''.heap.update kS (Obj.mapSeq (·.push u)), toks := s''.toks } :=
      i2.write (x := kS) (e := kS) (by rw [k1]; trivial) (.inl rfl) (fun b u hb z => (Heap.get?_update_other _ _ (Ne.symm hb)).trans z) ⟨_, hc2⟩ ⟨hlen, kit ++ [u], _, vals_snoc rk rv2, hc2⟩
    refine wpAny_pure ⟨rfl, I2, _, ks ++ [v], i3, nw_mut (n1.trans n2) h0k k2, ?_, upd_same, ?_, k4, k2⟩
    · rw [List.take_add_one, hp]
      simp only [Option.toList_some, List.map_append, List.map_cons, List.map_nil]
      exact (r1.up n2.i).append (.cons r2 .nil)
    · rw [upd_ne hne.symm]
      exact k3
  case done =>
    rintro s' ⟨I1, H1, ks, i1, n1, r1, e1k, e1a, q1, q2⟩
    rw [Nat.zero_add, hli, List.take_length] at r1
    obtain ⟨hz, kit, kn, rk, hob⟩ := i1.hok kS _ e1k
    obtain ⟨ha, _⟩ := i1.hok a _ e1a
    refine wpAny_bind (listItems_at hob rfl ?_)
    refine keys_end (I := I1) (ys := []) (ps := rs) (keys := kit.toArray) (n := kn) hu i1 ha (by rw [e1a]; trivial) e1k hob hne hsz ?_ ?_ fun s3 out ro i3 => h s3 out I1 H1 n1 ro q1 q2 i3
    · rw [List.size_toArray, ← rk.length, r1.length, List.length_map, hli]
    · rw [ksk_zip]
      exact prd_all (fun x v k r rv => Rp.isRk i1 n1.j r rv) rk r1 rv (rx.up n1.i)

/-- sorted(rows, key=rank_of, reverse=True) -/
def rSortKey (K : PySem.W.Frag) (f : Addr) : List V → List V → Hp → VK → Prop := fun vs zs H Q => ∃ (a : Addr) (xs : List V) (I : Hp) (rs : List (List Int)), vs = [V.ref a] ∧ zs = [V.ref f, .bl true] ∧ SqL K H a xs ∧ Ex I H ∧ RpAll I xs (rs.map pwD) ∧
  ∀ (v : V) (I' H' : Hp), Nw I H I' H' → Rp I' v (.list ((srtP rs).map pwD)) → Q v H'
theorem cr_sortKey (hu : X.A.units + 70 < cLine) (F : FnOk X.prog X.w X.K X.mg X.base CX0 k f fd ps (spP RkR)) (hr : Room (k + 2) X.A) (hb : Binds X.K fd ps []) : CallRK X (.builtin "sorted") [Str.ofString "key", Str.ofString "reverse"] (rSortKey X.K f) := by
  intro pins s σ H vs zs us ws Q i r rz h
  obtain ⟨l, xs, I0, rs, rfl, rfl, hs, hx, hr', q⟩ := h
  obtain rfl := Vals.ref1 r
  obtain ⟨w1, w2, rfl, e1, e2⟩ := vals2 rz
  cases e1
  obtain rfl : w2 = Value.bool true := e2
  obtain ⟨its, rv, hl, hz⟩ := i.list hs
  have hzi : its.length ≤ sizeLine := by rw [← rv.length]; exact hz
  have ha1 := PyProof.Rows.ksk_s2 (.ref l) (.ref f) (.bool true)
  refine call_function_entry_kw kind_sorted plain_sorted entry_sorted ha1 ?_
  unfold Builtin.«sorted»
  refine wpAny_bind (m := checkCount "sorted" 1 1 _) (wpAny_pure ?_)
  refine wpAny_bind (collect_list hl.isList ?_ hzi)
  refine wpAny_bind (wpAny_newList ?_ hzi)
  have hsz : ((s.heap.push (seqObj "list" #[] 0)).update s.heap.objs.size (Obj.mapSeq (· ++ its.toArray))).objs.size = s.heap.objs.size + 1 := by
    rw [Heap.size_update, size_push']
  have hoL : (((s.heap.push (seqObj "list" #[] 0)).update s.heap.objs.size (Obj.mapSeq (· ++ its.toArray))).push (seqObj "list" its.toArray 0)).get? (s.heap.objs.size + 1) = some (seqObj "list" its.toArray 0) := by
    rw [← hsz]; exact Heap.get?_push_size _ rfl
  have keep : ∀ b o, s.heap.get? b = some o → b ≠ s.heap.objs.size + 1 ∧ (((s.heap.push (seqObj "list" #[] 0)).update s.heap.objs.size (Obj.mapSeq (· ++ its.toArray))).push (seqObj "list" its.toArray 0)).get? b = some o := fun b o q => by
    have hlt : b < s.heap.objs.size := Heap.lt_size q
    refine ⟨Nat.ne_of_lt (Nat.lt_succ_of_lt hlt), Heap.get?_push_of_some _ ?_⟩
    rw [Heap.get?_update_ne _ _ _ _ (Nat.ne_of_lt hlt)]
    exact Heap.get?_push_of_some _ q
  show wpAny _ _ _ _ _ { s with heap := ((s.heap.push (seqObj "list" #[] 0)).update s.heap.objs.size (Obj.mapSeq (· ++ its.toArray))).push (seqObj "list" its.toArray 0) }
  rw [hsz]
  generalize hg : ((s.heap.push (seqObj "list" #[] 0)).update s.heap.objs.size (Obj.mapSeq (· ++ its.toArray))).push (seqObj "list" its.toArray 0) = h1 at hoL keep ⊢
  have hs1 : h1.objs.size = s.heap.objs.size + 2 := by rw [← hg, size_push', hsz]
  clear hg hsz
  generalize ha : s.heap.objs.size + 1 = a at hoL keep ⊢
  refine wpAny_bind (wpAny_holding (wpAny_call_entry_kw slot_list_sort ⟨_, hoL, rfl⟩ entry_list_sort ?body (PyProof.Rows.ksk_l2 _ _ _)))
  case body =>
    show wpAny (model X.prog X.w) X.A.in1.in1 (Builtin.«list.sort» ⟨[.ref a], [(Str.ofString "key", .ref f), (Str.ofString "reverse", .bool true)]⟩) _ _ _
    rw [ksk_t2]
    obtain ⟨e1, ho1⟩ : ∃ e1, (h1.update a (Obj.mapSeq fun _ => (#[] : Array Value))).get? a = some (seqObj "list" #[] e1) := ⟨_, get?_update_seq hoL fun _ => #[]⟩
    have hkS : ((h1.update a (Obj.mapSeq fun _ => (#[] : Array Value))).push (seqObj "tuple" its.toArray 0)).objs.size = a + 2 := by rw [size_push', Heap.size_update, hs1, ← ha]
    unfold ksk_tree
    refine wpAny_bind (listItems_at hoL rfl ?_)
    refine wpAny_bind (listUpdate_at hoL rfl ?_ (by rw [List.size_toArray]; exact hzi) (Nat.zero_le _))
    refine wpAny_bind (seqEpoch_at ho1 rfl ?_)
    refine wpAny_bind (wpAny_newTuple ?_ hzi)
    refine wpAny_bind (wpAny_newList ?_ (Nat.zero_le _))
    refine wpAny_holding ?_
    have hHa : H a = none := i.hok.fresh (by omega)
    have i1 : Inv X pins σ (upd H a (.ext fun h => h.get? a = some (seqObj "list" #[] e1))) { s with heap := h1.update a (Obj.mapSeq fun _ => (#[] : Array Value)), toks := s.toks } :=
      i.laid (fun b u z => (Heap.get?_update_other _ _ (Ne.symm (keep b u z).1)).trans (keep b u z).2) (by omega) ⟨ho1, ⟨_, ho1⟩, fun h1 h2 z1 z2 => z2 _ z1⟩
    have hHk : (upd H a (.ext fun h => h.get? a = some (seqObj "list" #[] e1))) (a + 2) = none := by
      rw [upd_ne (show a + 2 ≠ a by omega)]
      exact i.hok.fresh (by omega)
    have hHk0 : H (a + 2) = none := i.hok.fresh (by omega)
    have ekS : (((h1.update a (Obj.mapSeq fun _ => (#[] : Array Value))).push (seqObj "tuple" its.toArray 0)).push (seqObj "list" #[] 0)).get? (a + 2) = some (seqObj "list" #[] 0) := by
      rw [← hkS]; exact Heap.get?_push_size _ rfl
    have i2 := i1.laid (a := a + 2) (o := .lst []) (h' := ((h1.update a (Obj.mapSeq fun _ => (#[] : Array Value))).push (seqObj "tuple" its.toArray 0)).push (seqObj "list" #[] 0)) (t' := s.toks) (fun b u z => Heap.get?_push_of_some _ (Heap.get?_push_of_some _ z)) (by
      show (h1.update a (Obj.mapSeq fun _ => (#[] : Array Value))).objs.size ≤ a + 2
      rw [Heap.size_update, hs1]
      omega) ⟨Nat.zero_le _, [], 0, .nil, ekS⟩
    have hIa : I0 a = none := fresh_back hx hHa
    have hIk : I0 (a + 2) = none := fresh_back hx hHk0
    have n0 : Nw I0 H I0 (upd (upd H a (.ext fun h => h.get? a = some (seqObj "list" #[] e1))) (a + 2) (.lst [])) := nw_mut (nw_mut (Nw.refl hx) hHa hIa) hHk0 hIk
    show wpAny _ _ (ksk_rest a (.ref f) true its.toArray e1 (.ref _)) _ _ _
    have ekk : (Value.ref ((h1.update a (Obj.mapSeq fun _ => (#[] : Array Value))).push (seqObj "tuple" its.toArray 0)).objs.size) = .ref (a + 2) := by rw [hkS]
    rw [ekk]
    refine wpAny_mono (keys_rest (I := I0) (H0 := H) (kS := a + 2) hu F hr hb i2 n0 hHa hHk0 ?_ hIa upd_same hIk (show a + 2 ≠ a by omega) rv hr' hzi (P := fun r s' => ∃ (out : List V) (I' H' : Hp), r = .done (.ret .none) ∧ Nw I0 H I' H' ∧ RpAll I' out ((srtP rs).map pwD) ∧ I' a = none ∧ I' (a + 2) = none ∧ Inv X pins σ (upd (upd H' (a + 2) (.lst [])) a (.lst out)) s')
      fun s' out I' H' n ro za zk i3 => ⟨out, I', H', rfl, n, ro, za, zk, i3⟩) ?_ fun _ _ z => z.elim
    · rw [upd_ne (show a ≠ a + 2 by omega)]
      exact upd_same
    · rintro r s' ⟨out, I', H', rfl, n, ro, za, zk, i3⟩
      refine ⟨_, rfl, ?_⟩
      refine wpAny_pure ⟨_, rfl, ?_⟩
      have n1 : Nw I0 H I' (upd (upd H' (a + 2) (.lst [])) a (.lst out)) := nw_mut (nw_mut n hHk0 zk) hHa za
      have n2 : Nw I0 H (upd I' a (.lst out)) (upd (upd H' (a + 2) (.lst [])) a (.lst out)) := by
        refine ⟨n.i.trans (Ex.new za), fun b u z => ?_, n1.h, fun b z1 z2 => ?_⟩
        · by_cases hb : b = a
          · subst hb; rw [upd_same] at z ⊢; exact z
          · rw [upd_ne hb] at z ⊢; exact (ex_mut n.j zk) b u z
        · have hb : b ≠ a := z2.ne hHa
          rw [upd_ne hb]
          exact n.k b z1 z2
      exact ⟨.ref a, _, i3, rfl, q _ _ _ n2 (.lst upd_same (ro.up (Ex.new za)))⟩
end
section
variable {X : Cx} {ρ : Ro} {e : Expr} {rs : List (List Int)} {pos p q kp kp2 pk : Pos} {j k : Nat} {ps : List Str} {x : Str}
/-- sorted(xs, key=rank_of, reverse=True) -/
theorem e_sortKey (F : Fn X.prog X.w X.K X.mg X.base x k ps (spP RkR)) (hr : Room (k + 2) X.A) (hgx : Gl X x) (hg : Gl X "sorted") (hm : X.mg "sorted" = none) (ha : E X ρ e (.list (rs.map pwD)))
    (hdb : (x == ("__debug__" : Str)) = false := by decide) (hs : starEach [e] X.env = [(false, eval e X.env)] := by rfl) :
    E X ρ (.Call (.Name "sorted" p) [e] [⟨some "key", .Name x pk, kp⟩, ⟨some "reverse", .Constant (.bool true) j q, kp2⟩] pos) (.list ((srtP rs).map pwD)) := by
  obtain ⟨f, fd, qn, st, hmf, hF, hb, ok⟩ := F.ex
  have hu : X.A.units + 70 < cLine := by have := hr.un; omega
  exact e_of (pe_callBK (ks := [Str.ofString "key", Str.ofString "reverse"]) (cr_sortKey hu ok hr hb) hg hm (by decide +kernel) (pa1 hs) (pk_cons (pe_glob (v := .ref f) hgx hmf rfl hdb) (pk_cons pe_bl pk_nil)) (by decide) (by decide) (by rw [hs]; rfl) (by rw [hs]; rfl) (by rfl) (by rfl) (by rfl)) fun I σ H hx vs Q k =>
    ha I σ H hx vs _ fun v I1 H1 n1 r1 => by
      cases r1 with
      | lst ea ra =>
        exact ⟨_, _, I1, rs, rfl, rfl, SqL.of (n1.j _ _ ea), n1.j, ra, fun v I2 H2 n2 r2 => k _ _ _ (n1.trans n2) r2⟩
end
end R1

set_option Elab.async false
set_option linter.all false
set_option maxRecDepth 100000
set_option maxHeartbeats 4000000
/-! CoreW: frames: what stays (rows of data) and what changes (lists, dicts from rows of whole numbers, the state of draws). -/
namespace R1
open PySem PySem.Spec PyProof.Rows L2 Evl

/-! ### what may change -/
/-- the state of draws at a: a list of the cells, an index up to n, a rest -/
def penPhi (a c : Addr) (n : Nat) (h : Heap) : Prop := ∃ (at' rest : Int) (t u : Tok) (e : Nat), h.get? a = some { cls := .type "list", data := .seq #[.ref c, .int at' t, .int rest u] e } ∧ 0 ≤ at' ∧ at' ≤ n
inductive MD
  | lst (ds : List PyData)
  | dct (kvs : List (List Int × PyData))
  | pen (n : Nat)
  /-- the list of the state of draws itself -/
  | opn (ds : List PyData)
def MD.isPen : MD → Bool
  | .pen _ => true
  | .opn _ => true
  | _ => false
def keyP (p : List Int) : List L2.Key := p.map Sum.inl
theorem keyP_kV (p : List Int) : (keyP p).map kV = p.map V.int := by
  unfold keyP
  rw [List.map_map]
  rfl
theorem keyP_inj {p q : List Int} (h : keyP p = keyP q) : p = q := by
  have e : (keyP p).filterMap (fun z => match z with | .inl i => some i | .inr _ => none) = (keyP q).filterMap (fun z => match z with | .inl i => some i | .inr _ => none) := by rw [h]
  have k : ∀ l : List Int, (keyP l).filterMap (fun z => match z with | .inl i => some i | .inr _ => none) = l := fun l => by
    unfold keyP
    rw [List.filterMap_map]
    exact List.filterMap_some
  rw [k, k] at e
  exact e
inductive RpKv (I : Hp) : List (List L2.Key × V) → List (List Int × PyData) → Prop
  | nil : RpKv I [] []
  | cons {p v d ws kvs} : Rp I v d → RpKv I ws kvs → RpKv I ((keyP p, v) :: ws) ((p, d) :: kvs)
def MdAt (I H : Hp) (a : Addr) : MD → Prop
  | .lst ds => ∃ xs, H a = some (.lst xs) ∧ RpAll I xs ds
  | .dct kvs => ∃ ws, H a = some (.dT ws) ∧ RpKv I ws kvs
  | .pen n => ∃ (c : Addr) (cs : List Int), H a = some (.ext (penPhi a c n)) ∧ I c = some (.lst (cs.map V.int))
  | .opn ds => ∃ xs, H a = some (.lst xs) ∧ RpAll I xs ds
theorem RpKv.up {I J : Hp} (e : Ex I J) : ∀ {ws kvs}, RpKv I ws kvs → RpKv J ws kvs
  | _, _, .nil => .nil
  | _, _, .cons h t => .cons (h.up e) (t.up e)
theorem RpKv.length {I : Hp} : ∀ {ws kvs}, RpKv I ws kvs → ws.length = kvs.length
  | _, _, .nil => rfl
  | _, _, .cons h t => congrArg (· + 1) t.length
/-- what a dict of data holds -/
def kvGet (kvs : List (List Int × PyData)) (p : List Int) : Option PyData := (kvs.find? fun kv => decide (kv.1 = p)).map (·.2)
def kvPut (kvs : List (List Int × PyData)) (p : List Int) (d : PyData) : List (List Int × PyData) :=
  if (kvs.any fun kv => decide (kv.1 = p)) = true then kvs.map (fun kv => if kv.1 = p then (kv.1, d) else kv) else kvs ++ [(p, d)]
theorem kvGet_nil {p : List Int} : kvGet [] p = none := rfl
theorem kvGet_pos {q : List Int × PyData} {r : List (List Int × PyData)} {p : List Int} (e : q.1 = p) : kvGet (q :: r) p = some q.2 := by simp [kvGet, List.find?_cons, e]
theorem kvGet_neg {q : List Int × PyData} {r : List (List Int × PyData)} {p : List Int} (e : ¬ q.1 = p) : kvGet (q :: r) p = kvGet r p := by simp [kvGet, List.find?_cons, e]
theorem keyP_dec (p q : List Int) : decide (keyP p = keyP q) = decide (p = q) := by
  by_cases e : p = q
  · subst e; simp
  · rw [decide_eq_false e, decide_eq_false fun z => e (keyP_inj z)]
theorem RpKv.get {I : Hp} {p : List Int} : ∀ {ws kvs}, RpKv I ws kvs → (kvGet kvs p = none → valV ws (keyP p) = none) ∧ ∀ d, kvGet kvs p = some d → ∃ v, valV ws (keyP p) = some v ∧ Rp I v d
  | _, _, .nil => ⟨fun _ => rfl, fun d h => by cases h⟩
  | _, _, .cons (p := q) (v := v) (d := d) (ws := ws) (kvs := kvs) h t => by
    by_cases e : q = p
    · subst e
      refine ⟨fun z => ?_, fun d' z => ?_⟩
      · rw [kvGet_pos (q := (q, d)) rfl] at z
        cases z
      · rw [kvGet_pos (q := (q, d)) rfl] at z
        cases z
        exact ⟨v, valV_pos (p := (keyP q, v)) rfl, h⟩
    · have e' : ¬ (keyP q = keyP p) := fun z => e (keyP_inj z)
      rw [kvGet_neg (q := (q, d)) e, valV_neg (p := (keyP q, v)) e']
      exact t.get
theorem RpKv.any {I : Hp} {p : List Int} : ∀ {ws kvs}, RpKv I ws kvs → (ws.any fun kv => decide (kv.1 = keyP p)) = (kvs.any fun kv => decide (kv.1 = p))
  | _, _, .nil => rfl
  | _, _, .cons (p := q) (v := v) h t => by
    rw [List.any_cons, List.any_cons, t.any]
    show (decide (keyP q = keyP p) || _) = _
    rw [keyP_dec]
theorem RpKv.map {I : Hp} {p : List Int} {v : V} {d : PyData} (r : Rp I v d) : ∀ {ws kvs}, RpKv I ws kvs → RpKv I (ws.map fun kv => if kv.1 = keyP p then (kv.1, v) else kv) (kvs.map fun kv => if kv.1 = p then (kv.1, d) else kv)
  | _, _, .nil => .nil
  | _, _, .cons (p := q) (v := u) h t => by
    rw [List.map_cons, List.map_cons]
    by_cases e : q = p
    · subst e
      rw [if_pos rfl, if_pos rfl]
      exact .cons r (t.map r)
    · have e' : ¬ (keyP q = keyP p) := fun z => e (keyP_inj z)
      rw [if_neg e, if_neg e']
      exact .cons h (t.map r)
theorem RpKv.snoc {I : Hp} {p : List Int} {v : V} {d : PyData} (r : Rp I v d) : ∀ {ws kvs}, RpKv I ws kvs → RpKv I (ws ++ [(keyP p, v)]) (kvs ++ [(p, d)])
  | _, _, .nil => .cons r .nil
  | _, _, .cons h t => .cons h (t.snoc r)
theorem RpKv.put {I : Hp} {p : List Int} {v : V} {d : PyData} {ws kvs} (t : RpKv I ws kvs) (r : Rp I v d) : RpKv I (putK ws (keyP p) v) (kvPut kvs p d) := by
  unfold putK kvPut
  rw [t.any]
  split
  · exact t.map r
  · exact t.snoc r
theorem kvGet_any (p : List Int) : ∀ kvs : List (List Int × PyData), (kvs.any fun kv => decide (kv.1 = p)) = (kvGet kvs p).isSome
  | [] => rfl
  | q :: r => by
    rw [List.any_cons]
    by_cases e : q.1 = p
    · simp only [kvGet_pos e, decide_eq_true e, Bool.true_or, Option.isSome_some]
    · rw [kvGet_neg e, decide_eq_false e, Bool.false_or]; exact kvGet_any p r
theorem kvGet_map (p q : List Int) (y : PyData) : ∀ kvs : List (List Int × PyData), kvGet (kvs.map fun kv => if kv.1 = p then (kv.1, y) else kv) q = (kvGet kvs q).map fun x => if q = p then y else x
  | [] => rfl
  | z :: r => by
    have ih := kvGet_map p q y r
    rw [List.map_cons]
    by_cases h : z.1 = p
    · rw [if_pos h]
      by_cases e : z.1 = q
      · rw [kvGet_pos (q := (z.1, y)) e, kvGet_pos e, Option.map_some, if_pos (e.symm.trans h)]
      · rw [kvGet_neg (q := (z.1, y)) e, kvGet_neg e, ih]
    · rw [if_neg h]
      by_cases e : z.1 = q
      · rw [kvGet_pos (q := z) e, kvGet_pos e, Option.map_some, if_neg (fun w => h (e.trans w))]
      · rw [kvGet_neg (q := z) e, kvGet_neg e, ih]
theorem kvGet_snoc (p q : List Int) (y : PyData) : ∀ kvs : List (List Int × PyData), kvGet kvs p = none → kvGet (kvs ++ [(p, y)]) q = if q = p then some y else kvGet kvs q
  | [], _ => by
    by_cases e : p = q
    · rw [if_pos e.symm]; exact kvGet_pos (q := (p, y)) e
    · rw [if_neg (fun z => e z.symm)]; exact kvGet_neg (q := (p, y)) e
  | z :: r, hn => by
    rw [List.cons_append]
    have hk : ¬ z.1 = p := fun w => by rw [kvGet_pos w] at hn; cases hn
    rw [kvGet_neg hk] at hn
    have ih := kvGet_snoc p q y r hn
    by_cases e : z.1 = q
    · rw [kvGet_pos e, kvGet_pos e, if_neg (fun w => hk (e.trans w))]
    · rw [kvGet_neg e, kvGet_neg e, ih]
theorem kvGet_put (p q : List Int) (y : PyData) (kvs : List (List Int × PyData)) : kvGet (kvPut kvs p y) q = if q = p then some y else kvGet kvs q := by
  unfold kvPut
  rw [kvGet_any]
  cases h : kvGet kvs p with
  | none =>
    rw [if_neg (by simp)]
    exact kvGet_snoc p q y kvs h
  | some d =>
    rw [if_pos (by rfl), kvGet_map]
    by_cases e : q = p
    · subst e
      rw [h, Option.map_some, if_pos rfl, if_pos rfl]
    · rw [if_neg e]
      cases kvGet kvs q with
      | none => rfl
      | some x => rw [Option.map_some, if_neg e]
theorem kvPut_len (p : List Int) (y : PyData) (kvs : List (List Int × PyData)) : (kvPut kvs p y).length ≤ kvs.length + 1 := by
  unfold kvPut
  split
  · rw [List.length_map]; omega
  · rw [List.length_append, List.length_singleton]; omega
theorem kvPut_keys (p : List Int) (y : PyData) (kvs : List (List Int × PyData)) : (kvPut kvs p y).map (·.1) = if (kvGet kvs p).isSome then kvs.map (·.1) else kvs.map (·.1) ++ [p] := by
  unfold kvPut
  rw [kvGet_any]
  cases kvGet kvs p with
  | none => rw [if_neg (by simp), if_neg (by simp), List.map_append]; rfl
  | some d =>
    rw [if_pos (by rfl), if_pos (by rfl), List.map_map]
    refine List.map_congr_left fun z _ => ?_
    show (if z.1 = p then (z.1, y) else z).1 = z.1
    split <;> rfl
theorem kvGet_mem {p : List Int} : ∀ {kvs : List (List Int × PyData)}, (kvGet kvs p).isSome = true ↔ p ∈ kvs.map (·.1)
  | [] => by simp [kvGet]
  | q :: r => by
    by_cases e : q.1 = p
    · rw [kvGet_pos e]
      simp [e]
    · rw [kvGet_neg e, kvGet_mem (kvs := r), List.map_cons, List.mem_cons]
      constructor
      · intro z; exact .inr z
      · intro z; exact z.resolve_left fun w => e w.symm
theorem kvPut_nodup {p : List Int} {y : PyData} {kvs : List (List Int × PyData)} (h : (kvs.map (·.1)).Nodup) : ((kvPut kvs p y).map (·.1)).Nodup := by
  rw [kvPut_keys]
  cases e : (kvGet kvs p).isSome with
  | true => rw [if_pos rfl]; exact h
  | false =>
    rw [if_neg (by simp)]
    refine List.nodup_append.mpr ⟨h, List.Pairwise.cons (fun _ z => nomatch z) List.Pairwise.nil, fun a ha b hb => ?_⟩
    rw [List.mem_singleton.mp hb]
    intro z
    subst z
    rw [kvGet_mem.mpr ha] at e
    cases e

/-! ### from one point to another, what S may change -/
structure Nx (S : Addr → Prop) (I H I' H' : Hp) : Prop where
  i : Ex I I'
  j : Ex I' H'
  h : ∀ a o, ¬ S a → H a = some o → H' a = some o
  s : ∀ a, H a ≠ none → H' a ≠ none
  t : ∀ a, Ob H a → Ob H' a
  k : ∀ a, I a = none → Ob H a → I' a = none
theorem Nw.nx {S : Addr → Prop} {I H I' H' : Hp} (n : Nw I H I' H') : Nx S I H I' H' := ⟨n.i, n.j, fun a o _ e => n.h a o e, fun a z => ex_some n.h z, fun a z => z.up n.h, n.k⟩
theorem Nx.refl {S : Addr → Prop} {I H : Hp} (e : Ex I H) : Nx S I H I H := (Nw.refl e).nx
theorem Nx.trans {S : Addr → Prop} {I H I1 H1 I2 H2 : Hp} (a : Nx S I H I1 H1) (b : Nx S I1 H1 I2 H2) : Nx S I H I2 H2 :=
  ⟨a.i.trans b.i, b.j, fun x o n e => b.h x o n (a.h x o n e), fun x z => b.s x (a.s x z), fun x z => b.t x (a.t x z), fun x e z => b.k x (a.k x e z) (a.t x z)⟩
theorem Nx.more {S S' : Addr → Prop} {I H I' H' : Hp} (a : Nx S I H I' H') (h : ∀ x, S x → S' x) : Nx S' I H I' H' := ⟨a.i, a.j, fun x o n e => a.h x o (fun z => n (h x z)) e, a.s, a.t, a.k⟩
/-- later knowledge as the start's -/
theorem Nx.rise {S : Addr → Prop} {I H I1 H1 : Hp} (a : Nx S I H I1 H1) : Nx S I1 H I1 H1 := ⟨Ex.refl _, a.j, a.h, a.s, a.t, fun _ e _ => e⟩
theorem Nx.sink {S : Addr → Prop} {I H I1 H1 I2 H2 : Hp} (a : Nx S I H I1 H1) (b : Nx S I1 H I2 H2) : Nx S I H I2 H2 := ⟨a.i.trans b.i, b.j, b.h, b.s, b.t, fun x e z => b.k x (a.k x e z) z⟩

/-! ### frames -/
abbrev Mo := Nat → Option MD
def mu (μ : Mo) (i : Nat) (m : Option MD) : Mo := fun j => if j = i then m else μ j
theorem mu_same {μ : Mo} {i : Nat} {m : Option MD} : mu μ i m i = m := if_pos rfl
theorem mu_ne {μ : Mo} {i j : Nat} {m : Option MD} (h : j ≠ i) : mu μ i m j = μ j := if_neg h
structure Fr (S : Addr → Prop) (I0 H0 I H : Hp) (σ : L2.St) (ρ : Ro) (μ : Mo) (α : Nat → Addr) : Prop where
  x : Nx S I0 H0 I H
  v : VS I σ ρ
  m : ∀ i md, μ i = some md → σ[i]? = some (some (.ref (α i))) ∧ MdAt I H (α i) md ∧ I (α i) = none ∧ (md.isPen = false → H0 (α i) = none) ∧ (md.isPen = true → S (α i))
  inj : ∀ i j, μ i ≠ none → μ j ≠ none → α i = α j → i = j
section
variable {S : Addr → Prop} {I0 H0 I H I1 H1 : Hp} {σ : L2.St} {ρ ρ' : Ro} {μ : Mo} {α : Nat → Addr} {i : Nat} {md md' : MD} {d : PyData} {v : V}
theorem Fr.e (F : Fr S I0 H0 I H σ ρ μ α) : Ex I H := F.x.j
/-- a thing that may change is kept by what touches nothing that is there -/
theorem MdAt.keep {a : Addr} (h : MdAt I H a md) (hi : I a = none) (n : Nw I H I1 H1) : MdAt I1 H1 a md ∧ I1 a = none := by
  cases md with
  | lst ds =>
    obtain ⟨xs, e, r⟩ := h
    obtain ⟨p, q⟩ := n.keep e hi
    exact ⟨⟨xs, p, r.up n.i⟩, q⟩
  | dct kvs =>
    obtain ⟨ws, e, r⟩ := h
    obtain ⟨p, q⟩ := n.keep e hi
    exact ⟨⟨ws, p, r.up n.i⟩, q⟩
  | pen k =>
    obtain ⟨c, cs, e, r⟩ := h
    obtain ⟨p, q⟩ := n.keep e hi
    exact ⟨⟨c, cs, p, n.i _ _ r⟩, q⟩
  | opn ds =>
    obtain ⟨xs, e, r⟩ := h
    obtain ⟨p, q⟩ := n.keep e hi
    exact ⟨⟨xs, p, r.up n.i⟩, q⟩
theorem MdAt.keepX {a : Addr} (h : MdAt I H a md) (hi : I a = none) (n : Nx S I H I1 H1) (ns : ¬ S a) : MdAt I1 H1 a md ∧ I1 a = none := by
  have hs : ∀ o, (∀ xs, o ≠ .tup xs) → H a = some o → H1 a = some o ∧ I1 a = none := fun o ho e => ⟨n.h a o ns e, n.k a hi ⟨o, e, ho⟩⟩
  cases md with
  | lst ds =>
    obtain ⟨xs, e, r⟩ := h
    exact ⟨⟨xs, (hs _ (by intro _ z; cases z) e).1, r.up n.i⟩, (hs _ (by intro _ z; cases z) e).2⟩
  | dct kvs =>
    obtain ⟨ws, e, r⟩ := h
    exact ⟨⟨ws, (hs _ (by intro _ z; cases z) e).1, r.up n.i⟩, (hs _ (by intro _ z; cases z) e).2⟩
  | pen k =>
    obtain ⟨c, cs, e, r⟩ := h
    exact ⟨⟨c, cs, (hs _ (by intro _ z; cases z) e).1, n.i _ _ r⟩, (hs _ (by intro _ z; cases z) e).2⟩
  | opn ds =>
    obtain ⟨xs, e, r⟩ := h
    exact ⟨⟨xs, (hs _ (by intro _ z; cases z) e).1, r.up n.i⟩, (hs _ (by intro _ z; cases z) e).2⟩
theorem Fr.step (F : Fr S I0 H0 I H σ ρ μ α) (n : Nw I H I1 H1) : Fr S I0 H0 I1 H1 σ ρ μ α := by
  refine ⟨F.x.trans n.nx, F.v.up n.i, fun i md e => ?_, F.inj⟩
  obtain ⟨a, b, c, d, f⟩ := F.m i md e
  obtain ⟨p, q⟩ := b.keep c n
  exact ⟨a, p, q, d, f⟩
/-- less is told -/
theorem Fr.less {μ' : Mo} (F : Fr S I0 H0 I H σ ρ μ α) (hl : ρ'.length = ρ.length) (hw : ∀ (i : Nat) (d : PyData), ρ'[i]? = some (some d) → ρ[i]? = some (some d)) (hm : ∀ i md, μ' i = some md → μ i = some md) : Fr S I0 H0 I H σ ρ' μ' α := by
  refine ⟨F.x, F.v.less hl hw, fun i md e => F.m i md (hm i md e), fun i j a b => F.inj i j (fun z => ?_) fun z => ?_⟩
  · cases q : μ' i with
    | none => exact a q
    | some x => rw [hm i x q] at z; cases z
  · cases q : μ' j with
    | none => exact b q
    | some x => rw [hm j x q] at z; cases z
/-- a slot takes data -/
theorem Fr.set (F : Fr S I0 H0 I H σ ρ μ α) (r : Rp I v d) : Fr S I0 H0 I H (σ.set i (some v)) (ρ.set i (some d)) (mu μ i none) α := by
  refine ⟨F.x, F.v.set r, fun j md e => ?_, fun j k a b => F.inj j k (fun z => ?_) fun z => ?_⟩
  · have hj : j ≠ i := fun z => by rw [z, mu_same] at e; cases e
    rw [mu_ne hj] at e
    obtain ⟨a, b⟩ := F.m j md e
    exact ⟨by rw [List.getElem?_set_ne (Ne.symm hj)]; exact a, b⟩
  · have hj : j ≠ i := fun w => a (by rw [w, mu_same])
    rw [mu_ne hj] at a
    exact a z
  · have hj : k ≠ i := fun w => b (by rw [w, mu_same])
    rw [mu_ne hj] at b
    exact b z
/-- a slot takes a new thing that may change -/
theorem Fr.own {p : Addr} {o : HO} (F : Fr S I0 H0 I H σ ρ μ α) (hp : H p = none) (hm : MdAt I (upd H p o) p md) (hn : md.isPen = false) (hl : i < σ.length) :
    Fr S I0 H0 I (upd H p o) (σ.set i (some (.ref p))) (ρ.set i none) (mu μ i (some md)) (fun j => if j = i then p else α j) := by
  have F1 := F.step (Nw.own (o := o) F.e hp)
  have h0 : H0 p = none := by
    cases q : H0 p with
    | none => rfl
    | some u => exact absurd hp (F.x.s p (by rw [q]; exact fun z => nomatch z))
  have ne : ∀ j, μ j ≠ none → α j ≠ p := fun j hj z => by
    cases q : μ j with
    | none => exact hj q
    | some x =>
      obtain ⟨_, b, _⟩ := F.m j x q
      rw [z] at b
      cases x with
      | lst ds => obtain ⟨_, e, _⟩ := b; rw [hp] at e; cases e
      | dct kvs => obtain ⟨_, e, _⟩ := b; rw [hp] at e; cases e
      | pen k => obtain ⟨_, _, e, _⟩ := b; rw [hp] at e; cases e
      | opn ds => obtain ⟨_, e, _⟩ := b; rw [hp] at e; cases e
  refine ⟨F1.x, F1.v.forget i _, fun j x e => ?_, fun j k a b c => ?_⟩
  · by_cases hj : j = i
    · subst hj
      rw [mu_same] at e
      cases e
      show (σ.set j (some (.ref p)))[j]? = some (some (.ref (if j = j then p else α j))) ∧ _
      rw [if_pos rfl]
      exact ⟨List.getElem?_set_self hl, hm, fresh_back F.e hp, fun _ => h0, fun z => by rw [hn] at z; cases z⟩
    · rw [mu_ne hj] at e
      show (σ.set i (some (.ref p)))[j]? = some (some (.ref (if j = i then p else α j))) ∧ _
      rw [if_neg hj, List.getElem?_set_ne (Ne.symm hj)]
      exact F1.m j x e
  · have c : (if j = i then p else α j) = (if k = i then p else α k) := c
    by_cases hj : j = i
    · by_cases hk : k = i
      · rw [hj, hk]
      · rw [if_pos hj, if_neg hk] at c
        rw [mu_ne hk] at b
        exact absurd c.symm (ne k b)
    · rw [mu_ne hj] at a
      by_cases hk : k = i
      · rw [if_neg hj, if_pos hk] at c
        exact absurd c (ne j a)
      · rw [mu_ne hk] at b
        rw [if_neg hj, if_neg hk] at c
        exact F.inj j k a b c
/-- a thing changes -/
theorem Fr.put {o : HO} (F : Fr S I0 H0 I H σ ρ μ α) (hi : μ i = some md) (hm : MdAt I (upd H (α i) o) (α i) md') (hn : md.isPen = md'.isPen) : Fr S I0 H0 I (upd H (α i) o) σ ρ (mu μ i (some md')) α := by
  obtain ⟨a, b, c, d, f⟩ := F.m i md hi
  have nn : μ i ≠ none := by rw [hi]; exact fun z => nomatch z
  have ho : ∀ xs, o ≠ .tup xs := fun xs z => by
    subst z
    cases md' with
    | lst _ => obtain ⟨_, q, _⟩ := hm; rw [upd_same] at q; cases q
    | dct _ => obtain ⟨_, q, _⟩ := hm; rw [upd_same] at q; cases q
    | pen _ => obtain ⟨_, _, q, _⟩ := hm; rw [upd_same] at q; cases q
    | opn _ => obtain ⟨_, q, _⟩ := hm; rw [upd_same] at q; cases q
  refine ⟨⟨F.x.i, ex_mut F.e c, fun x u ns e => ?_, fun x z => ?_, fun x z => ?_, F.x.k⟩, F.v, fun j x e => ?_, fun j k p q r => F.inj j k (fun z => ?_) (fun z => ?_) r⟩
  · have hx : x ≠ α i := fun z => by
      subst z
      cases hp : md.isPen with
      | true => exact ns (f hp)
      | false => rw [d hp] at e; cases e
    rw [upd_ne hx]
    exact F.x.h x u ns e
  · by_cases hx : x = α i
    · rw [hx, upd_same]
      exact fun w => nomatch w
    · rw [upd_ne hx]
      exact F.x.s x z
  · by_cases hx : x = α i
    · rw [hx]
      exact ⟨o, upd_same, ho⟩
    · obtain ⟨u, q, t⟩ := F.x.t x z
      exact ⟨u, by rw [upd_ne hx]; exact q, t⟩
  · by_cases hj : j = i
    · subst hj
      rw [mu_same] at e
      cases e
      exact ⟨a, hm, c, fun z => d (hn.trans z), fun z => f (hn.trans z)⟩
    · rw [mu_ne hj] at e
      obtain ⟨p1, p2, p3, p4⟩ := F.m j x e
      have hne : α j ≠ α i := fun z => hj (F.inj j i (by rw [e]; exact fun z => nomatch z) nn z)
      refine ⟨p1, ?_, p3, p4⟩
      cases x with
      | lst ds => obtain ⟨xs, q, r⟩ := p2; exact ⟨xs, by rw [upd_ne hne]; exact q, r⟩
      | dct kvs => obtain ⟨xs, q, r⟩ := p2; exact ⟨xs, by rw [upd_ne hne]; exact q, r⟩
      | pen k => obtain ⟨x1, x2, q, r⟩ := p2; exact ⟨x1, x2, by rw [upd_ne hne]; exact q, r⟩
      | opn ds => obtain ⟨xs, q, r⟩ := p2; exact ⟨xs, by rw [upd_ne hne]; exact q, r⟩
  · by_cases hj : j = i
    · rw [hj] at z; exact nn z
    · rw [mu_ne hj] at p; exact p z
  · by_cases hj : k = i
    · rw [hj] at z; exact nn z
    · rw [mu_ne hj] at q; exact q z
/-- a call that draws -/
theorem Fr.drawn {n m : Nat} {pn : Nat} (F : Fr S I0 H0 I H σ ρ μ α) (hp : μ pn = some (.pen n)) (x : Nx (fun a => a = α pn) I H I1 H1) (hm : MdAt I1 H1 (α pn) (.pen m)) (hi : I1 (α pn) = none) : Fr S I0 H0 I1 H1 σ ρ (mu μ pn (some (.pen m))) α := by
  obtain ⟨a, b, c, d, f⟩ := F.m pn _ hp
  have nn : μ pn ≠ none := by rw [hp]; exact fun z => nomatch z
  refine ⟨F.x.trans (x.more fun y z => by rw [z]; exact f rfl), F.v.up x.i, fun j y e => ?_, fun j k p q r => F.inj j k (fun z => ?_) (fun z => ?_) r⟩
  · by_cases hj : j = pn
    · subst hj
      rw [mu_same] at e
      cases e
      exact ⟨a, hm, hi, d, f⟩
    · rw [mu_ne hj] at e
      obtain ⟨p1, p2, p3, p4⟩ := F.m j y e
      have hne : α j ≠ α pn := fun z => hj (F.inj j pn (by rw [e]; exact fun z => nomatch z) nn z)
      obtain ⟨q1, q2⟩ := p2.keepX p3 x hne
      exact ⟨p1, q1, q2, p4⟩
  · by_cases hj : j = pn
    · rw [hj] at z; exact nn z
    · rw [mu_ne hj] at p; exact p z
  · by_cases hj : k = pn
    · rw [hj] at z; exact nn z
    · rw [mu_ne hj] at q; exact q z
end
end R1

set_option Elab.async false
set_option linter.all false
set_option maxRecDepth 100000
set_option maxHeartbeats 4000000
/-! CoreX: expressions and blocks over frames. -/
namespace R1
open PySem PySem.Spec PyProof.Rows L2 Evl

theorem VS.lay {I : Hp} {σ : L2.St} {ρ : Ro} {i : Nat} {v : V} {d : PyData} (h : VS I σ ρ) (hs : σ[i]? = some (some v)) (r : Rp I v d) : VS I σ (ρ.set i (some d)) := by
  refine ⟨by rw [List.length_set, h.len], fun j d' q => ?_⟩
  by_cases e : i = j
  · subst e
    have hl : i < ρ.length := by
      have := (List.getElem?_eq_some_iff.mp q).1
      rwa [List.length_set] at this
    rw [List.getElem?_set_self hl] at q
    cases q
    exact ⟨v, hs, r⟩
  · rw [List.getElem?_set_ne e] at q
    exact h.at' j d' q
open Classical in
noncomputable def cutI (I H J : Hp) : Hp := fun a => if I a = none ∧ Ob H a then none else J a
theorem Nw.cut {I J H J' H' : Hp} (e : Ex I J) (n : Nw J H J' H') : Nw I H (cutI I H J') H' := by
  refine ⟨fun a o q => ?_, fun a o q => ?_, n.h, fun a q z => ?_⟩
  · unfold cutI
    rw [if_neg fun z => by rw [z.1] at q; cases q]
    exact n.i a o (e a o q)
  · unfold cutI at q
    split at q
    · cases q
    · exact n.j a o q
  · unfold cutI
    rw [if_pos ⟨q, z⟩]
/-- numbers, texts: nothing of the heap is in them -/
def Scal : PyData → Prop
  | .none | .bool _ | .int _ | .str _ => True
  | _ => False
theorem Rp.scal {I J : Hp} {v : V} : ∀ {d : PyData}, Scal d → Rp I v d → Rp J v d
  | .none, _, .non => .non
  | .bool _, _, .bl _ => .bl _
  | .int _, _, .int _ => .int _
  | .str _, _, .str _ => .str _

/-! ### expressions -/
def Ef (X : Cx) (ρ : Ro) (μ : Mo) (e : Expr) (R : PyData → Prop) (μ' : Mo) : Prop := ∀ (S : Addr → Prop) (I0 H0 I H : Hp) (σ : L2.St) (α : Nat → Addr), Fr S I0 H0 I H σ ρ μ α → ∀ Q : VK,
  (∀ v d I' H', Fr S I0 H0 I' H' σ ρ μ' α → Ex I I' → Rp I' v d → R d → Q v H') → WE X e σ H Q
def Tf (X : Cx) (ρ : Ro) (μ : Mo) (e : Expr) (B : Bool → Prop) (μ' : Mo) : Prop := ∀ (S : Addr → Prop) (I0 H0 I H : Hp) (σ : L2.St) (α : Nat → Addr), Fr S I0 H0 I H σ ρ μ α → ∀ Q : Bool → Hp → Prop,
  (∀ b I' H', Fr S I0 H0 I' H' σ ρ μ' α → Ex I I' → B b → Q b H') → WT X e σ H Q
def IntP (P : Int → Prop) (d : PyData) : Prop := ∃ i, d = .int i ∧ P i
section
variable {X : Cx} {ρ : Ro} {μ μ1 μ2 μ3 : Mo} {e a b c : Expr} {es : List Expr} {d : PyData} {ds : List PyData} {R R' A1 A2 : PyData → Prop} {pos p : Pos} {x : Str} {i : Nat}
theorem ef_e (h : E X ρ e d) : Ef X ρ μ e (fun z => z = d) μ := fun S I0 H0 I H σ α F Q q => h I σ H F.e F.v _ fun v I' H' n r => q v d I' H' (F.step n) n.i r rfl
theorem ef_of (h : E X ρ e d) (hR : R d) : Ef X ρ μ e R μ := fun S I0 H0 I H σ α F Q q => h I σ H F.e F.v _ fun v I' H' n r => q v d I' H' (F.step n) n.i r hR
theorem ef_mono (h : Ef X ρ μ e R μ1) (k : ∀ d, R d → R' d) : Ef X ρ μ e R' μ1 := fun S I0 H0 I H σ α F Q q => h S I0 H0 I H σ α F Q fun v d I' H' F' x r z => q v d I' H' F' x r (k d z)
theorem tf_t {k : Bool} (h : T X ρ e k) : Tf X ρ μ e (fun z => z = k) μ := fun S I0 H0 I H σ α F Q q => h I σ H F.e F.v _ fun I' H' n => q k I' H' (F.step n) n.i rfl
/-- a list that may change, as data -/
theorem Fr.peek {S : Addr → Prop} {I0 H0 I H : Hp} {σ : L2.St} {α : Nat → Addr} (F : Fr S I0 H0 I H σ ρ μ α) (hi : μ i = some (.lst ds)) : ∃ J, Ex I J ∧ Ex J H ∧ VS J σ (ρ.set i (some (.list ds))) := by
  obtain ⟨hs, ⟨xs, hx, hr⟩, hn, _, _⟩ := F.m i _ hi
  refine ⟨upd I (α i) (.lst xs), Ex.new hn, fun b o q => ?_, ?_⟩
  · by_cases h : b = α i
    · subst h; rw [upd_same] at q; rw [hx]; exact q
    · rw [upd_ne h] at q; exact F.e b o q
  · exact (F.v.up (Ex.new hn)).lay hs (.lst upd_same (hr.up (Ex.new hn)))
theorem ef_peek (hi : μ i = some (.lst ds)) (h : E X (ρ.set i (some (.list ds))) e d) (sc : Scal d) : Ef X ρ μ e (fun z => z = d) μ := fun S I0 H0 I H σ α F Q q => by
  obtain ⟨J, j1, j2, vs⟩ := F.peek hi
  refine h J σ H j2 vs _ fun v J' H' n r => ?_
  have n' := Nw.cut j1 n
  exact q v d _ H' (F.step n') n'.i (r.scal sc) rfl
theorem tf_peek {k : Bool} (hi : μ i = some (.lst ds)) (h : T X (ρ.set i (some (.list ds))) e k) : Tf X ρ μ e (fun z => z = k) μ := fun S I0 H0 I H σ α F Q q => by
  obtain ⟨J, j1, j2, vs⟩ := F.peek hi
  refine h J σ H j2 vs _ fun J' H' n => ?_
  have n' := Nw.cut j1 n
  exact q k _ H' (F.step n') n'.i rfl
/-- the list of draws, as data -/
theorem Fr.peekO {S : Addr → Prop} {I0 H0 I H : Hp} {σ : L2.St} {α : Nat → Addr} (F : Fr S I0 H0 I H σ ρ μ α) (hi : μ i = some (.opn ds)) : ∃ J, Ex I J ∧ Ex J H ∧ VS J σ (ρ.set i (some (.list ds))) := by
  obtain ⟨hs, ⟨xs, hx, hr⟩, hn, _, _⟩ := F.m i _ hi
  refine ⟨upd I (α i) (.lst xs), Ex.new hn, fun b o q => ?_, ?_⟩
  · by_cases h : b = α i
    · subst h; rw [upd_same] at q; rw [hx]; exact q
    · rw [upd_ne h] at q; exact F.e b o q
  · exact (F.v.up (Ex.new hn)).lay hs (.lst upd_same (hr.up (Ex.new hn)))
theorem ef_peekO (hi : μ i = some (.opn ds)) (h : E X (ρ.set i (some (.list ds))) e d) (sc : Scal d) : Ef X ρ μ e (fun z => z = d) μ := fun S I0 H0 I H σ α F Q q => by
  obtain ⟨J, j1, j2, vs⟩ := F.peekO hi
  refine h J σ H j2 vs _ fun v J' H' n r => ?_
  have n' := Nw.cut j1 n
  exact q v d _ H' (F.step n') n'.i (r.scal sc) rfl
theorem tf_peekO {k : Bool} (hi : μ i = some (.opn ds)) (h : T X (ρ.set i (some (.list ds))) e k) : Tf X ρ μ e (fun z => z = k) μ := fun S I0 H0 I H σ α F Q q => by
  obtain ⟨J, j1, j2, vs⟩ := F.peekO hi
  refine h J σ H j2 vs _ fun J' H' n => ?_
  have n' := Nw.cut j1 n
  exact q k _ H' (F.step n') n'.i rfl
theorem ef_two {r : R2} (h : PE X e (tOp r (WE X a) (WE X b))) (ha : Ef X ρ μ a A1 μ1) (hb : Ef X ρ μ1 b A2 μ2)
    (q : ∀ (I H : Hp) (x y : V) (d d' : PyData), Ex I H → Rp I x d → Rp I y d' → A1 d → A2 d' → ∀ Q : VK, (∀ v dz I' H', Nw I H I' H' → Rp I' v dz → R dz → Q v H') → r x y H Q) : Ef X ρ μ e R μ2 := fun S I0 H0 I H σ α F Q k =>
  we_of h (ha S I0 H0 I H σ α F _ fun x d I1 H1 F1 e1 r1 p1 => hb S I0 H0 I1 H1 σ α F1 _ fun y d' I2 H2 F2 e2 r2 p2 =>
    q I2 H2 x y d d' F2.e (r1.up e2) r2 p1 p2 Q fun v dz I3 H3 n3 r3 z => k v dz I3 H3 (F2.step n3) ((e1.trans e2).trans n3.i) r3 z)
theorem ef_op0 {op : Operator} {f : Int → Int → Int} {P P' : Int → Prop} (ho : OpR X (binaryOp op) (rI0 fun i j => .int (f i j))) (ha : Ef X ρ μ a (IntP P) μ1) (hb : Ef X ρ μ1 b (IntP P') μ2) : Ef X ρ μ (.BinOp a op b pos) (IntP fun k => ∃ i j, P i ∧ P' j ∧ k = f i j) μ2 :=
  ef_two (pe_op ho pe_we pe_we) ha hb fun I H x y d d' hx rx ry p1 p2 Q q => by
    obtain ⟨i, rfl, pi⟩ := p1
    obtain ⟨j, rfl, pj⟩ := p2
    cases rx; cases ry
    exact ⟨i, j, rfl, rfl, q _ _ I H (.refl hx) (.int _) ⟨_, rfl, i, j, pi, pj, rfl⟩⟩
theorem ef_opC {op : Operator} {C : Int → Int → Prop} {f : Int → Int → Int} {P P' : Int → Prop} (ho : OpR X (binaryOp op) (rI C fun i j => .int (f i j))) (ha : Ef X ρ μ a (IntP P) μ1) (hb : Ef X ρ μ1 b (IntP P') μ2) (hc : ∀ i j, P i → P' j → C i j) : Ef X ρ μ (.BinOp a op b pos) (IntP fun k => ∃ i j, P i ∧ P' j ∧ k = f i j) μ2 :=
  ef_two (pe_op ho pe_we pe_we) ha hb fun I H x y d d' hx rx ry p1 p2 Q q => by
    obtain ⟨i, rfl, pi⟩ := p1
    obtain ⟨j, rfl, pj⟩ := p2
    cases rx; cases ry
    exact ⟨i, j, rfl, rfl, hc i j pi pj, q _ _ I H (.refl hx) (.int _) ⟨_, rfl, i, j, pi, pj, rfl⟩⟩
theorem ef_add {P P' : Int → Prop} (ha : Ef X ρ μ a (IntP P) μ1) (hb : Ef X ρ μ1 b (IntP P') μ2) : Ef X ρ μ (.BinOp a .Add b pos) (IntP fun k => ∃ i j, P i ∧ P' j ∧ k = i + j) μ2 := ef_op0 op_add ha hb
theorem ef_sub {P P' : Int → Prop} (ha : Ef X ρ μ a (IntP P) μ1) (hb : Ef X ρ μ1 b (IntP P') μ2) : Ef X ρ μ (.BinOp a .Sub b pos) (IntP fun k => ∃ i j, P i ∧ P' j ∧ k = i - j) μ2 := ef_op0 op_sub ha hb
theorem ef_mul {P P' : Int → Prop} (ha : Ef X ρ μ a (IntP P) μ1) (hb : Ef X ρ μ1 b (IntP P') μ2) (hc : ∀ i j, P i → P' j → CMul i j) : Ef X ρ μ (.BinOp a .Mult b pos) (IntP fun k => ∃ i j, P i ∧ P' j ∧ k = i * j) μ2 := ef_opC op_mul ha hb hc
theorem ef_int (h : E X ρ e (.int j)) : Ef X ρ μ e (IntP fun k => k = j) μ := ef_of h ⟨j, rfl, rfl⟩
theorem tf_eqI {P P' : Int → Prop} (ha : Ef X ρ μ a (IntP P) μ1) (hb : Ef X ρ μ1 b (IntP P') μ2) : Tf X ρ μ (.Compare a [.Eq] [b] pos) (fun k => ∃ i j, P i ∧ P' j ∧ k = decide (i = j)) μ2 := fun S I0 H0 I H σ α F Q k =>
  wt_of (pt_cmpR op_eq pe_we pe_we (nomark _)) (ha S I0 H0 I H σ α F _ fun x d I1 H1 F1 e1 r1 p1 => hb S I0 H0 I1 H1 σ α F1 _ fun y d' I2 H2 F2 e2 r2 p2 => by
    obtain ⟨i, rfl, pi⟩ := p1
    obtain ⟨j, rfl, pj⟩ := p2
    cases r1; cases r2
    have z := k (decide (i = j)) I2 H2 F2 (e1.trans e2) ⟨i, j, pi, pj, rfl⟩
    refine ⟨rfl, _, rfl, ?_⟩
    have e : (decide (V.int i = V.int j)) = decide (i = j) := by rw [dec_int]; rw [Bool.beq_eq_decide_eq]
    rw [e]
    exact z)
theorem ef_ifExp {B : Bool → Prop} (h : Tf X ρ μ c B μ1) (h1 : B true → Ef X ρ μ1 a R μ2) (h2 : B false → Ef X ρ μ1 b R μ2) : Ef X ρ μ (.IfExp c a b pos) R μ2 := fun S I0 H0 I H σ α F Q k =>
  we_of (pe_ifExp pt_wt pe_we pe_we) (h S I0 H0 I H σ α F _ fun z I1 H1 F1 e1 hz => by
    cases z with
    | true =>
      rw [if_pos rfl]
      exact h1 hz S I0 H0 I1 H1 σ α F1 _ fun v d I2 H2 F2 e2 r2 p2 => k v d I2 H2 F2 (e1.trans e2) r2 p2
    | false =>
      rw [if_neg Bool.false_ne_true]
      exact h2 hz S I0 H0 I1 H1 σ α F1 _ fun v d I2 H2 F2 e2 r2 p2 => k v d I2 H2 F2 (e1.trans e2) r2 p2)
/-- the slot's budget may be told greater -/
def penMax : Nat := 1048576
def spD (cost : Nat) (Pre : List PyData → Prop) (R : List PyData → PyData → Prop) : Sp := fun vs H Q _ => ∃ I pa us ds n, vs = V.ref pa :: us ∧ Ex I H ∧ MdAt I H pa (.pen n) ∧ I pa = none ∧ n + cost ≤ penMax ∧ RpAll I us ds ∧ Pre ds ∧
  ∀ v d I' H', Nx (fun a => a = pa) I H I' H' → MdAt I' H' pa (.pen (n + cost)) → I' pa = none → Rp I' v d → R ds d → Q v H'
theorem ef_draw {n cost k : Nat} {ps : List Str} {y : Str} {Pre : List PyData → Prop} {Rr : List PyData → PyData → Prop} {p2 : Pos} (F : Fn X.prog X.w X.K X.mg X.base x k ps (spD cost Pre Rr)) (hr : Room k X.A) (hg : Gl X x) (hi : μ i = some (.pen n)) (hN : X.N[i]? = some y) (hv : Vis X.env.scope y)
    (hb : n + cost ≤ penMax) (ha : As X ρ es ds) (hp : Pre ds) (hdb : (x == ("__debug__" : Str)) = false := by decide) (hd : (y == ("__debug__" : Str)) = false := by decide) (hcd : (y == ("__classdict__" : Str)) = false := by decide)
    (he : starEach (.Name y p2 :: es) X.env = (false, eval (.Name y p2) X.env) :: starEach es X.env := by rfl) (hpl : (backTo pos (starEach es X.env)).any (·.1) = false := by rfl) :
    Ef X ρ μ (.Call (.Name x p) (.Name y p2 :: es) [] pos) (Rr ds) (mu μ i (some (.pen (n + cost)))) := fun S I0 H0 I H σ α G Q q => by
  obtain ⟨hs, hm, hn, _, _⟩ := G.m i _ hi
  refine we_call F hr hg (wa_of (pa_cons pe_we pa_wa he) ?_) hdb he hpl
  refine we_of (pe_var hN hv hd hcd) ⟨.ref (α i), hs, ?_⟩
  refine ha I σ H G.e G.v _ fun us I1 H1 n1 r1 => ?_
  have G1 := G.step n1
  obtain ⟨_, hm1, hn1, _, _⟩ := G1.m i _ hi
  exact ⟨I1, α i, us, ds, n, rfl, G1.e, hm1, hn1, hb, r1, hp, fun v d I2 H2 x2 m2 z2 r2 p2 => q v d I2 H2 (G1.drawn hi x2 m2 z2) (n1.i.trans x2.i) r2 p2⟩
end

/-! ### new things that may change -/
def EN (X : Cx) (ρ : Ro) (e : Expr) (md : MD) : Prop := ∀ (I : Hp) (σ : L2.St) (H : Hp), Ex I H → VS I σ ρ → ∀ Q : VK, (∀ p o I' H', Nw I H I' H' → H' p = none → MdAt I' (upd H' p o) p md → Q (.ref p) (upd H' p o)) → WE X e σ H Q
section
variable {X : Cx} {ρ : Ro} {μ μ1 μ2 μ3 : Mo} {e a b c : Expr} {es : List Expr} {d : PyData} {ds : List PyData} {R R' A1 A2 : PyData → Prop} {pos p : Pos} {x : Str} {i : Nat}
theorem en_lst (h : As X ρ es ds) (hl : ds.length ≤ 100000) : EN X ρ (.List es pos) (.lst ds) := fun I σ H hx vs Q q =>
  we_of (pe_lst pa_wa) (h I σ H hx vs _ fun us I1 H1 n1 r1 => ⟨by rw [r1.length]; exact sz_of hl, fun p hp => q p _ I1 H1 n1 hp ⟨us, upd_same, r1⟩⟩)
theorem en_rep {n : Int} (ha : E X ρ a (.list ds)) (hb : E X ρ b (.int n)) (hl : ds.length * n.toNat ≤ 100000) (h1 : -(2 ^ 63) ≤ n := by omega) (h2 : n < 2 ^ 63 := by omega) : EN X ρ (.BinOp a .Mult b pos) (.lst (List.replicate n.toNat ds).flatten) := fun I σ H hx vs Q q =>
  we_of (pe_op op_rep pe_we pe_we) (ha I σ H hx vs _ fun x I1 H1 n1 r1 => hb I1 σ H1 n1.j (vs.up n1.i) _ fun y I2 H2 n2 r2 => by
    cases r2
    cases r1 with
    | lst ea ra =>
      exact ⟨_, n, _, rfl, rfl, n2.j _ _ (n2.i _ _ ea), h1, h2, by rw [ra.length]; exact sz_of hl, fun c hc => q c _ I2 H2 (n1.trans n2) hc ⟨_, upd_same, rpAll_flat (ra.up n2.i) _⟩⟩)
theorem en_dict : EN X ρ (.Dict [] [] pos) (.dct []) := fun I σ H hx vs Q q => we_of pe_dnewT fun p hp => q p _ I H (.refl hx) hp ⟨[], upd_same, .nil⟩
end

/-! ### blocks -/
def Bk (X : Cx) (ρ : Ro) (μ : Mo) (b : List Stmt) (N : Ro → Mo → Prop) (R : PyData → Mo → Prop) : Prop := ∀ (S : Addr → Prop) (I0 H0 I H : Hp) (σ : L2.St) (α : Nat → Addr) (D : Ends), Fr S I0 H0 I H σ ρ μ α →
  (∀ I' H' σ' ρ' μ' α', Fr S I0 H0 I' H' σ' ρ' μ' α' → N ρ' μ' → D.nx σ' H') → (∀ v d I' H' σ' ρ' μ' α', Fr S I0 H0 I' H' σ' ρ' μ' α' → Rp I' v d → R d μ' → D.rt v H') → WSs X b D σ H
section
variable {X : Cx} {ρ : Ro} {μ μ1 μ2 μ3 : Mo} {e a b c : Expr} {es : List Expr} {d : PyData} {ds : List PyData} {A1 A2 : PyData → Prop} {R : PyData → Mo → Prop} {N N' : Ro → Mo → Prop} {pos p pos' : Pos} {x y : Str} {i j : Nat} {rest b1 b2 body : List Stmt} {md : MD}
theorem bk_nil (h : N ρ μ) : Bk X ρ μ [] N R := fun S I0 H0 I H σ α D F q _ => ws_nil (q I H σ ρ μ α F h)
theorem bk_ret {R' : PyData → Prop} (h : Ef X ρ μ e R' μ1) (k : ∀ d, R' d → R d μ1) : Bk X ρ μ (.Return (some e) pos :: rest) N R := fun S I0 H0 I H σ α D F _ q =>
  ws_ret (h S I0 H0 I H σ α F _ fun v d I' H' F' x r z => q v d I' H' σ ρ μ1 α F' r (k d z))
theorem bk_set (hN : X.N.Nodup) (hi : X.N[i]? = some x) (hl : Loc X.env.scope x) (h : Ef X ρ μ e A1 μ1) (k : ∀ d, A1 d → Bk X (ρ.set i (some d)) (mu μ1 i none) rest N R) (hs : swapsWith e (some (.Name x p)) pos.line X.env = pure false := by rfl)
    (hf : X.fn x = true ∨ X.env.scope.names.lookup x = some .local := by first | exact .inl rfl | exact .inr rfl | assumption) : Bk X ρ μ (.Assign [.Name x p] e pos :: rest) N R := fun S I0 H0 I H σ α D F qn qr =>
  ws_set hN hi hl (h S I0 H0 I H σ α F _ fun v d I' H' F' x r z => k d z S I0 H0 I' H' _ α D (F'.set r) qn qr) hs hf
theorem bk_own (hN : X.N.Nodup) (hi : X.N[i]? = some x) (hl : Loc X.env.scope x) (h : EN X ρ e md) (hm : md.isPen = false) (hlen : i < ρ.length) (k : Bk X (ρ.set i none) (mu μ i (some md)) rest N R) (hs : swapsWith e (some (.Name x p)) pos.line X.env = pure false := by rfl)
    (hf : X.fn x = true ∨ X.env.scope.names.lookup x = some .local := by first | exact .inl rfl | exact .inr rfl | assumption) : Bk X ρ μ (.Assign [.Name x p] e pos :: rest) N R := fun S I0 H0 I H σ α D F qn qr =>
  ws_set hN hi hl (h I σ H F.e F.v _ fun q o I' H' n hq m => k S I0 H0 I' _ _ _ D ((F.step n).own hq m hm (by rw [F.v.len]; exact hlen)) qn qr) hs hf
theorem bk_if {B : Bool → Prop} (hc : Tf X ρ μ c B μ1) (h1 : B true → Bk X ρ μ1 b1 (fun ρ' μ' => Bk X ρ' μ' rest N R) R) (h2 : B false → Bk X ρ μ1 b2 (fun ρ' μ' => Bk X ρ' μ' rest N R) R) : Bk X ρ μ (.If c b1 b2 pos :: rest) N R := fun S I0 H0 I H σ α D F qn qr =>
  ws_if (hc S I0 H0 I H σ α F _ fun z I1 H1 F1 e1 hz => by
    cases z with
    | true =>
      rw [if_pos rfl]
      exact h1 hz S I0 H0 I1 H1 σ α _ F1 (fun I' H' σ' ρ' μ' α' F' k => k S I0 H0 I' H' σ' α' D F' qn qr) qr
    | false =>
      rw [if_neg Bool.false_ne_true]
      exact h2 hz S I0 H0 I1 H1 σ α _ F1 (fun I' H' σ' ρ' μ' α' F' k => k S I0 H0 I' H' σ' α' D F' qn qr) qr)
/-- if c: (returns) rest -/
theorem bk_if1 {B : Bool → Prop} (hc : Tf X ρ μ c B μ1) (h1 : B true → Bk X ρ μ1 b1 (fun ρ' μ' => Bk X ρ' μ' rest N R) R) (h2 : B false → Bk X ρ μ1 rest N R) : Bk X ρ μ (.If c b1 [] pos :: rest) N R := bk_if hc h1 fun z => bk_nil (h2 z)
theorem bk_less {ρ' : Ro} {μ' : Mo} (hl : ρ'.length = ρ.length) (hw : ∀ (i : Nat) (d : PyData), ρ'[i]? = some (some d) → ρ[i]? = some (some d)) (hm : ∀ i md, μ' i = some md → μ i = some md) (h : Bk X ρ' μ' rest N R) : Bk X ρ μ rest N R := fun S I0 H0 I H σ α D F qn qr =>
  h S I0 H0 I H σ α D (F.less hl hw hm) qn qr
/-- a list changes no more -/
theorem bk_freeze (hi : μ i = some (.lst ds)) (h : Bk X (ρ.set i (some (.list ds))) (mu μ i none) rest N R) : Bk X ρ μ rest N R := fun S I0 H0 I H σ α D F qn qr => by
  obtain ⟨hs, ⟨xs, hx, hr⟩, hn, h0, _⟩ := F.m i _ hi
  have e : Ex I (upd I (α i) (.lst xs)) := Ex.new hn
  have j : Ex (upd I (α i) (.lst xs)) H := fun b o q => by
    by_cases h : b = α i
    · subst h; rw [upd_same] at q; rw [hx]; exact q
    · rw [upd_ne h] at q; exact F.e b o q
  refine h S I0 H0 (upd I (α i) (.lst xs)) H σ α D ⟨⟨F.x.i.trans e, j, F.x.h, F.x.s, F.x.t, fun b q z => ?_⟩, (F.v.up e).lay hs (.lst upd_same (hr.up e)), fun k md' q => ?_, fun k l q r z => ?_⟩ qn qr
  · have hb : b ≠ α i := z.ne (h0 rfl)
    rw [upd_ne hb]
    exact F.x.k b q z
  · have hk : k ≠ i := fun w => by subst w; rw [mu_same] at q; cases q
    rw [mu_ne hk] at q
    obtain ⟨a1, a2, a3, a4⟩ := F.m k md' q
    have hne : α k ≠ α i := fun w => hk (F.inj k i (by rw [q]; exact fun z => nomatch z) (by rw [hi]; exact fun z => nomatch z) w)
    refine ⟨a1, ?_, by rw [upd_ne hne]; exact a3, a4⟩
    cases md' with
    | lst es => obtain ⟨ys, u, w⟩ := a2; exact ⟨ys, u, w.up e⟩
    | dct es => obtain ⟨ys, u, w⟩ := a2; exact ⟨ys, u, w.up e⟩
    | pen m => obtain ⟨u1, u2, u, w⟩ := a2; exact ⟨u1, u2, u, e _ _ w⟩
    | opn es => obtain ⟨ys, u, w⟩ := a2; exact ⟨ys, u, w.up e⟩
  · have hk : k ≠ i := fun w => q (by rw [w, mu_same])
    have hl : l ≠ i := fun w => r (by rw [w, mu_same])
    rw [mu_ne hk] at q
    rw [mu_ne hl] at r
    exact F.inj k l q r z
end
end R1

set_option Elab.async false
set_option linter.all false
set_option maxRecDepth 100000
set_option maxHeartbeats 4000000
/-! CoreY: dicts as data, statements that change things, loops. -/
namespace R1
open PySem PySem.Spec PyProof.Rows L2 Evl

/-! ### dicts from rows of whole numbers, once they change no more -/
def kvD (kvs : List (List Int × PyData)) : PyData := .dict (kvs.map fun q => (pwD q.1, q.2))
theorem RpKv.ps {I : Hp} : ∀ {ws kvs}, RpKv I ws kvs → RpPs I ws (kvs.map fun q => (pwD q.1, q.2))
  | _, _, .nil => .nil
  | _, _, .cons h t => .cons h t.ps
theorem ints_inj : ∀ {p q : List Int}, p.map PyData.int = q.map PyData.int → p = q
  | [], [], _ => rfl
  | [], _ :: _, h => nomatch h
  | _ :: _, [], h => nomatch h
  | a :: p, b :: q, h => by
    rw [List.map_cons, List.map_cons] at h
    injection h with h1 h2
    injection h1 with h3
    rw [h3, ints_inj h2]
theorem RpPs.kv {I : Hp} : ∀ {ws l}, RpPs I ws l → ∀ kvs : List (List Int × PyData), l = kvs.map (fun q => (pwD q.1, q.2)) → RpKv I ws kvs
  | _, _, .nil, [], _ => .nil
  | _, _, .nil, _ :: _, e => nomatch e
  | _, _, .cons h t, [], e => nomatch e
  | _, _, .cons (p := p) h t, (q, d) :: kvs, e => by
    rw [List.map_cons] at e
    injection e with e1 e2
    injection e1 with e3 e4
    injection e3 with e5
    have e6 := ints_inj e5
    subst e6
    subst e4
    exact .cons h (RpPs.kv t kvs e2)
theorem Rp.dctI {I : Hp} {v : V} {kvs : List (List Int × PyData)} (r : Rp I v (kvD kvs)) : ∃ a o ws, v = .ref a ∧ I a = some (.frz o (.dT ws)) ∧ RpKv I ws kvs := by
  cases r with
  | dct h hs => exact ⟨_, _, _, rfl, h, hs.kv kvs rfl⟩
theorem RpKv.nth {I : Hp} : ∀ {ws kvs} {i : Nat} {k : List L2.Key} {v : V}, RpKv I ws kvs → ws[i]? = some (k, v) → ∃ p d, kvs[i]? = some (p, d) ∧ k = keyP p ∧ Rp I v d
  | _, _, _, _, _, .nil, e => by simp at e
  | _, _, 0, _, _, .cons h _, e => by
    simp at e
    obtain ⟨rfl, rfl⟩ := e
    exact ⟨_, _, rfl, rfl, h⟩
  | _, _, i + 1, _, _, .cons _ t, e => RpKv.nth (i := i) t (by simpa using e)
/-- a tuple that is there may be known -/
theorem Nw.tup {I H : Hp} {q : Addr} {xs : List V} (e : Ex I H) (h : H q = some (.tup xs)) : ∃ I', Nw I H I' H ∧ I' q = some (.tup xs) := by
  cases z : I q with
  | some o =>
    have := e q o z
    rw [h] at this
    cases this
    exact ⟨I, .refl e, z⟩
  | none =>
    refine ⟨upd I q (.tup xs), ⟨Ex.new z, fun a o w => ?_, Ex.refl H, fun a w n => ?_⟩, upd_same⟩
    · by_cases ha : a = q
      · subst ha; rw [upd_same] at w; rw [h]; exact w
      · rw [upd_ne ha] at w; exact e a o w
    · have ha : a ≠ q := fun y => by
        obtain ⟨o, r, t⟩ := n
        rw [y, h] at r
        cases r
        exact t _ rfl
      rw [upd_ne ha]
      exact w
theorem tupI_of {I : Hp} {q : Addr} {p : List Int} (h : I q = some (.tup ((keyP p).map kV))) : Rp I (.ref q) (pwD p) := by
  rw [keyP_kV] at h
  exact .tup h (rpAll_ints p)
section
variable {X : Cx} {ρ : Ro} {μ μ1 : Mo} {e o k z : Expr} {d : PyData} {kvs : List (List Int × PyData)} {p : List Int} {pos apos cpos : Pos} {elts : List Expr} {kk : Nat} {tpos : Pos} {i : Nat} {x : Str}
theorem it_items (h : E X ρ e (kvD kvs)) (hbase : attributeBase e "items" X.env (eval e X.env) = eval e X.env := by rfl) (hline : (apos.endLine == cpos.line) = true := by rfl) :
    IT X ρ (.Tuple elts kk tpos) (.Call (.Attribute e "items" apos) [] [] cpos) (kvs.map fun q => .tuple [pwD q.1, q.2]) := it_of (pi_itemsT pe_we hbase hline) fun I σ H hx vs R k => h I σ H hx vs _ fun v I1 H1 n1 r1 => by
  obtain ⟨a, o, ws, rfl, ea, rk⟩ := r1.dctI
  refine ⟨a, o, ws, rfl, n1.j _ _ ea, k _ I1 H1 n1 ⟨fun i I2 H2 e1 e2 _ hi => ⟨e2 _ _ (e1 _ _ ea), ?_⟩, fun i I2 H2 x H3 e1 e2 _ hi y => ?_, fun I2 H2 e1 e2 _ => ⟨e2 _ _ (e1 _ _ ea), ?_⟩⟩⟩
  · rw [List.length_map] at hi
    rw [rk.length]
    exact hi
  · obtain ⟨T, k', v', q, hkv, hq, rfl, hT, rfl⟩ := y
    obtain ⟨p, d, hd, rfl, rd⟩ := rk.nth hkv
    obtain ⟨I3, n3, e3⟩ := Nw.tup e2 hq
    have n4 := Nw.new (o := .tup [.ref q, v']) n3.j hT
    refine ⟨_, _, n3.trans n4, by rw [List.getElem?_map, hd]; rfl, .tup upd_same (.cons ((tupI_of e3).up n4.i) (.cons (rd.up ((e1.trans n3.i).trans n4.i)) .nil))⟩
  · rw [List.length_map, rk.length]
    exact Nat.le_refl _
theorem it_keys (h : E X ρ e (kvD kvs)) {tg : Expr} : IT X ρ tg e (kvs.map fun q => pwD q.1) := it_of (pi_keys pe_we) fun I σ H hx vs R k => h I σ H hx vs _ fun v I1 H1 n1 r1 => by
  obtain ⟨a, o, ws, rfl, ea, rk⟩ := r1.dctI
  refine ⟨a, o, rfl, .inr ⟨ws, n1.j _ _ ea, k _ I1 H1 n1 ⟨fun i I2 H2 e1 e2 _ hi => ⟨e2 _ _ (e1 _ _ ea), ?_⟩, fun i I2 H2 x H3 e1 e2 _ hi y => ?_, fun I2 H2 e1 e2 _ => ⟨e2 _ _ (e1 _ _ ea), ?_⟩⟩⟩⟩
  · rw [List.length_map] at hi
    rw [rk.length]
    exact hi
  · obtain ⟨rfl, k', v', q, hkv, rfl, hq⟩ := y
    obtain ⟨p, d, hd, rfl, rd⟩ := rk.nth hkv
    obtain ⟨I3, n3, e3⟩ := Nw.tup e2 hq
    exact ⟨I3, _, n3, by rw [List.getElem?_map, hd]; rfl, tupI_of e3⟩
  · rw [List.length_map, rk.length]
    exact Nat.le_refl _
theorem dget_of {I H : Hp} {a b : Addr} {ob : Obj} {ws : List (List L2.Key × V)} (hx : Ex I H) (ea : I a = some (.frz ob (.dT ws)) ∨ H a = some (.dT ws)) (eb : I b = some (.tup (p.map V.int))) : DGet H a (.ref b) (valV ws (keyP p)) := by
  refine .inr ⟨ws, keyP p, b, ?_, rfl, by rw [keyP_kV]; exact hx _ _ eb, rfl⟩
  rcases ea with ea | ea
  · exact .inr ⟨ob, hx _ _ ea⟩
  · exact .inl ea
/-- d[k], there -/
theorem e_dget (hu : X.A.units + 1 < cLine) (ho : E X ρ o (kvD kvs)) (hk : E X ρ k (pwD p)) (h : kvGet kvs p = some d) (hs : NoSl k := by intro _ _; rfl) : E X ρ (.Subscript o k pos) d :=
  e_of (pe_dget hu pe_we pe_we hs) fun I σ H hx vs Q q => ho I σ H hx vs _ fun v I1 H1 n1 r1 => hk I1 σ H1 n1.j (vs.up n1.i) _ fun y I2 H2 n2 r2 => by
    obtain ⟨a, ob, ws, rfl, ea, rk⟩ := r1.dctI
    obtain ⟨b, rfl, eb⟩ := r2.tupI
    obtain ⟨v', hv, rv⟩ := rk.get.2 d h
    refine ⟨a, v', rfl, ?_, q v' I2 H2 (n1.trans n2) (rv.up n2.i)⟩
    rw [← hv]
    exact dget_of n2.j (.inl (n2.i _ _ ea)) eb
/-- x.get(k, z), x a dict that may change -/
theorem ef_dget (hu : X.A.units + 1 < cLine) {xp : Pos} {dz : PyData} (hi : μ i = some (.dct kvs)) (hN : X.N[i]? = some x) (hv : Vis X.env.scope x) (hk : E X ρ k (pwD p)) (hz : E X ρ z dz)
    (m : M2 X (.Name x xp) "get" apos k z cpos := by exact ⟨rfl, rfl, rfl, rfl⟩) (hd : (x == ("__debug__" : Str)) = false := by decide) (hcd : (x == ("__classdict__" : Str)) = false := by decide) :
    Ef X ρ μ (.Call (.Attribute (.Name x xp) "get" apos) [k, z] [] cpos) (fun d => d = (kvGet kvs p).getD dz) μ := fun S I0 H0 I H σ α F Q q => by
  obtain ⟨hs, ⟨ws, hw, rk⟩, hn, h0, _⟩ := F.m i _ hi
  refine we_of (pe_dget2 hu (pe_var hN hv hd hcd) pe_we pe_we m) ⟨.ref (α i), hs, α i, rfl, .inr ⟨ws, .inl hw⟩, ?_⟩
  refine hk I σ H F.e F.v _ fun y I1 H1 n1 r1 => hz I1 σ H1 n1.j (F.v.up n1.i) _ fun u I2 H2 n2 r2 => ?_
  obtain ⟨b, rfl, eb⟩ := r1.tupI
  have n3 := n1.trans n2
  have F3 := F.step n3
  obtain ⟨_, ⟨ws', hw', rk'⟩, hn', _, _⟩ := F3.m i _ hi
  refine ⟨valV ws' (keyP p), dget_of (ob := default) F3.e (.inr hw') (n2.i _ _ eb), ?_⟩
  have g := rk'.get (p := p)
  cases hg : kvGet kvs p with
  | none =>
    rw [g.1 hg]
    exact q _ _ I2 H2 F3 n3.i r2 (by rw [hg]; rfl)
  | some d =>
    obtain ⟨v', hv', rv⟩ := g.2 d hg
    rw [hv']
    exact q _ _ I2 H2 F3 n3.i rv (by rw [hg]; rfl)
end

/-! ### statements -/
section
variable {X : Cx} {ρ : Ro} {μ μ1 μ2 μ3 : Mo} {e a b c ix kx : Expr} {es : List Expr} {d : PyData} {ds : List PyData} {A1 A2 : PyData → Prop} {R : PyData → Mo → Prop} {N N' : Ro → Mo → Prop} {pos p pos' apos cpos xp : Pos} {x y : Str} {i j : Nat} {rest b1 b2 body : List Stmt} {md : MD} {kvs : List (List Int × PyData)} {pw : List Int}
/-- a dict changes no more -/
theorem bk_lock (hi : μ i = some (.dct kvs)) (h : Bk X (ρ.set i (some (kvD kvs))) (mu μ i none) rest N R) : Bk X ρ μ rest N R := fun S I0 H0 I H σ α D F qn qr pins s iv => by
  obtain ⟨hs, ⟨ws, hw, rk⟩, hn, h0, _⟩ := F.m i _ hi
  obtain ⟨od, i1⟩ := iv.lock hw trivial
  have e : Ex I (upd I (α i) (.frz od (.dT ws))) := Ex.new hn
  have j : Ex (upd I (α i) (.frz od (.dT ws))) (upd H (α i) (.frz od (.dT ws))) := fun b o q => by
    by_cases h : b = α i
    · subst h; rw [upd_same] at q ⊢; exact q
    · rw [upd_ne h] at q ⊢; exact F.e b o q
  refine h S I0 H0 (upd I (α i) (.frz od (.dT ws))) (upd H (α i) (.frz od (.dT ws))) σ α D ⟨⟨F.x.i.trans e, j, fun b o ns q => ?_, fun b q => ?_, fun b q => ?_, fun b q z => ?_⟩, (F.v.up e).lay hs (.dct upd_same (rk.up e).ps), fun k md' q => ?_, fun k l q r z => ?_⟩ qn qr pins s i1
  · have hb : b ≠ α i := fun w => by subst w; rw [h0 rfl] at q; cases q
    rw [upd_ne hb]
    exact F.x.h b o ns q
  · by_cases hb : b = α i
    · rw [hb, upd_same]; exact fun w => nomatch w
    · rw [upd_ne hb]; exact F.x.s b q
  · by_cases hb : b = α i
    · rw [hb]; exact ⟨_, upd_same, by intro _ w; cases w⟩
    · obtain ⟨o, w, t⟩ := F.x.t b q
      exact ⟨o, by rw [upd_ne hb]; exact w, t⟩
  · have hb : b ≠ α i := z.ne (h0 rfl)
    rw [upd_ne hb]
    exact F.x.k b q z
  · have hk : k ≠ i := fun w => by subst w; rw [mu_same] at q; cases q
    rw [mu_ne hk] at q
    obtain ⟨a1, a2, a3, a4⟩ := F.m k md' q
    have hne : α k ≠ α i := fun w => hk (F.inj k i (by rw [q]; exact fun z => nomatch z) (by rw [hi]; exact fun z => nomatch z) w)
    refine ⟨a1, ?_, by rw [upd_ne hne]; exact a3, a4⟩
    cases md' with
    | lst es => obtain ⟨ys, u, w⟩ := a2; exact ⟨ys, by rw [upd_ne hne]; exact u, w.up e⟩
    | dct es => obtain ⟨ys, u, w⟩ := a2; exact ⟨ys, by rw [upd_ne hne]; exact u, w.up e⟩
    | pen m => obtain ⟨u1, u2, u, w⟩ := a2; exact ⟨u1, u2, by rw [upd_ne hne]; exact u, e _ _ w⟩
    | opn es => obtain ⟨ys, u, w⟩ := a2; exact ⟨ys, by rw [upd_ne hne]; exact u, w.up e⟩
  · have hk : k ≠ i := fun w => q (by rw [w, mu_same])
    have hl : l ≠ i := fun w => r (by rw [w, mu_same])
    rw [mu_ne hk] at q
    rw [mu_ne hl] at r
    exact F.inj k l q r z
/-- x.append(e) -/
theorem bk_append (hi : μ i = some (.lst ds)) (hN : X.N[i]? = some x) (hv : Vis X.env.scope x) (h : Ef X ρ μ e A1 μ1) (hi1 : μ1 i = some (.lst ds)) (hl : ds.length < 100000) (k : ∀ d, A1 d → Bk X ρ (mu μ1 i (some (.lst (ds ++ [d])))) rest N R)
    (hd : (x == ("__debug__" : Str)) = false := by decide) (hcd : (x == ("__classdict__" : Str)) = false := by decide) (hs : swapsWith (.Call (.Attribute (.Name x xp) "append" apos) [e] [] cpos) none pos.line X.env = pure false := by rfl)
    (hbase : attributeBase (.Name x xp) "append" X.env (eval (.Name x xp) X.env) = eval (.Name x xp) X.env := by rfl)
    (hfew : ((backTo cpos (starEach [e] X.env)).all (fun x => !x.1) && (backToKw cpos (keywordEach [] X.env)).all (fun x => x.1.isSome) && decide ([e].length + ([] : List Keyword).length + (if ([] : List Keyword).isEmpty then 0 else 1) < 30)) = true := by rfl)
    (hline : (apos.endLine == cpos.line) = true := by rfl) (hst : starEach [e] X.env = [(false, eval e X.env)] := by rfl) : Bk X ρ μ (.Expr (.Call (.Attribute (.Name x xp) "append" apos) [e] [] cpos) pos :: rest) N R := fun S I0 H0 I H σ α D F qn qr => by
  obtain ⟨hs', ⟨ws, hw, rk⟩, hn, h0, _⟩ := F.m i _ hi
  refine ws_cons (ps_expr (pe_bm PySem.F.plainAttrs_list PySem.F.slot_list_append PySem.type_list_append mt_append (pe_var hN hv hd hcd) (pa1 hst) hbase hfew hline hst rfl) hs) ⟨.ref (α i), hs', .inl ⟨rfl, ws, .inl (.inl hw)⟩, ?_⟩
  refine h S I0 H0 I H σ α F _ fun v d I1 H1 F1 e1 r1 p1 => ?_
  obtain ⟨_, ⟨ws', hw', rk'⟩, hn', h0', _⟩ := F1.m i _ hi1
  refine ⟨α i, ws', v, rfl, rfl, hw', sz_lt (by rw [rk'.length]; exact hl), ?_⟩
  exact k d p1 S I0 H0 I1 _ σ α D (F1.put hi1 (md' := .lst (ds ++ [d])) ⟨ws' ++ [v], upd_same, rk'.snoc r1⟩ rfl) qn qr
/-- x[ix] = e -/
theorem bk_lput {n : Int} {m : Nat} (h : Ef X ρ μ e A1 μ1) (hi : μ1 i = some (.lst ds)) (hN : X.N[i]? = some x) (hv : Vis X.env.scope x) (hx : E X ρ ix (.int n)) (hix : ixN ds.length n = some m) (k : ∀ d, A1 d → Bk X ρ (mu μ1 i (some (.lst (ds.set m d)))) rest N R)
    (hd : (x == ("__debug__" : Str)) = false := by decide) (hcd : (x == ("__classdict__" : Str)) = false := by decide) (hs : swapsWithSole [.Subscript (.Name x xp) ix pos'] e pos.line X.env = pure false := by rfl) (hw : swappedStores [.Subscript (.Name x xp) ix pos'] e X.env = pure none := by rfl)
    (h1 : (assignEach [.Subscript (.Name x xp) ix pos'] X.env).map (·.2) = [assign (.Subscript (.Name x xp) ix pos') X.env] := by rfl)
    (ha : ∀ v, assign (.Subscript (.Name x xp) ix pos') X.env v = (do
      let ov ← holding [v] (eval (.Name x xp) X.env)
      let iv ← holding [v, ov] (eval ix X.env)
      standAt pos'
      holding [v, ov, iv] (setItem ov iv v)
      release [v, ov, iv] []) := by intro _; rfl) : Bk X ρ μ (.Assign [.Subscript (.Name x xp) ix pos'] e pos :: rest) N R := fun S I0 H0 I H σ α D F qn qr => by
  refine ws_cons (ps_asg pe_we (pg_sub (pe_var hN hv hd hcd) pe_we set_list ha) hs hw h1) ?_
  refine h S I0 H0 I H σ α F _ fun v d I1 H1 F1 e1 r1 p1 => ?_
  obtain ⟨hs', ⟨ws, hw1, rk⟩, hn, h0, _⟩ := F1.m i _ hi
  refine ⟨.ref (α i), hs', hx I1 σ H1 F1.e F1.v _ fun u I2 H2 n2 r2 => ?_⟩
  cases r2
  have F2 := F1.step n2
  obtain ⟨_, ⟨ws', hw', rk'⟩, hn', h0', _⟩ := F2.m i _ hi
  refine ⟨α i, ws', n, m, rfl, rfl, hw', by rw [rk'.length]; exact hix, ?_⟩
  exact k d p1 S I0 H0 I2 _ σ α D (F2.put hi (md' := .lst (ds.set m d)) ⟨ws'.set m v, upd_same, rk'.set m (r1.up n2.i)⟩ rfl) qn qr
/-- x[ix] = e -/
theorem bk_lputO {n : Int} {m : Nat} (h : Ef X ρ μ e A1 μ1) (hi : μ1 i = some (.opn ds)) (hN : X.N[i]? = some x) (hv : Vis X.env.scope x) (hx : E X ρ ix (.int n)) (hix : ixN ds.length n = some m) (k : ∀ d, A1 d → Bk X ρ (mu μ1 i (some (.opn (ds.set m d)))) rest N R)
    (hd : (x == ("__debug__" : Str)) = false := by decide) (hcd : (x == ("__classdict__" : Str)) = false := by decide) (hs : swapsWithSole [.Subscript (.Name x xp) ix pos'] e pos.line X.env = pure false := by rfl) (hw : swappedStores [.Subscript (.Name x xp) ix pos'] e X.env = pure none := by rfl)
    (h1 : (assignEach [.Subscript (.Name x xp) ix pos'] X.env).map (·.2) = [assign (.Subscript (.Name x xp) ix pos') X.env] := by rfl)
    (ha : ∀ v, assign (.Subscript (.Name x xp) ix pos') X.env v = (do
      let ov ← holding [v] (eval (.Name x xp) X.env)
      let iv ← holding [v, ov] (eval ix X.env)
      standAt pos'
      holding [v, ov, iv] (setItem ov iv v)
      release [v, ov, iv] []) := by intro _; rfl) : Bk X ρ μ (.Assign [.Subscript (.Name x xp) ix pos'] e pos :: rest) N R := fun S I0 H0 I H σ α D F qn qr => by
  refine ws_cons (ps_asg pe_we (pg_sub (pe_var hN hv hd hcd) pe_we set_list ha) hs hw h1) ?_
  refine h S I0 H0 I H σ α F _ fun v d I1 H1 F1 e1 r1 p1 => ?_
  obtain ⟨hs', ⟨ws, hw1, rk⟩, hn, h0, _⟩ := F1.m i _ hi
  refine ⟨.ref (α i), hs', hx I1 σ H1 F1.e F1.v _ fun u I2 H2 n2 r2 => ?_⟩
  cases r2
  have F2 := F1.step n2
  obtain ⟨_, ⟨ws', hw', rk'⟩, hn', h0', _⟩ := F2.m i _ hi
  refine ⟨α i, ws', n, m, rfl, rfl, hw', by rw [rk'.length]; exact hix, ?_⟩
  exact k d p1 S I0 H0 I2 _ σ α D (F2.put hi (md' := .opn (ds.set m d)) ⟨ws'.set m v, upd_same, rk'.set m (r1.up n2.i)⟩ rfl) qn qr
/-- x[k] = e, x a dict -/
theorem bk_dput (hu : X.A.units + 1 < cLine) (h : Ef X ρ μ e A1 μ1) (hi : μ1 i = some (.dct kvs)) (hN : X.N[i]? = some x) (hv : Vis X.env.scope x) (hx : E X ρ kx (pwD pw)) (hl : kvs.length < 100000) (k : ∀ d, A1 d → Bk X ρ (mu μ1 i (some (.dct (kvPut kvs pw d)))) rest N R)
    (hd : (x == ("__debug__" : Str)) = false := by decide) (hcd : (x == ("__classdict__" : Str)) = false := by decide) (hs : swapsWith e (some (.Subscript (.Name x xp) kx pos')) pos.line X.env = pure false := by rfl) : Bk X ρ μ (.Assign [.Subscript (.Name x xp) kx pos'] e pos :: rest) N R := fun S I0 H0 I H σ α D F qn qr => by
  refine ws_cons (ps_dput hu (pe_var hN hv hd hcd) pe_we pe_we hs) ?_
  refine h S I0 H0 I H σ α F _ fun v d I1 H1 F1 e1 r1 p1 => ?_
  obtain ⟨hs', ⟨ws, hw1, rk⟩, hn, h0, _⟩ := F1.m i _ hi
  refine ⟨.ref (α i), hs', hx I1 σ H1 F1.e F1.v _ fun u I2 H2 n2 r2 => ?_⟩
  obtain ⟨b, rfl, eb⟩ := r2.tupI
  have F2 := F1.step n2
  obtain ⟨_, ⟨ws', hw', rk'⟩, hn', h0', _⟩ := F2.m i _ hi
  refine ⟨α i, upd H2 (α i) (.dT (putK ws' (keyP pw) v)), rfl, DPut.t hw' (by rw [keyP_kV]; exact n2.j _ _ eb) (sz_lt (by rw [rk'.length]; exact hl)), ?_⟩
  exact k d p1 S I0 H0 I2 _ σ α D (F2.put hi (md' := .dct (kvPut kvs pw d)) ⟨_, upd_same, rk'.put (r1.up n2.i)⟩ rfl) qn qr
/-- x = y, y a thing that may change and is spoken of by x alone from here on -/
theorem bk_move (hN : X.N.Nodup) (hi : X.N[i]? = some x) (hl : Loc X.env.scope x) (hj : X.N[j]? = some y) (hvy : Vis X.env.scope y) (hij : i ≠ j) (hm : μ j = some md) (hlen : i < ρ.length) (k : Bk X (ρ.set i none) (mu (mu μ i (some md)) j none) rest N R)
    (hd : (y == ("__debug__" : Str)) = false := by decide) (hcd : (y == ("__classdict__" : Str)) = false := by decide) (hs : swapsWith (.Name y xp) (some (.Name x p)) pos.line X.env = pure false := by rfl)
    (hf : X.fn x = true ∨ X.env.scope.names.lookup x = some .local := by first | exact .inl rfl | exact .inr rfl | assumption) : Bk X ρ μ (.Assign [.Name x p] (.Name y xp) pos :: rest) N R := fun S I0 H0 I H σ α D F qn qr => by
  obtain ⟨hs', hmd, hn, h0, hp⟩ := F.m j _ hm
  refine ws_set hN hi hl (we_of (pe_var hj hvy hd hcd) ⟨.ref (α j), hs', ?_⟩) hs hf
  refine k S I0 H0 I H _ (fun m => if m = i then α j else α m) D ⟨F.x, F.v.forget i _, fun m md' e => ?_, fun m l q r z => ?_⟩ qn qr
  · by_cases h1 : m = j
    · rw [h1, mu_same] at e; cases e
    · rw [mu_ne h1] at e
      by_cases h2 : m = i
      · subst h2
        rw [mu_same] at e
        cases e
        show (σ.set m (some (.ref (α j))))[m]? = some (some (.ref (if m = m then α j else α m))) ∧ _
        rw [if_pos rfl]
        exact ⟨List.getElem?_set_self (by rw [F.v.len]; exact hlen), hmd, hn, h0, hp⟩
      · rw [mu_ne h2] at e
        show (σ.set i (some (.ref (α j))))[m]? = some (some (.ref (if m = i then α j else α m))) ∧ _
        rw [if_neg h2, List.getElem?_set_ne (Ne.symm h2)]
        exact F.m m md' e
  · have z : (if m = i then α j else α m) = (if l = i then α j else α l) := z
    have ne : ∀ t, mu (mu μ i (some md)) j none t ≠ none → t ≠ j ∧ (t ≠ i → μ t ≠ none) := fun t q => by
      refine ⟨fun w => q (by rw [w, mu_same]), fun w => ?_⟩
      have h1 : t ≠ j := fun w => q (by rw [w, mu_same])
      rw [mu_ne h1, mu_ne w] at q
      exact q
    have nj : μ j ≠ none := by rw [hm]; exact fun z => nomatch z
    obtain ⟨q1, q2⟩ := ne m q
    obtain ⟨r1, r2⟩ := ne l r
    by_cases h1 : m = i
    · by_cases h2 : l = i
      · rw [h1, h2]
      · rw [if_pos h1, if_neg h2] at z
        exact absurd (F.inj j l nj (r2 h2) z).symm r1
    · by_cases h2 : l = i
      · rw [if_neg h1, if_pos h2] at z
        exact absurd (F.inj m j (q2 h1) nj z) q1
      · rw [if_neg h1, if_neg h2] at z
        exact F.inj m l (q2 h1) (r2 h2) z
/-- x, y = a, b -/
theorem bk_par {px py pt : Pos} {kt : Nat} {k2 : Nat} {pt2 : Pos} (hc : X.calm = true) (hN : X.N.Nodup) (hi : X.N[i]? = some x) (hj : X.N[j]? = some y) (hij : i ≠ j) (hx : X.env.scope.names.lookup x = some .local) (hy : X.env.scope.names.lookup y = some .local)
    (ha : Ef X ρ μ a A1 μ1) (hb : Ef X ρ μ1 b A2 μ2) (k : ∀ d d', A1 d → A2 d' → Bk X ((ρ.set i (some d)).set j (some d')) (mu (mu μ2 i none) j none) rest N R)
    (hw : swappedStores [.Tuple [.Name x px, .Name y py] kt pt] (.Tuple [a, b] k2 pt2) X.env = pure (some [x, y]) := by rfl) (hs : swapsWithSole [.Tuple [.Name x px, .Name y py] kt pt] (.Tuple [a, b] k2 pt2) pos.line X.env = pure false := by rfl)
    (hst : starEach [a, b] X.env = (false, eval a X.env) :: starEach [b] X.env := by rfl) (hst2 : starEach [b] X.env = [(false, eval b X.env)] := by rfl) :
    Bk X ρ μ (.Assign [.Tuple [.Name x px, .Name y py] kt pt] (.Tuple [a, b] k2 pt2) pos :: rest) N R := fun S I0 H0 I H σ α D F qn qr => by
  refine ws_cons (ps_par hc hN hi hj hij hx hy (pa2 hst hst2) hw hs) ?_
  refine ha S I0 H0 I H σ α F _ fun v d I1 H1 F1 e1 r1 p1 => hb S I0 H0 I1 H1 σ α F1 _ fun u d' I2 H2 F2 e2 r2 p2 => ⟨v, u, rfl, ?_⟩
  exact k d d' p1 p2 S I0 H0 I2 H2 _ α D ((F2.set (r1.up e2)).set r2) qn qr
/-- x, y = a, a new thing that may change -/
theorem bk_parOwn {px py pt : Pos} {kt : Nat} {k2 : Nat} {pt2 : Pos} (hc : X.calm = true) (hN : X.N.Nodup) (hi : X.N[i]? = some x) (hj : X.N[j]? = some y) (hij : i ≠ j) (hx : X.env.scope.names.lookup x = some .local) (hy : X.env.scope.names.lookup y = some .local)
    (ha : Ef X ρ μ a A1 μ1) (hb : EN X ρ b md) (hm : md.isPen = false) (hlen : j < ρ.length) (k : ∀ d, A1 d → Bk X ((ρ.set i (some d)).set j none) (mu (mu μ1 i none) j (some md)) rest N R)
    (hw : swappedStores [.Tuple [.Name x px, .Name y py] kt pt] (.Tuple [a, b] k2 pt2) X.env = pure (some [x, y]) := by rfl) (hs : swapsWithSole [.Tuple [.Name x px, .Name y py] kt pt] (.Tuple [a, b] k2 pt2) pos.line X.env = pure false := by rfl)
    (hst : starEach [a, b] X.env = (false, eval a X.env) :: starEach [b] X.env := by rfl) (hst2 : starEach [b] X.env = [(false, eval b X.env)] := by rfl) :
    Bk X ρ μ (.Assign [.Tuple [.Name x px, .Name y py] kt pt] (.Tuple [a, b] k2 pt2) pos :: rest) N R := fun S I0 H0 I H σ α D F qn qr => by
  refine ws_cons (ps_par hc hN hi hj hij hx hy (pa2 hst hst2) hw hs) ?_
  refine ha S I0 H0 I H σ α F _ fun v d I1 H1 F1 e1 r1 p1 => hb I1 σ H1 F1.e F1.v _ fun q o I2 H2 n2 hq m2 => ⟨v, .ref q, rfl, ?_⟩
  exact k d p1 S I0 H0 I2 _ _ _ D (((F1.step n2).set (r1.up n2.i)).own hq m2 hm (by rw [List.length_set, F1.v.len]; exact hlen)) qn qr
end
end R1

set_option Elab.async false
set_option linter.all false
set_option maxRecDepth 100000
set_option maxHeartbeats 4000000
/-! CoreZ: loops over frames, defs over frames, defs that draw, comprehensions that draw. -/
namespace R1
open PySem PySem.Spec PyProof.Rows L2 Evl

section
variable {X : Cx} {ρ : Ro} {μ μ1 : Mo} {e a b c tg iter : Expr} {d : PyData} {ds : List PyData} {R : PyData → Mo → Prop} {N : Ro → Mo → Prop} {pos p : Pos} {x y : Str} {i j : Nat} {rest body : List Stmt} {md : MD} {g : TG} {ts : List Nat}
theorem Fr.rise {S : Addr → Prop} {I0 H0 I H : Hp} {σ : L2.St} {α : Nat → Addr} (F : Fr S I0 H0 I H σ ρ μ α) : Fr S I H0 I H σ ρ μ α := ⟨F.x.rise, F.v, F.m, F.inj⟩
theorem Fr.sink {S : Addr → Prop} {I0 H0 I H I1 H1 : Hp} {σ : L2.St} {α : Nat → Addr} (n : Nx S I0 H0 I1 H1) (F : Fr S I1 H0 I H σ ρ μ α) : Fr S I0 H0 I H σ ρ μ α := ⟨n.sink F.x, F.v, F.m, F.inj⟩
theorem Fr.tgt {S : Addr → Prop} {I0 H0 I H : Hp} {σ σ' : L2.St} {ρ' : Ro} {α : Nat → Addr} (F : Fr S I0 H0 I H σ ρ μ α) (v : VS I σ' ρ') (hs : ∀ j, j ∉ ts → σ'[j]? = σ[j]?) (hm : ∀ t, t ∈ ts → μ t = none) : Fr S I0 H0 I H σ' ρ' μ α :=
  ⟨F.x, v, fun i md e => by
    obtain ⟨a, b⟩ := F.m i md e
    refine ⟨?_, b⟩
    rw [hs i fun z => by rw [hm i z] at e; cases e]
    exact a, F.inj⟩
theorem bk_for (Iv : Nat → Ro → Mo → Prop) (hp : PassesOwn (model X.prog X.w) X.A X.env X.xe) (hc : X.calm = true) (hg : PG X tg g) (it : IT X ρ tg iter ds) (h0 : Iv 0 ρ μ)
    (step : ∀ j d ρj μj, ds[j]? = some d → Iv j ρj μj → ∃ ρt, Gt g ts ρj d ρt ∧ (∀ t, t ∈ ts → μj t = none) ∧ Bk X ρt μj body (fun ρ' μ' => Iv (j + 1) ρ' μ') R) (done : ∀ ρ' μ', Iv ds.length ρ' μ' → Bk X ρ' μ' rest N R)
    (hs : ∀ x, foldedSetIterable iter X.env x = pure x := by intro _; rfl) : Bk X ρ μ (.For tg iter body [] pos :: rest) N R := fun S I0 H0 I H σ α D F qn qr => by
  refine ws_cons (ps_for hp hc pi_wi hg ps_ws hs) ?_
  refine it I σ H F.e F.v _ fun J I1 H1 n1 ok => ?_
  have F1 := F.step n1
  refine ⟨fun i m σ' H' => m = ds.length - i ∧ i ≤ ds.length ∧ ∃ I2 ρ2 μ2 α2, Fr S I1 H0 I2 H' σ' ρ2 μ2 α2 ∧ Iv i ρ2 μ2, ⟨_, rfl, Nat.zero_le _, I1, ρ, μ, α, F1.rise, h0⟩, ?_⟩
  rintro i m σ2 H2 ⟨rfl, hi, I2, ρ2, μ2, α2, F2, iv⟩
  by_cases hlt : i < ds.length
  · refine .inr ⟨ok.go i I2 H2 F2.x.i F2.e trivial hlt, fun σ' H' => ∃ I3 ρ3 μ3 α3, Fr S I1 H0 I3 H' σ' ρ3 μ3 α3 ∧ Iv (i + 1) ρ3 μ3, fun σ' H' q => ⟨ds.length - (i + 1), by omega, rfl, hlt, q⟩, fun w H3 y => ?_⟩
    obtain ⟨I3, d, n3, hd, rd⟩ := ok.yld i I2 H2 w H3 F2.x.i F2.e trivial hlt y
    obtain ⟨ρt, gt, hm, hb⟩ := step i d ρ2 μ2 hd iv
    have F3 := F2.step n3
    refine gt.run I3 σ2 H3 w F3.e F3.v rd _ fun σ3 v3 ag hl => ?_
    refine hb S I1 H0 I3 H3 σ3 α2 _ (F3.tgt v3 ag hm) (fun I' H' σ' ρ' μ' α' F' k => ⟨I', ρ', μ', α', F', k⟩) fun v d I' H' σ' ρ' μ' α' F' r k => qr v d I' H' σ' ρ' μ' α' (F'.sink F1.x) r k
  · have e : i = ds.length := by omega
    subst e
    exact .inl ⟨ok.stop I2 H2 F2.x.i F2.e trivial, done ρ2 μ2 iv S I0 H0 I2 H2 σ2 α2 D (F2.sink F1.x) qn qr⟩
theorem bk_while (Iv : Nat → Ro → Mo → Prop) (B : Nat → Ro → Mo → Bool → Prop) (hp : PassesOwn (model X.prog X.w) X.A X.env X.xe) {m0 : Nat} (h0 : Iv m0 ρ μ)
    (test : ∀ m ρj μj, Iv m ρj μj → Tf X ρj μj c (B m ρj μj) μj) (step : ∀ m ρj μj, Iv m ρj μj → B m ρj μj true → Bk X ρj μj body (fun ρ' μ' => ∃ m', m' < m ∧ Iv m' ρ' μ') R)
    (done : ∀ m ρj μj, Iv m ρj μj → B m ρj μj false → Bk X ρj μj rest N R) : Bk X ρ μ (.While c body [] pos :: rest) N R := fun S I0 H0 I H σ α D F qn qr => by
  refine ws_cons (ps_while hp pt_wt ps_ws) ?_
  refine ⟨fun m σ' H' => ∃ I2 ρ2 μ2 α2, Fr S I0 H0 I2 H' σ' ρ2 μ2 α2 ∧ Iv m ρ2 μ2, ⟨m0, I, ρ, μ, α, F, h0⟩, ?_⟩
  rintro m σ2 H2 ⟨I2, ρ2, μ2, α2, F2, iv⟩
  refine test m ρ2 μ2 iv S I0 H0 I2 H2 σ2 α2 F2 _ fun z I3 H3 F3 e3 hz => ?_
  cases z with
  | true =>
    rw [if_pos rfl]
    exact ⟨fun σ' H' => ∃ m', m' < m ∧ ∃ I2 ρ2 μ2 α2, Fr S I0 H0 I2 H' σ' ρ2 μ2 α2 ∧ Iv m' ρ2 μ2, fun _ _ q => q, step m ρ2 μ2 iv hz S I0 H0 I3 H3 σ2 α2 _ F3 (fun I' H' σ' ρ' μ' α' F' ⟨m', hm, k⟩ => ⟨m', hm, I', ρ', μ', α', F', k⟩) qr⟩
  | false =>
    rw [if_neg Bool.false_ne_true]
    exact done m ρ2 μ2 iv hz S I0 H0 I3 H3 σ2 α2 D F3 qn qr
/-- more draws may have been made -/
theorem bk_raise {n m : Nat} (hi : μ i = some (.pen n)) (hnm : n ≤ m) (h : Bk X ρ (mu μ i (some (.pen m))) rest N R) : Bk X ρ μ rest N R := fun S I0 H0 I H σ α D F qn qr pins s iv => by
  obtain ⟨hs, ⟨cc, cs, hc, hcs⟩, hn, h0, hS⟩ := F.m i _ hi
  obtain ⟨⟨at', rest', t, u, ep, hob, h1, h2⟩, _, _⟩ := iv.hok _ _ hc
  have i1 : Inv X pins σ (upd H (α i) (.ext (penPhi (α i) cc m))) { s with heap := s.heap, toks := s.toks } := iv.write (x := α i) (e := α i) (h' := s.heap) (t' := s.toks) (by rw [hc]; trivial) (.inl rfl) (fun b v _ q => q) ⟨_, hob⟩
    ⟨⟨at', rest', t, u, ep, hob, h1, by omega⟩, ⟨_, hob⟩, fun h1 h2 ⟨a1, a2, a3, a4, a5, q, r⟩ k => ⟨a1, a2, a3, a4, a5, k _ q, r⟩⟩
  exact h S I0 H0 I _ σ α D (F.put hi (md' := .pen m) ⟨cc, cs, upd_same, hcs⟩ rfl) qn qr pins _ i1
/-- the state of draws, opened -/
theorem bk_open {n : Nat} (hi : μ i = some (.pen n)) (h : ∀ (cs : List Int) (at' rs : Int), 0 ≤ at' → at' ≤ n → Bk X ρ (mu μ i (some (.opn [.list (cs.map .int), .int at', .int rs]))) rest N R) : Bk X ρ μ rest N R := fun S I0 H0 I H σ α D F qn qr pins s iv => by
  obtain ⟨hs, ⟨cc, cs, hc, hcs⟩, hn, h0, hS⟩ := F.m i _ hi
  obtain ⟨⟨at', rest', t, u, ep, hob, h1, h2⟩, _, _⟩ := iv.hok _ _ hc
  have i1 : Inv X pins σ (upd H (α i) (.lst [.ref cc, .int at', .int rest'])) { s with heap := s.heap, toks := s.toks } := iv.write (x := α i) (e := α i) (h' := s.heap) (t' := s.toks) (by rw [hc]; trivial) (.inl rfl) (fun b v _ q => q) ⟨_, hob⟩
    ⟨by show 3 ≤ sizeLine; decide, [.ref cc, .int at' t, .int rest' u], ep, .cons rfl (.cons ⟨t, rfl⟩ (.cons ⟨u, rfl⟩ .nil)), hob⟩
  exact h cs at' rest' h1 h2 S I0 H0 I _ σ α D (F.put hi (md' := .opn [.list (cs.map .int), .int at', .int rest']) ⟨_, upd_same, .cons (.lst hcs (rpAll_ints cs)) (.cons (.int _) (.cons (.int _) .nil))⟩ rfl) qn qr pins _ i1
/-- .. and closed -/
theorem bk_close {n : Nat} {cs : List Int} {at' rs : Int} (hi : μ i = some (.opn [.list (cs.map .int), .int at', .int rs])) (h1 : 0 ≤ at') (h2 : at' ≤ n) (h : Bk X ρ (mu μ i (some (.pen n))) rest N R) : Bk X ρ μ rest N R := fun S I0 H0 I H σ α D F qn qr pins s iv => by
  obtain ⟨hs, ⟨xs, hx, hr⟩, hn, h0, hS⟩ := F.m i _ hi
  obtain ⟨_, its, ep, rv, hob⟩ := iv.hok _ _ hx
  cases hr with
  | cons r1 hr =>
    cases hr with
    | cons r2 hr =>
      cases hr with
      | cons r3 hr =>
        cases hr
        cases r2
        cases r3
        cases r1 with
        | lst hc hcr =>
          rw [hcr.ints] at hc
          cases rv with
          | cons v1 rv =>
            cases rv with
            | cons v2 rv =>
              cases rv with
              | cons v3 rv =>
                cases rv
                cases v1
                obtain ⟨t, rfl⟩ := v2
                obtain ⟨u, rfl⟩ := v3
                have i1 := iv.write (x := α i) (e := α i) (h' := s.heap) (t' := s.toks) (o := .ext (penPhi (α i) _ n)) (by rw [hx]; trivial) (.inl rfl) (fun b v _ q => q) ⟨_, hob⟩
                  ⟨⟨at', rs, t, u, ep, hob, h1, h2⟩, ⟨_, hob⟩, fun h1 h2 ⟨a1, a2, a3, a4, a5, q, r⟩ k => ⟨a1, a2, a3, a4, a5, k _ q, r⟩⟩
                exact h S I0 H0 I _ σ α D (F.put hi (md' := .pen n) ⟨_, cs, upd_same, hc⟩ rfl) qn qr pins _ i1
end

/-! ### slots forgotten -/
inductive LeR : Ro → Ro → Prop
  | nil : LeR [] []
  | keep {x a b} : LeR a b → LeR (x :: a) (x :: b)
  | drop {x a b} : LeR a b → LeR (none :: a) (x :: b)
theorem LeR.len : ∀ {a b}, LeR a b → a.length = b.length
  | _, _, .nil => rfl
  | _, _, .keep h => congrArg (· + 1) h.len
  | _, _, .drop h => congrArg (· + 1) h.len
theorem LeR.at' : ∀ {a b} {i : Nat} {d : PyData}, LeR a b → a[i]? = some (some d) → b[i]? = some (some d)
  | _, _, _, _, .nil, e => e
  | _, _, 0, _, .keep h, e => e
  | _, _, i + 1, _, .keep h, e => LeR.at' (i := i) h e
  | _, _, 0, _, .drop h, e => by simp at e
  | _, _, i + 1, _, .drop h, e => LeR.at' (i := i) h e
theorem bk_forget {X : Cx} {ρ ρ' : Ro} {μ : Mo} {rest : List Stmt} {N : Ro → Mo → Prop} {R : PyData → Mo → Prop} (h : LeR ρ' ρ) (k : Bk X ρ' μ rest N R) : Bk X ρ μ rest N R := bk_less h.len (fun _ _ e => h.at' e) (fun _ _ e => e) k

/-! ### defs -/
theorem vs_cons {I : Hp} {σ : L2.St} {ρ : Ro} {x : Option V} (h : VS I σ ρ) : VS I (x :: σ) (none :: ρ) := by
  refine ⟨by rw [List.length_cons, List.length_cons, h.len], fun i d q => ?_⟩
  cases i with
  | zero => simp at q
  | succ i =>
    obtain ⟨v, a, b⟩ := h.at' i d (by simpa using q)
    exact ⟨v, by simpa using a, b⟩
section
variable {P : Program} {w : World} {K : PySem.W.Frag} {mg : Str → Option Value} {base : Heap} {x : Str} {st : Stmt} {N ps : List Str} {k : Nat} {R : List PyData → PyData → Prop} {Pre : List PyData → Prop} {cost : Nat}
theorem fn_blk (D : Dfn K mg x st) (S : FnScope N ps (defScope st)) (len : ∀ ds d, R ds d → ds.length = ps.length)
    (hb : ∀ (kV doc pm : Value) (an : Option Addr) (cdv ct : Value) (us : List Value), us.length = ps.length → bindArgs (PySem.W.fnOf x x (defArgs st) (defBody st) (defScope st) .none kV doc pm an cdv ct) ⟨us, []⟩ = pure (ps.zip us))
    (body : ∀ (f : Addr) (cdv : Value) (A : Around) (outer : List Env) (s : Shared) (H : Hp) (E : XK), Room k (A.deeper (envOfC x (defScope st) s.heap.objs.size f cdv)) → ∀ ds d, R ds d →
      Bk (cxB P w K mg base N x st f cdv A outer s H E) (ds.map some ++ List.replicate (N.length - ds.length) none) (fun _ => none) (defBody st) (fun _ _ => False) (fun d' _ => d' = d)) : Fn P w K mg base x (k + 1) ps (spP R) := by
  refine fn_mk D S (fun vs H Q E h => ?_) hb fun f cdv A outer s H E hr vs Q h => ?_
  · obtain ⟨I, ds, d, _, r, hR, _⟩ := h
    rw [r.length]
    exact len ds d hR
  · obtain ⟨I, ds, d, hx, r, hR, q⟩ := h
    have F : Fr (fun _ => False) I H I H (L2.start N vs) (ds.map some ++ List.replicate (N.length - ds.length) none) (fun _ => none) (fun _ => 0) := by
      refine ⟨Nx.refl hx, ?_, fun i md e => (nomatch e), fun i j e => absurd rfl e⟩
      unfold L2.start
      rw [r.length]
      exact vs_start _ r
    refine body f cdv A outer s H E hr ds d hR _ I H I H _ _ _ F (fun _ _ _ _ _ _ _ z => z.elim) fun v d' I' H' σ' ρ' μ' α' F' r' e => ?_
    subst e
    exact q v I' H' ⟨F'.x.i, F'.x.j, fun a o z => F'.x.h a o id z, F'.x.k⟩ r'
/-- .. that may end without a return -/
theorem fn_blkN (D : Dfn K mg x st) (S : FnScope N ps (defScope st)) (len : ∀ ds d, R ds d → ds.length = ps.length)
    (hb : ∀ (kV doc pm : Value) (an : Option Addr) (cdv ct : Value) (us : List Value), us.length = ps.length → bindArgs (PySem.W.fnOf x x (defArgs st) (defBody st) (defScope st) .none kV doc pm an cdv ct) ⟨us, []⟩ = pure (ps.zip us))
    (body : ∀ (f : Addr) (cdv : Value) (A : Around) (outer : List Env) (s : Shared) (H : Hp) (E : XK), Room k (A.deeper (envOfC x (defScope st) s.heap.objs.size f cdv)) → ∀ ds d, R ds d →
      Bk (cxB P w K mg base N x st f cdv A outer s H E) (ds.map some ++ List.replicate (N.length - ds.length) none) (fun _ => none) (defBody st) (fun _ _ => d = .none) (fun d' _ => d' = d)) : Fn P w K mg base x (k + 1) ps (spP R) := by
  refine fn_mk D S (fun vs H Q E h => ?_) hb fun f cdv A outer s H E hr vs Q h => ?_
  · obtain ⟨I, ds, d, _, r, hR, _⟩ := h
    rw [r.length]
    exact len ds d hR
  · obtain ⟨I, ds, d, hx, r, hR, q⟩ := h
    have F : Fr (fun _ => False) I H I H (L2.start N vs) (ds.map some ++ List.replicate (N.length - ds.length) none) (fun _ => none) (fun _ => 0) := by
      refine ⟨Nx.refl hx, ?_, fun i md e => (nomatch e), fun i j e => absurd rfl e⟩
      unfold L2.start
      rw [r.length]
      exact vs_start _ r
    refine body f cdv A outer s H E hr ds d hR _ I H I H _ _ _ F (fun I' H' σ' ρ' μ' α' F' e => ?_) fun v d' I' H' σ' ρ' μ' α' F' r' e => ?_
    · subst e
      exact q .non I' H' ⟨F'.x.i, F'.x.j, fun a o z => F'.x.h a o id z, F'.x.k⟩ .non
    · subst e
      exact q v I' H' ⟨F'.x.i, F'.x.j, fun a o z => F'.x.h a o id z, F'.x.k⟩ r'
theorem fn_draw (D : Dfn K mg x st) (S : FnScope N ps (defScope st)) (len : ∀ ds, Pre ds → ds.length + 1 = ps.length)
    (hb : ∀ (kV doc pm : Value) (an : Option Addr) (cdv ct : Value) (us : List Value), us.length = ps.length → bindArgs (PySem.W.fnOf x x (defArgs st) (defBody st) (defScope st) .none kV doc pm an cdv ct) ⟨us, []⟩ = pure (ps.zip us))
    (body : ∀ (f : Addr) (cdv : Value) (A : Around) (outer : List Env) (s : Shared) (H : Hp) (E : XK), Room k (A.deeper (envOfC x (defScope st) s.heap.objs.size f cdv)) → ∀ ds n, Pre ds → n + cost ≤ penMax →
      Bk (cxB P w K mg base N x st f cdv A outer s H E) (none :: (ds.map some ++ List.replicate (N.length - (ds.length + 1)) none)) (fun j => if j = 0 then some (.pen n) else none) (defBody st) (fun _ _ => False) (fun d μ' => R ds d ∧ μ' 0 = some (.pen (n + cost)))) :
    Fn P w K mg base x (k + 1) ps (spD cost Pre R) := by
  refine fn_mk D S (fun vs H Q E h => ?_) hb fun f cdv A outer s H E hr vs Q h => ?_
  · obtain ⟨I, pa, us, ds, n, rfl, _, _, _, _, r, hp, _⟩ := h
    rw [List.length_cons, r.length]
    exact len ds hp
  · obtain ⟨I, pa, us, ds, n, rfl, hx, hm, hi, hb, r, hp, q⟩ := h
    have F : Fr (fun a => a = pa) I H I H (L2.start N (.ref pa :: us)) (none :: (ds.map some ++ List.replicate (N.length - (ds.length + 1)) none)) (fun j => if j = 0 then some (.pen n) else none) (fun _ => pa) := by
      refine ⟨Nx.refl hx, ?_, fun i md e => ?_, fun i j a b _ => ?_⟩
      · unfold L2.start
        rw [List.map_cons, List.cons_append, List.length_cons, r.length]
        exact vs_cons (vs_start _ r)
      · by_cases h0 : i = 0
        · subst h0
          rw [if_pos rfl] at e
          cases e
          exact ⟨rfl, hm, hi, fun z => (nomatch z), fun _ => rfl⟩
        · rw [if_neg h0] at e
          cases e
      · by_cases h0 : i = 0
        · by_cases h1 : j = 0
          · rw [h0, h1]
          · exact absurd (if_neg h1) b
        · exact absurd (if_neg h0) a
    refine body f cdv A outer s H E hr ds n hp hb _ I H I H _ _ _ F (fun _ _ _ _ _ _ _ z => z.elim) fun v d' I' H' σ' ρ' μ' α' F' r' e => ?_
    obtain ⟨hR, h0⟩ := e
    obtain ⟨_, m1, m2, _, m4⟩ := F'.m 0 _ h0
    have e0 : α' 0 = pa := m4 rfl
    rw [e0] at m1 m2
    exact q v d' I' H' F'.x m1 m2 r' hR
end

/-! ### comprehensions that draw -/
inductive AllR (Q : PyData → PyData → Prop) : List PyData → List PyData → Prop
  | nil : AllR Q [] []
  | cons {d e ds es} : Q d e → AllR Q ds es → AllR Q (d :: ds) (e :: es)
theorem AllR.snoc {Q : PyData → PyData → Prop} {d e : PyData} (h : Q d e) : ∀ {ds es : List PyData}, AllR Q ds es → AllR Q (ds ++ [d]) (es ++ [e])
  | _, _, .nil => .cons h .nil
  | _, _, .cons a b => .cons a (b.snoc h)
theorem AllR.length {Q : PyData → PyData → Prop} : ∀ {ds es : List PyData}, AllR Q ds es → es.length = ds.length
  | _, _, .nil => rfl
  | _, _, .cons a b => congrArg (· + 1) b.length
section
variable {X : Cx} {ρ : Ro} {μ : Mo} {tg iter elt : Expr} {ds : List PyData} {scope : Scope} {own : List (Str × Nat)} {pos : Pos} {g : TG} {ρ' : PyData → Ro} {Rel : PyData → PyData → Prop} {n cost pn : Nat}
def Efb (X : Cx) (sc : Scope) (ρ : Ro) (μ : Mo) (e : Expr) (R : PyData → Prop) (μ' : Mo) : Prop := ∀ (s : Shared) (H0 : Hp) (C : Addr) (cl : List (Str × Addr)) (fp : List Addr), Ef (X.blk s H0 sc (compEnvC sc cl C X.env) fp) ρ μ e R μ'
def penMo (pn n : Nat) : Mo := fun j => if j = pn then some (.pen n) else none
theorem penMo_same : penMo pn n pn = some (.pen n) := if_pos rfl
theorem penMo_mu {m : Nat} : mu (penMo pn n) pn (some (.pen m)) = penMo pn m := by
  funext j
  unfold mu penMo
  by_cases h : j = pn
  · rw [if_pos h, if_pos h]
  · rw [if_neg h, if_neg h, if_neg h]
theorem fr_pen {I H : Hp} {σ : L2.St} {a : Addr} (hx : Ex I H) (v : VS I σ ρ) (hs : σ[pn]? = some (some (.ref a))) (hm : MdAt I H a (.pen n)) (hi : I a = none) : Fr (fun b => b = a) I H I H σ ρ (penMo pn n) (fun _ => a) := by
  refine ⟨Nx.refl hx, v, fun i md e => ?_, fun i j p q _ => ?_⟩
  · unfold penMo at e
    by_cases h : i = pn
    · subst h
      rw [if_pos rfl] at e
      cases e
      exact ⟨hs, hm, hi, fun z => (nomatch z), fun _ => rfl⟩
    · rw [if_neg h] at e
      cases e
  · unfold penMo at p q
    by_cases h : i = pn
    · by_cases h' : j = pn
      · rw [h, h']
      · rw [if_neg h'] at q
        exact absurd rfl q
    · rw [if_neg h] at p
      exact absurd rfl p
/-- [elt for ..], each elt draws cost times; nothing else of the frame may change -/
theorem ef_lc (hc : X.calm = true) (hN : X.N.Nodup) (ok : BlkOk X.N X.env.scope scope own) (hg : PGb X scope tg g) (it : IT X ρ tg iter ds)
    (gt : ∀ d, d ∈ ds → Gt g (own.map (·.2)) (wipeR ρ (own.map (·.2))) d (ρ' d)) (hpn : pn ∉ own.map (·.2)) (he : ∀ d m, d ∈ ds → m + cost ≤ n + ds.length * cost → Efb X scope (ρ' d) (penMo pn m) elt (Rel d) (penMo pn (m + cost))) (hl : ds.length < 100000)
    (hs : ∀ x, foldedSetIterable iter X.env x = pure x := by intro _; rfl) : Ef X ρ (penMo pn n) (.ListComp elt [⟨tg, iter, [], 0⟩] scope pos) (fun d => ∃ es, d = .list es ∧ AllR Rel ds es) (penMo pn (n + ds.length * cost)) := fun S I0 H0 I H σ α F Q k => by
  refine we_of (pe_lc (wi := WI X tg iter) (g := g) (tt := tYes) (te := WEb X scope elt) hc hN pi_wi ok hg (fun s H C cl fp => pts_nil) (fun s H C cl fp => ⟨fun pins s' σ H' Q I h => h s H C cl fp pins s' I⟩) hs) ?_
  refine it I σ H F.e F.v _ fun J I1 H1 n1 ok1 D hD => ?_
  have F1 := F.step n1
  obtain ⟨hsl, hm1, hi1, _, _⟩ := F1.m pn _ penMo_same
  have hD0 : I1 D = none := fresh_back n1.j hD
  have hDp : D ≠ α pn := fun z => by
    obtain ⟨c, cs, e, _⟩ := hm1
    rw [← z, hD] at e
    cases e
  have hsw : (L2.wipe σ (own.map (·.2)))[pn]? = some (some (.ref (α pn))) := by
    rw [wipe_get, if_neg fun z => hpn z.1]
    exact hsl
  refine ⟨fun i m H' => m = ds.length - i ∧ i ≤ ds.length ∧ ∃ I2 acc es, Nx (fun b => b = α pn) I1 H1 I2 H' ∧ MdAt I2 H' (α pn) (.pen (n + i * cost)) ∧ I2 (α pn) = none ∧ I2 D = none ∧ H' D = some (.lst acc) ∧ RpAll I2 acc es ∧ AllR Rel (ds.take i) es, ⟨ds.length, rfl, Nat.zero_le _, I1, [], [], ?_⟩, ?_⟩
  · refine ⟨(Nw.own (o := .lst []) n1.j hD).nx, ?_, hi1, hD0, upd_same, .nil, .nil⟩
    rw [Nat.zero_mul]
    exact (hm1.keep hi1 (Nw.own (o := .lst []) n1.j hD)).1
  · rintro i m H2 ⟨rfl, hi, I2, acc, es, x2, m2, z2, d2, a2, r2, q2⟩
    by_cases hlt : i < ds.length
    · refine .inr ⟨ok1.go i I2 H2 x2.i x2.j trivial hlt, fun H' => ∃ I2 acc es, Nx (fun b => b = α pn) I1 H1 I2 H' ∧ MdAt I2 H' (α pn) (.pen (n + (i + 1) * cost)) ∧ I2 (α pn) = none ∧ I2 D = none ∧ H' D = some (.lst acc) ∧ RpAll I2 acc es ∧ AllR Rel (ds.take (i + 1)) es,
        fun H' p' => ⟨ds.length - (i + 1), by omega, rfl, hlt, p'⟩, fun x H3 y => ?_⟩
      obtain ⟨I3, d, n3, hd, rd⟩ := ok1.yld i I2 H2 x H3 x2.i x2.j trivial hlt y
      have hmem : d ∈ ds := List.mem_of_getElem? hd
      refine (gt d hmem).run I3 (L2.wipe σ (own.map (·.2))) H3 x n3.j (((F.v.up n1.i).up (x2.i.trans n3.i)).wipe _) rd _ ?_
      intro σ2 vs2 ag hl2
      refine ⟨wipe_same ag hl2, ?_⟩
      have D3 := n3.keep a2 d2
      have P3 := m2.keep z2 n3
      unfold tYes
      dsimp only
      rw [if_pos rfl]
      intro s0 H0' C cl fp
      have hle : n + i * cost + cost ≤ n + ds.length * cost := by
        have : (i + 1) * cost ≤ ds.length * cost := Nat.mul_le_mul_right _ hlt
        rw [Nat.succ_mul] at this
        omega
      have G := fr_pen (ρ := ρ' d) (pn := pn) n3.j vs2 (by rw [ag pn hpn]; exact hsw) P3.1 P3.2
      refine he d (n + i * cost) hmem hle s0 H0' C cl fp _ I3 H3 I3 H3 σ2 _ G _ fun v5 e5 I5 H5 G5 x5 r5 rel5 => ?_
      have D5h : H5 D = some (.lst acc) := G5.x.h D _ hDp D3.1
      have D5i : I5 D = none := G5.x.k D D3.2 ⟨_, D3.1, by intro _ w; cases w⟩
      obtain ⟨_, p5, i5, _, _⟩ := G5.m pn _ penMo_same
      have hlen : acc.length < sizeLine := by
        rw [r2.length, q2.length, List.length_take]
        exact sz_lt (by omega)
      refine ⟨acc, D5h, hlen, I5, acc ++ [v5], es ++ [e5], ?_, ?_, i5, D5i, upd_same, (r2.up (n3.i.trans x5)).snoc r5, ?_⟩
      · have x35 := (x2.trans n3.nx).trans G5.x
        refine ⟨x35.i, ex_mut x35.j D5i, fun a o ns e => ?_, fun a e => ?_, fun a e => ?_, x35.k⟩
        · have ha : a ≠ D := fun w => by rw [w, hD] at e; cases e
          rw [upd_ne ha]
          exact x35.h a o ns e
        · have ha : a ≠ D := fun w => e (by rw [w]; exact hD)
          rw [upd_ne ha]
          exact x35.s a e
        · have ha : a ≠ D := e.ne hD
          obtain ⟨o, w, t⟩ := x35.t a e
          exact ⟨o, by rw [upd_ne ha]; exact w, t⟩
      · obtain ⟨c, cs, u, w⟩ := p5
        rw [Nat.succ_mul, ← Nat.add_assoc]
        exact ⟨c, cs, by rw [upd_ne hDp.symm]; exact u, w⟩
      · rw [List.take_add_one, hd]
        exact q2.snoc rel5
    · have e : i = ds.length := by omega
      subst e
      rw [List.take_length] at q2
      have nw : Nx (fun b => b = α pn) I1 H1 (upd I2 D (.lst acc)) H2 := by
        refine ⟨x2.i.trans (Ex.new d2), fun a o q => ?_, x2.h, x2.s, x2.t, fun a e z => ?_⟩
        · by_cases h : a = D
          · subst h; rw [upd_same] at q; rw [a2]; exact q
          · rw [upd_ne h] at q; exact x2.j a o q
        · rw [upd_ne (z.ne hD)]
          exact x2.k a e z
      refine .inl ⟨ok1.stop I2 H2 x2.i x2.j trivial, ?_⟩
      have F2 := F1.drawn (m := n + ds.length * cost) penMo_same nw ?_ (by rw [upd_ne hDp.symm]; exact z2)
      · rw [penMo_mu] at F2
        exact k _ _ _ H2 F2 (n1.i.trans nw.i) (.lst upd_same (r2.up (Ex.new d2))) ⟨es, rfl, q2⟩
      · obtain ⟨c, cs, u, w⟩ := m2
        exact ⟨c, cs, u, Ex.new d2 _ _ w⟩
end
end R1

set_option Elab.async false
set_option linter.all false
set_option maxRecDepth 100000
set_option maxHeartbeats 4000000
/-! CoreP: dict of pairs, {k: v}, sum of a tuple: rows of whole numbers as keys. -/
namespace R1
open PySem PySem.Spec PyProof.Rows L2 Evl

def kvAll (kvs : List (List Int × PyData)) : List (List Int × PyData) := kvs.foldl (fun acc q => kvPut acc q.1 q.2) []
section
variable {X : Cx} {pins : List (Addr × Obj)} {s : Shared} {σ : L2.St} {I H : Hp}
theorem putAll_rp : ∀ {ws kvs acc acc'}, RpKv I acc acc' → RpKv I ws kvs → RpKv I (ws.foldl (fun a q => putK a q.1 q.2) acc) (kvs.foldl (fun a q => kvPut a q.1 q.2) acc')
  | _, _, _, _, h, .nil => h
  | _, _, _, _, h, .cons (p := p) r t => by
    have z := putAll_rp (h.put (p := p) r) t
    exact z
theorem putAll_kt : ∀ {ws : List (List L2.Key × V)} {ps : List (List L2.Key × Addr × Value)} {acc acc'}, KT H acc acc' → KT H ws ps → KT H (ws.foldl (fun a q => putK a q.1 q.2) acc) (storedAllH acc' ps)
  | [], _, _, _, h, .nil => h
  | (k, v) :: ws, (k', b, u) :: ps, _, _, h, .cons e t => by
    obtain ⟨e1, e2, e3⟩ := e
    have e1 : k = k' := e1
    subst e1
    have z := putAll_kt (h.put k e2 e3) t
    exact z
theorem putAll_len : ∀ (ws acc : List (List L2.Key × V)), (ws.foldl (fun a q => putK a q.1 q.2) acc).length ≤ acc.length + ws.length
  | [], acc => Nat.le_refl _
  | q :: ws, acc => by
    have h1 := putAll_len ws (putK acc q.1 q.2)
    have h2 := length_putK acc q.1 q.2
    show (ws.foldl (fun a q => putK a q.1 q.2) (putK acc q.1 q.2)).length ≤ _
    rw [List.length_cons]
    omega
/-- pairs of the heap -/
theorem pairs_at (i : Inv X pins σ H s) (hx : Ex I H) : ∀ {xs : List V} {its : List Value} {kvs : List (List Int × PyData)}, Vals xs its → RpAll I xs (kvs.map fun q => .tuple [pwD q.1, q.2]) →
    ∃ (Ts : List Addr) (ps : List (List L2.Key × Addr × Value)) (ws : List (List L2.Key × V)), its = Ts.map Value.ref ∧ Ts.length = kvs.length ∧ ps.length = kvs.length ∧ KT H ws ps ∧ RpKv I ws kvs ∧
      ∀ (j : Nat) (k : List L2.Key) (b : Addr) (v : Value), ps[j]? = some (k, b, v) → ∃ T, Ts[j]? = some T ∧ s.heap.IsTuple T #[.ref b, v]
  | [], [], [], .nil, .nil => ⟨[], [], [], rfl, rfl, rfl, .nil, .nil, fun j k b v e => by simp at e⟩
  | x :: xs, u :: its, (p, d) :: kvs, .cons a as, .cons r rs => by
    obtain ⟨Ts, ps, ws, e1, e2, e3, e4, e5, e6⟩ := pairs_at i hx as rs
    cases r with
    | tup ht hr =>
      cases a
      cases hr with
      | cons rk hr =>
        cases hr with
        | cons rd hr =>
          cases hr
          obtain ⟨b, rfl, hb⟩ := rk.tupI
          obtain ⟨_, its2, rv2, it2⟩ := i.hok _ _ (hx _ _ ht)
          cases rv2 with
          | cons v1 rv2 =>
            cases rv2 with
            | cons v2 rv2 =>
              cases rv2
              cases v1
              refine ⟨_ :: Ts, (keyP p, b, _) :: ps, (keyP p, _) :: ws, by rw [e1]; rfl, by rw [List.length_cons, List.length_cons, e2], by rw [List.length_cons, List.length_cons, e3], .cons ⟨rfl, ?_, v2⟩ e4, .cons rd e5, fun j k c v e => ?_⟩
              · show H b = some (.tup ((keyP p).map kV))
                rw [keyP_kV]
                exact hx _ _ hb
              · cases j with
                | zero =>
                  simp at e
                  obtain ⟨rfl, rfl, rfl⟩ := e
                  exact ⟨_, rfl, it2⟩
                | succ j =>
                  obtain ⟨T, q1, q2⟩ := e6 j k c v (by simpa using e)
                  exact ⟨T, by simpa using q1, q2⟩
def rDictOf (K : PySem.W.Frag) : List V → Hp → VK → Prop := fun vs H Q => ∃ (l : Addr) (xs : List V) (I : Hp) (kvs : List (List Int × PyData)), vs = [V.ref l] ∧ SqL K H l xs ∧ Ex I H ∧ RpAll I xs (kvs.map fun q => .tuple [pwD q.1, q.2]) ∧
  ∀ (p : Addr) (ob : Obj) (ws : List (List L2.Key × V)), RpKv I ws (kvAll kvs) → H p = none → Q (.ref p) (upd H p (.frz ob (.dT ws)))
theorem cr_dictOf (hu : X.A.units + 64 < cLine) (hc : X.calm = true) : CallR X (.type "dict") (rDictOf X.K) := by
  intro pins s σ H vs us Q i r h
  obtain ⟨l, xs, I0, kvs, rfl, hs, hx, hr, q⟩ := h
  obtain rfl := Vals.ref1 r
  obtain ⟨its, rv, hl, hz⟩ := i.list hs
  obtain ⟨Ts, ps, ws, rfl, e2, e3, e4, e5, e6⟩ := pairs_at i hx rv hr
  have hlen : (Ts.map Value.ref).length = kvs.length := by rw [List.length_map, e2]
  have hz' : kvs.length ≤ sizeLine := by rw [← hlen, ← rv.length]; exact hz
  obtain ⟨o, n, ho, hcl, hd, hdat⟩ := hl
  have hkey : ∀ x ∈ ps, H x.2.1 = some (.tup (x.1.map kV)) := by
    have : ∀ {ws : List (List L2.Key × V)} {ps : List (List L2.Key × Addr × Value)}, KT H ws ps → ∀ x ∈ ps, H x.2.1 = some (.tup (x.1.map kV)) := by
      intro ws ps h
      induction h with
      | nil => intro x hx; exact nomatch hx
      | cons h t ih =>
        intro x hx
        rcases List.mem_cons.mp hx with rfl | hx
        · obtain ⟨a, b, c⟩ := h
          rw [← a]; exact b
        · exact ih x hx
    exact this e4
  refine call_dict_pairsH (knd := tupleKind (mixKind X.prog X.w)) (ps := ps) (s := s) (PairArg.list l (Ts.map Value.ref).toArray (fun j => Ts.getD j 0) (ps.map fun x => (.ref x.2.1, x.2.2))) (i.ok.hd hc) (tupleKind_room_in1 (A := X.A.in1) (by show X.A.units + 1 + 1 < cLine; omega))
    ⟨⟨o, n, ho, hcl, hd, hdat⟩, ⟨?_, fun j k v e => ?_⟩⟩ ⟨by rw [List.length_map], fun j key v e => ?_⟩ (fun h' hk x hxm => ?_) (by rw [List.length_map, e3]; exact hz') fun h' tk hd' keep => ?_
  · rw [List.size_toArray, hlen, List.length_map, e3]
  · rw [List.getElem?_map] at e
    cases q : ps[j]? with
    | none => rw [q] at e; simp at e
    | some x =>
      rw [q] at e
      obtain ⟨k', b, v'⟩ := x
      simp at e
      obtain ⟨rfl, rfl⟩ := e
      obtain ⟨T, t1, t2⟩ := e6 j k' b v' q
      have hg : Ts.getD j 0 = T := by rw [List.getD_eq_getElem?_getD, t1]; rfl
      show (List.map Value.ref Ts).toArray[j]? = some (Value.ref (Ts.getD j 0)) ∧ PairAt s.heap (Ts.getD j 0) (Value.ref b) v'
      rw [hg]
      refine ⟨?_, .inl t2⟩
      rw [List.getElem?_toArray, List.getElem?_map, t1]
      rfl
  · have e : (ps.map fun x => ((Value.ref x.2.1, x.2.2) : Value × Value))[j]? = some (key, v) := e
    rw [List.getElem?_map] at e
    cases q : ps[j]? with
    | none => rw [q] at e; simp at e
    | some x =>
      rw [q] at e
      obtain ⟨k', b, v'⟩ := x
      simp at e
      obtain ⟨rfl, rfl⟩ := e
      exact ⟨k', b, rfl, rfl⟩
  · refine key_of (h := h') (i.hok.kept fun b u e => hk b u (Nat.ne_of_lt (Heap.lt_size e)) (by simp) e) (hkey x hxm)
  · obtain ⟨o', es, ep, h1, h2, h3, h4, _, h5⟩ := hd'
    have hp := i.hok.fresh (Nat.le_refl s.heap.objs.size)
    have hm : (s.heap.objs.size == sysModules) = false := beq_eq_false_iff_ne.mpr (Nat.ne_of_gt i.big)
    refine ⟨.ref s.heap.objs.size, upd H s.heap.objs.size (.frz o' (.dT (ws.foldl (fun a q => putK a q.1 q.2) []))), i.laid (t' := tk) (fun b u e => keep b u (by simp) e) (Nat.le_refl _) ⟨h1, ?_, hm, storedAllH [] ps, ?_, o', es, ep, h1, h2, h3, h4, h5⟩, rfl, q _ _ _ (putAll_rp .nil e5) hp⟩
    · have := putAll_len ws []
      rw [List.length_nil, Nat.zero_add, e5.length] at this
      exact Nat.le_trans this hz'
    · have k := putAll_kt (H := H) (acc := []) (acc' := []) .nil e4
      exact KT.keeps k fun b ys e => by
        have hb : b ≠ s.heap.objs.size := fun z => by rw [z, hp] at e; cases e
        rw [upd_ne hb]
        exact e
end
section
variable {X : Cx} {ρ : Ro} {a e : Expr} {kvs : List (List Int × PyData)} {pos p : Pos} {d : PyData} {ns : List Int}
/-- dict([(row, value), ..]) -/
theorem e_dictOf (hu : X.A.units + 64 < cLine) (hc : X.calm = true) (hg : Gl X "dict") (hm : X.mg "dict" = none) (ha : E X ρ a (.list (kvs.map fun q => .tuple [pwD q.1, q.2]))) (hs : starEach [a] X.env = [(false, eval a X.env)] := by rfl) :
    E X ρ (.Call (.Name "dict" p) [a] [] pos) (kvD (kvAll kvs)) :=
  e_ct1 (cr_dictOf hu hc) hg hm (by decide +kernel) ha (fun I H v hx r Q q => by
    cases r with
    | lst ea ra =>
      exact ⟨_, _, I, kvs, rfl, SqL.of (hx _ _ ea), hx, ra, fun p ob ws rw hp => q _ _ _ (Nw.new hx hp) (.dct upd_same (rw.up (Nw.new (o := .frz ob (.dT ws)) hx hp).i).ps)⟩) (by decide) (by decide) hs
def rSumT : List V → Hp → VK → Prop := fun vs H Q => ∃ (a : Addr) (ns : List Int), vs = [V.ref a] ∧ H a = some (.tup (ns.map V.int)) ∧ Q (.int ns.sum) H
theorem cr_sumT (hc : X.calm = true) : CallR X (.builtin "sum") rSumT := by
  intro pins s σ H vs us Q i r h
  obtain ⟨a, ns, rfl, ha, q⟩ := h
  obtain rfl := Vals.ref1 r
  obtain ⟨_, its, rv, it⟩ := i.hok _ _ ha
  have hi : IntsAre its ns := Vals.ints rv
  obtain ⟨xs, e⟩ := hi.allInts.items
  have hn : numsOf (intItems xs).toList = ns := by rw [← e]; exact hi.numsOf
  rw [nums_intItems] at hn
  rw [e] at it
  refine PySem.W.ktm_sumG (i.ok.hd hc) it fun h' tk t' hk => ?_
  refine ⟨.int ns.sum, H, i.kept hk, ⟨t', ?_⟩, q⟩
  rw [preSum_eq, List.take_of_length_le (by simp), hn]
/-- sum of a row of whole numbers -/
theorem e_sumT (hc : X.calm = true) (hg : Gl X "sum") (hm : X.mg "sum" = none) (ha : E X ρ a (pwD ns)) (hs : starEach [a] X.env = [(false, eval a X.env)] := by rfl) : E X ρ (.Call (.Name "sum" p) [a] [] pos) (.int ns.sum) :=
  e_cb1 (cr_sumT hc) hg hm (by decide +kernel) ha (fun I H v hx r Q q => by
    obtain ⟨b, rfl, hb⟩ := r.tupI
    exact ⟨b, ns, rfl, hx _ _ hb, q _ I H (.refl hx) (.int _)⟩) (by decide) (by decide) hs
end
end R1

set_option Elab.async false
set_option linter.all false
set_option maxRecDepth 100000
set_option maxHeartbeats 4000000
/-! CoreQ: sum of lists, behind a list. -/
namespace R1
open PySem PySem.Spec PyProof.Rows L2 Evl

section
variable {prog : Program} {w : World} {A : Around} {R : Result → Shared → Prop} {I l : Addr} {items : Array Value} {vals : List (List Value)} {start : Addr}
abbrev lobj (xs : List Value) (n : Nat) : Obj := { cls := .type "list", data := .seq xs.toArray n }
/-- where the sum so far lies -/
def SumAt (h0 h : Heap) (start T : Addr) (i : Nat) (xs : List Value) : Prop := (∃ n, h.get? T = some (lobj xs n)) ∧ ((i = 0 ∧ T = start) ∨ h0.objs.size ≤ T)
theorem sumL_loop (hh : A.in1.handled = none) (hne : l ≠ I) {h0 : Heap} (hI : h0.objs.size ≤ I) {S : Addr} (hS0 : h0.objs.size ≤ S) (hSI : S ≠ I) (hlen : items.size = vals.length)
    (hit : ∀ (j : Nat) (x : Value) (vs : List Value), items[j]? = some x → vals[j]? = some vs → ∃ a n, x = .ref a ∧ h0.get? a = some (lobj vs n)) (hl0 : h0.IsList l items) (hz : vals.flatten.length ≤ sizeLine) :
    ∀ (k i : Nat) (s : Shared) (T : Addr) (c : Nat), items.size - i = k → i ≤ items.size → s.heap.IsListIter I l i → (∀ b o, h0.get? b = some o → s.heap.get? b = some o) → s.heap.get? S = some { cls := .type "list", data := .seq #[.ref T] c } → T ≠ S → T ≠ I →
      SumAt h0 s.heap start T i (vals.take i).flatten →
      (∀ h' tk T', SumAt h0 h' start T' items.size vals.flatten → (∀ b o, h0.get? b = some o → h'.get? b = some o) → R (.ok (.ret (.ref T'))) { s with heap := h', toks := tk }) →
      codeAny (model prog w) A (.builtin "sum.loop" ⟨[.ref I, .ref S, rawInt 2, rawInt 0], []⟩) R s := by
  intro k
  induction k with
  | zero =>
    intro i s T c hk hi hit0 keep hS hTS hTI hT hR
    have hin : i = items.size := by omega
    subst hin
    refine codeAny_builtin PySem.F.entry_sum_loop ?_
    rw [Around.under_plainId PySem.F.plain_sum_loop _]
    show wpAny _ A.in1 (seqItems? (.ref S) >>= _) _ _ s
    refine wpAny_bind (wpAny_seqItems hS rfl ?_)
    show wpAny _ A.in1 (tryCatch (pyNext (.ref I)) _ >>= _) _ _ s
    refine wpAny_bind (wpAny_tryCatch ?_)
    refine (Walks.list (prog := prog) (w := w) (A := A.in1) hh I l hne items).done s _ _ ⟨hit0, hl0.at fun o e => keep _ _ e⟩ fun h' tk hk' => ?_
    have hT2 : SumAt h0 s.heap start T items.size vals.flatten := by
      have e : vals.take items.size = vals := by rw [hlen, List.take_length]
      rw [e] at hT
      exact hT
    refine wpAny_pure ?_
    obtain ⟨⟨n, e⟩, q⟩ := hT2
    refine hR h' tk T ⟨⟨n, hk' _ _ (by simpa using hTI) e⟩, q⟩ fun b o e => hk' b o ?_ (keep b o e)
    rw [List.mem_singleton]
    exact Nat.ne_of_lt (Nat.lt_of_lt_of_le (Heap.lt_size e) hI)
  | succ k ih =>
    intro i s T c hk hi hit0 keep hS hTS hTI hT hR
    have hlt : i < items.size := by omega
    refine codeAny_builtin PySem.F.entry_sum_loop ?_
    rw [Around.under_plainId PySem.F.plain_sum_loop _]
    show wpAny _ A.in1 (seqItems? (.ref S) >>= _) _ _ s
    refine wpAny_bind (wpAny_seqItems hS rfl ?_)
    show wpAny _ A.in1 (tryCatch (pyNext (.ref I)) _ >>= _) _ _ s
    refine wpAny_bind (wpAny_tryCatch ?_)
    refine (Walks.list (prog := prog) (w := w) (A := A.in1) hh I l hne items).item i s _ _ hlt ⟨hit0, hl0.at fun o e => keep _ _ e⟩ fun v h' tk hP hst hk' => ?_
    have hv : vals[i]? = some vals[i] := List.getElem?_eq_getElem (by omega)
    obtain ⟨a, na, rfl, ha⟩ := hit i v vals[i] hP hv
    obtain ⟨⟨nT, eT⟩, qT⟩ := hT
    have k0 : ∀ b o, h0.get? b = some o → h'.get? b = some o := fun b o e => hk' b o (by
      rw [List.mem_singleton]
      exact Nat.ne_of_lt (Nat.lt_of_lt_of_le (Heap.lt_size e) hI)) (keep b o e)
    have eT' : h'.get? T = some (lobj (vals.take i).flatten nT) := hk' _ _ (by simpa using hTI) eT
    have eS' := hk' S _ (by simpa using hSI) hS
    have hacc : (vals.take (i + 1)).flatten = (vals.take i).flatten ++ vals[i] := by
      rw [List.take_add_one, hv, List.flatten_append]
      show _ ++ [vals[i]].flatten = _
      rw [List.flatten_cons, List.flatten_nil, List.append_nil]
    have hsz : (vals.take (i + 1)).flatten.length ≤ vals.flatten.length := by
      have e : vals.flatten = (vals.take (i + 1)).flatten ++ (vals.drop (i + 1)).flatten := by rw [← List.flatten_append, List.take_append_drop]
      rw [e, List.length_append]
      omega
    have ha' := k0 _ _ ha
    show wpAny _ A.in1 ((holding [Value.ref a] (binaryOp .Add (.ref T) (.ref a))).attempt >>= _) _ _ _
    refine wpAny_bind (wpAny_attempt (wpAny_holding (PySem.P.add_list (s := { s with heap := h', toks := tk }) eT' ha' ?_ ?_)))
    · have eTl : T < h'.objs.size := Heap.lt_size eT'
      have eSl : S < h'.objs.size := Heap.lt_size eS'
      have hI' : I < h'.objs.size := by obtain ⟨_, e, _⟩ := hst.1; exact Heap.lt_size e
      have e0 : h0.objs.size ≤ h'.objs.size := Nat.le_trans hS0 (Nat.le_of_lt eSl)
      generalize hnew : h'.objs.size = Tn at eTl eSl hI' e0 ⊢
      have eN : (h'.push { cls := .type "list", data := .seq ((vals.take i).flatten.toArray ++ vals[i].toArray) }).get? Tn = some (lobj (vals.take (i + 1)).flatten 0) := by
        rw [← hnew, hacc]
        have : (vals.take i).flatten.toArray ++ vals[i].toArray = ((vals.take i).flatten ++ vals[i]).toArray := by simp
        rw [this]
        exact Heap.get?_push_size _ rfl
      have eS2 := Heap.get?_push_of_some { cls := .type "list", data := .seq ((vals.take i).flatten.toArray ++ vals[i].toArray) } eS'
      show wpAny _ A.in1 (updateSeq S (fun _ => #[.ref Tn]) >>= _) _ _ _
      refine wpAny_bind (wpAny_updateSeq eS2 rfl ?_)
      have eS3 := Heap.get?_update_self (Obj.mapSeq fun _ => #[Value.ref Tn]) eS2 rfl
      refine wpAny_bind (wpAny_letGo ?_)
      refine wpAny_bind (wpAny_updateSeq eS3 rfl (wpAny_pure ⟨plainId_quiet PySem.F.plain_sum_loop _, ?_⟩))
      have oth : ∀ b o, b ≠ S → (h'.push { cls := .type "list", data := .seq ((vals.take i).flatten.toArray ++ vals[i].toArray) }).get? b = some o → (((h'.push { cls := .type "list", data := .seq ((vals.take i).flatten.toArray ++ vals[i].toArray) }).update S (Obj.mapSeq fun _ => #[Value.ref Tn])).update S (Obj.mapSeq fun _ => #[Value.ref Tn])).get? b = some o := fun b o hb e =>
        (Heap.get?_update_other _ _ (Ne.symm hb)).trans ((Heap.get?_update_other _ _ (Ne.symm hb)).trans e)
      refine ih (i + 1) _ Tn _ (by omega) hlt ?_ (fun b o e => ?_) (Heap.get?_update_self _ eS3 rfl) (Nat.ne_of_gt eSl) (Nat.ne_of_gt hI') ⟨⟨0, ?_⟩, .inr e0⟩ fun h3 tk3 T3 q3 k3 => hR h3 tk3 T3 q3 k3
      · exact hst.1.at fun o e => oth _ _ (Ne.symm hSI) (Heap.get?_push_of_some _ e)
      · exact oth b o (Nat.ne_of_lt (Nat.lt_of_lt_of_le (Heap.lt_size e) hS0)) (Heap.get?_push_of_some _ (k0 b o e))
      · exact oth _ _ (Nat.ne_of_gt eSl) eN
    · rw [List.size_toArray, List.size_toArray]
      rw [hacc, List.length_append] at hsz
      omega
end
section
variable {prog : Program} {w : World} {A : Around} {E : Value → Shared → Prop} {s : Shared} {l b : Addr} {items : Array Value} {vals : List (List Value)} {nb : Nat}
theorem args_sum2 (a v : Value) : argsOk "sum" ⟨[a, v], []⟩ := by unfold argsOk; kernel_rfl
theorem call_sumL {Q : Value → Shared → Prop} (hh : A.handled = none) (hl : s.heap.IsList l items) (hb : s.heap.get? b = some (lobj [] nb)) (hlen : items.size = vals.length)
    (hit : ∀ (j : Nat) (x : Value) (vs : List Value), items[j]? = some x → vals[j]? = some vs → ∃ a n, x = .ref a ∧ s.heap.get? a = some (lobj vs n)) (hz : vals.flatten.length ≤ sizeLine)
    (h : ∀ h' tk T, SumAt s.heap h' b T items.size vals.flatten → (∀ c o, s.heap.get? c = some o → h'.get? c = some o) → Q (.ref T) { s with heap := h', toks := tk }) :
    wpAny (model prog w) A (call (.builtin "sum") [.ref l, .ref b]) Q E s := by
  refine call_function_tree PySem.F.kind_sum PySem.F.plain_sum PySem.F.entry_sum (args_sum2 _ _) ?_
  unfold Builtin.«sum»
  simp only [List.length_cons, List.length_nil]
  rw [if_neg (by decide)]
  refine wpAny_bind (wpAny_of_eq (show Builtin.Builtins.bindParams "sum" ["start"] 0 ⟨[.ref b], []⟩ = pure [some (.ref b)] from rfl) ?_)
  have hlt : l < s.heap.objs.size := by obtain ⟨_, e, _⟩ := hl; exact Heap.lt_size e
  have hblt : b < s.heap.objs.size := Heap.lt_size hb
  refine wpAny_bind (wpAny_pyIter_list hl ?_)
  refine wpAny_bind (wpAny_pure ?_)
  have eb : (s.heap.push { cls := .type "list_iterator", data := .fields #[.ref l, .int 0 0] }).get? b = some (lobj [] nb) := Heap.get?_push_of_some _ hb
  have tb : Shared.TypeIs { s with heap := s.heap.push { cls := .type "list_iterator", data := .fields #[.ref l, .int 0 0] } } (.ref b) "list" := ⟨_, eb, rfl⟩
  simp only [List.forIn_cons, List.forIn_nil]
  refine wpAny_bind (wpAny_bind (wpAny_bind (wpAny_isInstance (T := "list") (b := false) tb PySem.F.sub_list_str ?_)))
  simp only [Bool.false_eq_true, if_false]
  refine wpAny_pure (wpAny_bind (wpAny_bind (wpAny_isInstance (T := "list") (b := false) tb PySem.F.sub_list_bytes ?_)))
  simp only [Bool.false_eq_true, if_false]
  refine wpAny_pure (wpAny_bind (wpAny_bind (wpAny_isInstance (T := "list") (b := false) tb PySem.F.sub_list_bytearray ?_)))
  simp only [Bool.false_eq_true, if_false]
  refine wpAny_pure (wpAny_pure ?_)
  refine wpAny_bind (wpAny_newObj_type ?_)
  have hsz : (s.heap.push { cls := .type "list_iterator", data := .fields #[.ref l, .int 0 0] }).objs.size = s.heap.objs.size + 1 := Heap.size_push ..
  refine wpAny_pure ⟨plainId_quiet PySem.F.plain_sum_loop _, sumL_loop (I := s.heap.objs.size) (l := l) (items := items) (vals := vals) (start := b) (h0 := s.heap) hh (Nat.ne_of_lt hlt) (Nat.le_refl _) (by rw [hsz]; exact Nat.le_succ _) (by rw [hsz]; exact Nat.succ_ne_self _) hlen hit hl hz
    items.size 0 _ b 0 rfl (Nat.zero_le _) ?_ (fun c o e => Heap.get?_push_of_some _ (Heap.get?_push_of_some _ e)) (Heap.get?_push_size _ rfl) (by rw [hsz]; exact Nat.ne_of_lt (Nat.lt_succ_of_lt hblt)) (Nat.ne_of_lt hblt) ⟨⟨nb, Heap.get?_push_of_some _ eb⟩, .inl ⟨rfl, rfl⟩⟩ fun h' tk T q k => ?_⟩
  · exact ⟨_, Heap.get?_push_of_some _ (Heap.get?_push_size _ rfl), rfl, rfl⟩
  · exact h h' tk T q k
end
theorem lists_at {X : Cx} {pins : List (Addr × Obj)} {s : Shared} {σ : L2.St} {I H : Hp} (i : Inv X pins σ H s) (hx : Ex I H) : ∀ {xs : List V} {its : List Value} {dss : List (List PyData)}, Vals xs its → RpAll I xs (dss.map .list) →
    ∃ (vals : List (List Value)) (yss : List (List V)), vals.length = its.length ∧ (∀ (j : Nat) (x : Value) (vs : List Value), its[j]? = some x → vals[j]? = some vs → ∃ a n, x = .ref a ∧ s.heap.get? a = some (lobj vs n)) ∧ Vals yss.flatten vals.flatten ∧ RpAll I yss.flatten dss.flatten
  | [], [], [], .nil, .nil => ⟨[], [], rfl, fun j x vs e => by simp at e, .nil, .nil⟩
  | x :: xs, u :: its, ds :: dss, .cons a as, .cons r rs => by
    obtain ⟨vals, yss, e1, e2, e3, e4⟩ := lists_at i hx as rs
    cases r with
    | lst ht hr =>
      cases a
      obtain ⟨_, its2, n, rv2, ob⟩ := i.hok _ _ (hx _ _ ht)
      refine ⟨its2 :: vals, _ :: yss, by rw [List.length_cons, List.length_cons, e1], fun j y vs p q => ?_, by rw [List.flatten_cons, List.flatten_cons]; exact rv2.append e3, by rw [List.flatten_cons, List.flatten_cons]; exact hr.append e4⟩
      cases j with
      | zero =>
        simp at p q
        subst p
        subst q
        exact ⟨_, n, rfl, ob⟩
      | succ j => exact e2 j y vs (by simpa using p) (by simpa using q)
def rSumL (K : PySem.W.Frag) : List V → Hp → VK → Prop := fun vs H Q => ∃ (l b : Addr) (xs : List V) (I : Hp) (dss : List (List PyData)), vs = [V.ref l, .ref b] ∧ SqL K H l xs ∧ Ex I H ∧ RpAll I xs (dss.map .list) ∧ I b = some (.lst []) ∧ dss.flatten.length ≤ 100000 ∧
  ∀ v I' H', Nw I H I' H' → Rp I' v (.list dss.flatten) → Q v H'
theorem cr_sumL {X : Cx} (hc : X.calm = true) : CallR X (.builtin "sum") (rSumL X.K) := by
  intro pins s σ H vs us Q i r h
  obtain ⟨l, b, xs, I0, dss, rfl, hs, hx, hr, hb, hz, q⟩ := h
  obtain ⟨u1, u2, rfl, r1, r2⟩ := vals2 r
  cases r1
  cases r2
  obtain ⟨its, rv, hl, _⟩ := i.list hs
  obtain ⟨vals, yss, e1, e2, e3, e4⟩ := lists_at i hx rv hr
  obtain ⟨_, bits, nb, rb, ob⟩ := i.hok _ _ (hx _ _ hb)
  cases rb
  have hz2 : vals.flatten.length ≤ sizeLine := by
    rw [← e3.length, e4.length]
    exact sz_of hz
  refine call_sumL (i.ok.hd hc) hl.isList ob (by rw [List.size_toArray, e1]) (fun j x vs p q => e2 j x vs (by simpa using p) q) hz2 fun h' tk T hT keep => ?_
  obtain ⟨⟨n, hT⟩, z⟩ := hT
  rcases z with ⟨z1, z2⟩ | z
  · have hn : dss = [] := by
      rw [List.size_toArray] at z1
      have h1 := rv.length
      have h2 := hr.length
      rw [List.length_map] at h2
      cases dss with
      | nil => rfl
      | cons d dss => rw [List.length_cons] at h2; omega
    subst hn
    exact ⟨.ref T, H, i.kept keep, rfl, q _ I0 H (.refl hx) (.lst (by rw [z2]; exact hb) .nil)⟩
  · have hp := i.hok.fresh z
    refine ⟨.ref T, upd H T (.lst yss.flatten), i.laid (t' := tk) keep z ⟨by rw [e4.length]; exact sz_of hz, _, n, e3, hT⟩, rfl, q _ _ _ (Nw.new hx hp) (.lst upd_same (e4.up (Nw.new (o := .lst yss.flatten) hx hp).i))⟩
section
variable {X : Cx} {ρ : Ro} {a b : Expr} {dss : List (List PyData)} {pos p p2 : Pos}
/-- sum([..], []) of lists -/
theorem e_sumLL (hc : X.calm = true) (hg : Gl X "sum") (hm : X.mg "sum" = none) (ha : E X ρ a (.list (dss.map .list))) (hz : dss.flatten.length ≤ 100000) (hs : starEach [a, .List [] p2] X.env = (false, eval a X.env) :: starEach [.List [] p2] X.env := by rfl)
    (hs2 : starEach [.List [] p2] X.env = [(false, eval (.List [] p2) X.env)] := by rfl) : E X ρ (.Call (.Name "sum" p) [a, .List [] p2] [] pos) (.list dss.flatten) :=
  e_of (pe_callB (cr_sumL hc) hg hm (by decide +kernel) (pa2 hs hs2) (by decide) (by decide) hs (by rw [hs2]; rfl)) fun I σ H hx vs Q k => ha I σ H hx vs _ fun v I1 H1 n1 r1 => (e_lst (x1 := 0) (pos := p2) as_nil (by decide)) I1 σ H1 n1.j (vs.up n1.i) _ fun u I2 H2 n2 r2 => by
    cases r1 with
    | lst ea ra =>
      cases r2 with
      | lst eb rb =>
        cases rb
        exact ⟨_, _, _, I2, dss, rfl, SqL.of (n2.j _ _ (n2.i _ _ ea)), n2.j, ra.up n2.i, eb, hz, fun v I3 H3 n3 r3 => k v I3 H3 ((n1.trans n2).trans n3) r3⟩
end
end R1

set_option Elab.async false
set_option linter.all false
set_option maxRecDepth 100000
set_option maxHeartbeats 4000000
/-! CoreK: {row: value}; calls by keywords alone. -/
namespace R1
open PySem PySem.Spec PyProof.Rows L2 Evl

theorem vv_one {b : Addr} {v : V} {vs : List (Value × Value)} (h : VV [(V.ref b, v)] vs) : ∃ u, vs = [(Value.ref b, u)] ∧ RelV v u := by
  cases h with
  | cons r t =>
    cases t
    rename_i q
    obtain ⟨u1, u2⟩ := q
    obtain ⟨r1, r2⟩ := r
    obtain rfl : u1 = Value.ref b := r1
    exact ⟨u2, rfl, r2⟩
section
variable {X : Cx} {ρ : Ro} {k e : Expr} {p : List Int} {d : PyData} {pos : Pos}
theorem we_disp1 (hu : X.A.units + 64 < cLine) {σ : L2.St} {H : Hp} {Q : VK} (h : ∀ a, H a = none → WE X k σ (upd H a (.dT [])) fun y H1 => WE X e σ H1 fun v H2 => ∃ (b : Addr) (q : List Int), y = .ref b ∧ H2 a = some (.dT []) ∧ H2 b = some (.tup (q.map V.int)) ∧ ∀ ob, Q (.ref a) (upd H2 a (.frz ob (.dT [(keyP q, v)])))) :
    WE X (.Dict [some k] [e] pos) σ H Q := fun pins s i => by
  have hn := i.hok.fresh (Nat.le_refl s.heap.objs.size)
  have i1 := i.laid (a := s.heap.objs.size) (o := .dT []) (h' := s.heap.push { cls := .type "dict", data := .dict #[] }) (t' := s.toks) (fun _ _ q => Heap.get?_push_of_some _ q) (Nat.le_refl _) (dt_empty s.heap i.big)
  have hh := h _ hn
  refine wpAny_Dict_any (by rfl) (by rfl) (by simp) (by show 1 ≤ 15; decide) (thn ((pps_cons (k := k) (v := e) pe_we pe_we pps_nil).run pins _ σ _ (fun ps H2 => ∃ (v : V) (b : Addr) (q : List Int), ps = [(V.ref b, v)] ∧ H2 s.heap.objs.size = some (.dT []) ∧ H2 b = some (.tup (q.map V.int)) ∧ ∀ ob, Q (.ref s.heap.objs.size) (upd H2 s.heap.objs.size (.frz ob (.dT [(keyP q, v)])))) i1 ?_) fun vs s2 ⟨ps, H2, i2, rel, v, b, q, eps, e1, e2, hq⟩ => ?_)
  · refine we_mono hh fun y H1 h1 => ?_
    refine we_mono h1 fun v H2 h2 => ?_
    obtain ⟨b, q, rfl, e1, e2, hq⟩ := h2
    exact ⟨v, b, q, rfl, e1, e2, hq⟩
  · subst eps
    obtain ⟨u2, rfl, r2⟩ := vv_one rel
    · obtain ⟨z, hd, xs, rk, dd⟩ := dt_of i2.hok e1
      cases rk
      unfold storeAll
      rw [List.forIn_cons]
      have hb2 : H2 b = some (.tup ((keyP q).map kV)) := by rw [keyP_kV]; exact e2
      refine wpAny_bind (wpAny_bind (wpAny_dictSet_heap (knd := tupleKind (mixKind X.prog X.w)) (k := keyP q) (hsz := Nat.zero_le _) (show X.A.units < cLine by omega) (key_of i2.hok hb2) dd fun h' dd' hs => ?_))
      refine wpAny_pure ?_
      show wpAny (model X.prog X.w) X.A (forIn ([] : List (Value × Value)) PUnit.unit _) _ _ _
      rw [List.forIn_nil]
      refine wpAny_pure ?_
      obtain ⟨ob, es, ep, h1, h2, h3, h4, _, h5⟩ := dd'
      refine ⟨.ref s.heap.objs.size, _, d_write i2 (by rw [e1]; exact True.intro) hs ⟨ob, h1⟩ (ob := .frz ob (.dT [(keyP q, v)])) ⟨h1, by show 1 ≤ sizeLine; decide, hd, _, ?_, ob, es, ep, h1, h2, h3, h4, h5⟩, rfl, hq ob⟩
      have kt := KT.put (H := H2) (kvs := []) (xs := []) .nil (keyP q) hb2 r2
      refine KT.keeps kt fun c ys ec => ?_
      have hc : c ≠ s.heap.objs.size := fun z => by rw [z, e1] at ec; cases ec
      rw [upd_ne hc]
      exact ec
/-- {row: value}, which changes no more -/
theorem e_disp1 (hu : X.A.units + 64 < cLine) (hk : E X ρ k (pwD p)) (he : E X ρ e d) : E X ρ (.Dict [some k] [e] pos) (kvD [(p, d)]) := fun I σ H hx vs Q q => we_disp1 hu fun a ha => by
  have n0 := Nw.own (o := .dT []) hx ha
  have ia : I a = none := fresh_back hx ha
  refine hk I σ _ n0.j vs _ fun y I1 H1 n1 r1 => he I1 σ H1 n1.j (vs.up n1.i) _ fun v I2 H2 n2 r2 => ?_
  obtain ⟨b, rfl, hb⟩ := r1.tupI
  have n12 := n1.trans n2
  obtain ⟨a2, i2⟩ := n12.keep (p := a) (o := .dT []) upd_same ia
  refine ⟨b, p, rfl, a2, n2.j _ _ (n2.i _ _ hb), fun ob => ?_⟩
  have e2 : Ex I2 (upd I2 a (.frz ob (.dT [(keyP p, v)]))) := Ex.new i2
  have nn : Nw I H (upd I2 a (.frz ob (.dT [(keyP p, v)]))) (upd H2 a (.frz ob (.dT [(keyP p, v)]))) := by
    have n3 := n0.trans n12
    refine ⟨n3.i.trans e2, fun c o w => ?_, ex_mut n3.h ha, fun c w z => ?_⟩
    · by_cases hc : c = a
      · subst hc; rw [upd_same] at w ⊢; exact w
      · rw [upd_ne hc] at w ⊢; exact n2.j c o w
    · rw [upd_ne (z.ne ha)]
      exact n3.k c w z
  exact q _ _ _ nn (.dct upd_same (RpKv.ps (.cons (r2.up e2) .nil)))
end

/-! ### calls by keywords alone -/
theorem fun_same {K : PySem.W.Frag} {x y q r : Str} {st st' : Stmt} {f : Addr} {fd fd' : FuncData} (a : Fun K x q st f fd) (b : Fun K y r st' f fd') : fd = fd' := by
  obtain ⟨oc, od, kV, doc, pm, an, cdv, ct, osl, rfl, lk, _⟩ := a.ex
  obtain ⟨oc', od', kV', doc', pm', an', cdv', ct', osl', rfl, lk', _⟩ := b.ex
  rw [lk] at lk'
  injection lk' with h
  injection h with h1 h2 h3 h4
  injection h3
section
variable {X : Cx} {ρ : Ro} {x : Str} {p pos p1 p2 p3 : Pos} {a b c : Expr} {da db dc d : PyData} {k : Nat} {ps : List Str} {R : List PyData → PyData → Prop} {st : Stmt} {ka kb kc : Str} {g : List Value → List Value}
/-- f(k = a, l = b, m = c): g puts what is told into the parameters' order -/
theorem e_callKw3 (D : Dfn X.K X.mg x st) (F : Fn X.prog X.w X.K X.mg X.base x k ps (spP R)) (hr : Room k X.A) (hg : Gl X x) (hps : ps.length = 3)
    (hb : ∀ (kV doc pm : Value) (an : Option Addr) (cdv ct : Value) (u v w : Value), bindArgs (PySem.W.fnOf x x (defArgs st) (defBody st) (defScope st) .none kV doc pm an cdv ct) ⟨[], [(ka, u), (kb, v), (kc, w)]⟩ = pure (ps.zip [w, u, v]))
    (ha : E X ρ a da) (hb2 : E X ρ b db) (hc2 : E X ρ c dc) (hR : R [dc, da, db] d) (hdb : (x == ("__debug__" : Str)) = false := by decide)
    (hall : (backToKw pos (keywordEach [⟨some ka, a, p1⟩, ⟨some kb, b, p2⟩, ⟨some kc, c, p3⟩] X.env)).all (·.1.isSome) = true := by rfl) (hks : (backToKw pos (keywordEach [⟨some ka, a, p1⟩, ⟨some kb, b, p2⟩, ⟨some kc, c, p3⟩] X.env)).filterMap (·.1) = [ka, kb, kc] := by rfl)
    (hpl : ((backTo pos (starEach [] X.env)).any (·.1) || (backToKw pos (keywordEach [⟨some ka, a, p1⟩, ⟨some kb, b, p2⟩, ⟨some kc, c, p3⟩] X.env)).any (·.1.isNone)) = false := by rfl) :
    E X ρ (.Call (.Name x p) [] [⟨some ka, a, p1⟩, ⟨some kb, b, p2⟩, ⟨some kc, c, p3⟩] pos) d := fun I σ H hx vs Q q pins s i => by
  obtain ⟨f, fd, qn, st2, hm, hF, hbi, ok⟩ := F.ex
  obtain ⟨f', fd', hm', hF'⟩ := D
  rw [hm] at hm'
  cases hm'
  have hfd := fun_same hF hF'
  subst hfd
  have kb3 : KBinds X.K fd ps [ka, kb, kc] (fun us ws => match us, ws with | [], [u, v, w] => [w, u, v] | _, _ => []) (fun us ws => match us, ws with | [], [u, v, w] => [w, u, v] | _, _ => []) := by
    refine ⟨fun s us ws _ hl => ?_, fun {vs us zs ws} r1 r2 => ?_⟩
    · obtain ⟨oc, od, kV, doc, pm, an, cdv, ct, osl, rfl, lk, _⟩ := hF'.ex
      match us, ws, hl with
      | [], [u, v, w], _ => exact BindsTo.of_eq (hb kV doc pm an cdv ct u v w)
      | [], [], h => rw [hps] at h; cases h
      | [], [_], h => rw [hps] at h; cases h
      | [], [_, _], h => rw [hps] at h; cases h
      | [], _ :: _ :: _ :: _ :: _, h => rw [hps] at h; cases h
      | _ :: _, _, h => rw [hps] at h; cases h
    · match vs, us, zs, ws, r1, r2 with
      | [], [], [], [], .nil, .nil => exact .nil
      | [], [], [_], [_], .nil, .cons _ .nil => exact .nil
      | [], [], [_, _], [_, _], .nil, .cons _ (.cons _ .nil) => exact .nil
      | [], [], [_, _, _], [_, _, _], .nil, .cons a (.cons b (.cons c .nil)) => exact .cons c (.cons a (.cons b .nil))
      | [], [], _ :: _ :: _ :: _ :: _, _ :: _ :: _ :: _ :: _, .nil, .cons _ (.cons _ (.cons _ (.cons _ _))) => exact .nil
      | _ :: _, _ :: _, _, _, .cons _ _, _ => exact .nil
  refine wpAny_Call_Name_kw (ld_glob i hg hm ?_ hdb)
  refine PySem.W.callWith_KW0 (h₀ := X.base) i.ok.mod.kin hF.kp hall ?_ hpl
  have pk := pk_cons (nm := some ka) (kpos := p1) (pe_we (X := X) (e := a)) (pk_cons (nm := some kb) (kpos := p2) (pe_we (X := X) (e := b)) (pk_cons (nm := some kc) (kpos := p3) (pe_we (X := X) (e := c)) pk_nil))
  refine thn (pk.run pos pins s σ H (fun vs H' => ∃ (I' : Hp) (u v w : V), vs = [u, v, w] ∧ Nw I H I' H' ∧ Rp I' u da ∧ Rp I' v db ∧ Rp I' w dc) i ?_) fun ws s2 ⟨zs, H2, i2, rz, I2, u, v, w, ez, n2, ru, rv, rw'⟩ => ⟨i2.kIn, ?_⟩
  · exact ha I σ H hx vs _ fun u I1 H1 n1 r1 => hb2 I1 σ H1 n1.j (vs.up n1.i) _ fun v I2 H2 n2 r2 => hc2 I2 σ H2 n2.j ((vs.up n1.i).up n2.i) _ fun w I3 H3 n3 r3 =>
      ⟨I3, u, v, w, rfl, (n1.trans n2).trans n3, r1.up (n2.i.trans n3.i), r2.up n3.i, r3⟩
  · subst ez
    rw [hks]
    refine run_fnk (us := []) (vs := []) (Q := Q) ok hr kb3 pass0 i2 .nil rz ?_
    exact ⟨I2, [dc, da, db], d, n2.j, .cons rw' (.cons ru (.cons rv .nil)), hR, fun v I3 H3 n3 r3 => q v I3 H3 (n2.trans n3) r3⟩
end
end R1

set_option Elab.async false
set_option linter.all false
set_option maxRecDepth 100000
set_option maxHeartbeats 4000000
/-! K12W1: the checks and ranks of the package: walks. -/
namespace R1
open PySem PySem.Spec PyProof.Rows L2 Evl
def topS (i : Nat) : Stmt := PySem.Challenge.pw_anyring_k12_falling_powers_by_difference.main.body.getD i (.Pass ⟨0, 0, 0, 0⟩)
theorem seqD_nd {k : Bool} {ds : List PyData} : isDictD (seqD k ds) = false := by cases k <;> rfl
theorem seqD_is {k : Bool} {ds : List PyData} : isSeqD (seqD k ds) = true := by cases k <;> rfl
theorem it_seq {X : Cx} {ρ : Ro} {tg e : Expr} {k : Bool} {ds : List PyData} (h : E X ρ e (seqD k ds)) : IT X ρ tg e ds := by
  cases k with
  | false => exact it_list h
  | true => exact it_tup h
/-! ### polynomials as data -/
abbrev Tm := Int × List Int
/-- a term as it may be told -/
def TmIs (t : Tm) (d : PyData) : Prop := ∃ k l, d = seqD k [.int t.1, seqD l (t.2.map .int)]
inductive Tms : List Tm → List PyData → Prop
  | nil : Tms [] []
  | cons {t d ts ds} : TmIs t d → Tms ts ds → Tms (t :: ts) (d :: ds)
theorem Tms.length : ∀ {ts ds}, Tms ts ds → ds.length = ts.length
  | _, _, .nil => rfl
  | _, _, .cons _ h => congrArg (· + 1) h.length
def tmD (t : Tm) : PyData := .tuple [.int t.1, pwD t.2]
def polD (p : List Tm) : PyData := .tuple (p.map tmD)
theorem tms_pol : ∀ p : List Tm, Tms p (p.map tmD)
  | [] => .nil
  | t :: p => .cons ⟨true, true, rfl⟩ (tms_pol p)
structure Good (width : Int) (p : List Tm) : Prop where
  t : ∀ t ∈ p, t.1 ≠ 0 ∧ (t.2.length : Int) = width ∧ ∀ x ∈ t.2, 0 ≤ x ∧ x ≤ 1000
  o : p.Pairwise fun a b => rkLt (rkP b.2) (rkP a.2) = true
  l : p.length < 1000
  w : 0 ≤ width ∧ width ≤ 16

theorem sc2 : FnScope ["value"] ["value"] (defScope (topS 2)) := ⟨rfl, rfl, rfl, by decide +kernel, rfl, by decide +kernel, by decide +kernel⟩
theorem sc3 : FnScope ["value", "least", "most"] ["value", "least", "most"] (defScope (topS 3)) := ⟨rfl, rfl, rfl, by decide +kernel, rfl, by decide +kernel, by decide +kernel⟩
theorem sc4 : FnScope ["value"] ["value"] (defScope (topS 4)) := ⟨rfl, rfl, rfl, by decide +kernel, rfl, by decide +kernel, by decide +kernel⟩
theorem sc5 : FnScope ["value", "least", "most"] ["value", "least", "most"] (defScope (topS 5)) := ⟨rfl, rfl, rfl, by decide +kernel, rfl, by decide +kernel, by decide +kernel⟩
theorem sc6 : FnScope ["value", "least", "most", "one"] ["value", "least", "most"] (defScope (topS 6)) := ⟨rfl, rfl, rfl, by decide +kernel, rfl, by decide +kernel, by decide +kernel⟩
theorem sc14 : FnScope ["powers"] ["powers"] (defScope (topS 14)) := ⟨rfl, rfl, rfl, by decide +kernel, rfl, by decide +kernel, by decide +kernel⟩
theorem sc15 : FnScope ["width", "value", "one"] ["width", "value"] (defScope (topS 15)) := ⟨rfl, rfl, rfl, by decide +kernel, rfl, by decide +kernel, by decide +kernel⟩
theorem sc16 : FnScope ["width", "value"] ["width", "value"] (defScope (topS 16)) := ⟨rfl, rfl, rfl, by decide +kernel, rfl, by decide +kernel, by decide +kernel⟩
theorem sc20 : FnScope ["value"] ["value"] (defScope (topS 20)) := ⟨rfl, rfl, rfl, by decide +kernel, rfl, by decide +kernel, by decide +kernel⟩
section
variable {P : Program} {w : World} {K : PySem.W.Frag} {mg : Str → Option Value} {base : Heap} {k : Nat}
theorem fn_rank (D : Dfn K mg "rank_of" (topS 14)) (ms : mg "sum" = none) : Fn P w K mg base "rank_of" 1 ["powers"] (spP RkR) :=
  fn_pure (k := 0) D sc14 (fun ds d h => by obtain ⟨p, rfl, _⟩ := h; rfl) (fun kV doc pm an cdv ct us hl => by
    match us, hl with
    | [a], _ => rfl) fun f cdv A outer s H G hr ds d h => by
    obtain ⟨p, rfl, rfl⟩ := h
    have n0 : ∀ q, E (cxB P w K mg base ["powers"] "rank_of" (topS 14) f cdv A outer s H G) [some (pwD p)] (.Name "powers" q) (pwD p) := fun q => e_name 0 rfl (.inl rfl) rfl
    exact bd_ret (e_tup (as_cons (e_sumT rfl (by rfl) ms (n0 _)) (as_cons (n0 _) as_nil)) (Nat.le_of_ble_eq_true rfl))
/-- is_integer, of a whole number -/
def RInt (ds : List PyData) (d : PyData) : Prop := ∃ i : Int, ds = [.int i] ∧ d = .bool true
theorem fn_int (D : Dfn K mg "is_integer" (topS 2)) (m1 : mg "isinstance" = none) (m2 : mg "int" = none) (m3 : mg "bool" = none) : Fn P w K mg base "is_integer" 1 ["value"] (spP RInt) :=
  fn_pure (k := 0) D sc2 (fun ds d h => by obtain ⟨p, rfl, _⟩ := h; rfl) (fun kV doc pm an cdv ct us hl => by
    match us, hl with
    | [a], _ => rfl) fun f cdv A outer s H G hr ds d h => by
    obtain ⟨i, rfl, rfl⟩ := h
    have n0 : ∀ q, E (cxB P w K mg base ["value"] "is_integer" (topS 2) f cdv A outer s H G) [some (.int i)] (.Name "value" q) (.int i) := fun q => e_name 0 rfl (.inl rfl) rfl
    exact bd_ret ((e_and (k := true) (l := true) (e_isi (by rfl) m1 (by rfl) m2 PyProof.Rows.boot_int (n0 _) rfl (kit_int _)) fun _ => e_one ((e_not (e_isi (by rfl) m1 (by rfl) m3 (by decide +kernel) (n0 _) rfl (kit_bool _))).eq rfl)).eq rfl)
/-- is_within -/
def RWithin (ds : List PyData) (d : PyData) : Prop := ∃ i a b : Int, ds = [.int i, .int a, .int b] ∧ d = .bool (decide (a ≤ i) && decide (i ≤ b))
theorem fn_within (D : Dfn K mg "is_within" (topS 3)) (F : Fn P w K mg base "is_integer" 1 ["value"] (spP RInt)) : Fn P w K mg base "is_within" 2 ["value", "least", "most"] (spP RWithin) :=
  fn_pure (k := 1) D sc3 (fun ds d h => by obtain ⟨p, q, r, rfl, _⟩ := h; rfl) (fun kV doc pm an cdv ct us hl => by
    match us, hl with
    | [a, b, c], _ => rfl) fun f cdv A outer s H G hr ds d h => by
    obtain ⟨i, a, b, rfl, rfl⟩ := h
    have n0 : ∀ q, E (cxB P w K mg base ["value", "least", "most"] "is_within" (topS 3) f cdv A outer s H G) [some (.int i), some (.int a), some (.int b)] (.Name "value" q) (.int i) := fun q => e_name 0 rfl (.inl rfl) rfl
    have n1 : ∀ q, E (cxB P w K mg base ["value", "least", "most"] "is_within" (topS 3) f cdv A outer s H G) [some (.int i), some (.int a), some (.int b)] (.Name "least" q) (.int a) := fun q => e_name 1 rfl (.inl rfl) rfl
    have n2 : ∀ q, E (cxB P w K mg base ["value", "least", "most"] "is_within" (topS 3) f cdv A outer s H G) [some (.int i), some (.int a), some (.int b)] (.Name "most" q) (.int b) := fun q => e_name 2 rfl (.inl rfl) rfl
    exact bd_ret ((e_and (k := true) (e_call F hr (by rfl) (as_cons (n0 _) as_nil) ⟨i, rfl, rfl⟩) fun _ => e_one (e_lele (n1 _) (n0 _) (n2 _))).eq rfl)
/-- is_listed, of a list or a tuple -/
def RListed (ds : List PyData) (d : PyData) : Prop := ∃ k es, ds = [seqD k es] ∧ d = .bool true
theorem fn_listed (D : Dfn K mg "is_listed" (topS 4)) (m1 : mg "isinstance" = none) (m2 : mg "list" = none) (m3 : mg "tuple" = none) : Fn P w K mg base "is_listed" 1 ["value"] (spP RListed) :=
  fn_pure (k := 0) D sc4 (fun ds d h => by obtain ⟨p, q, rfl, _⟩ := h; rfl) (fun kV doc pm an cdv ct us hl => by
    match us, hl with
    | [a], _ => rfl) fun f cdv A outer s H G hr ds d h => by
    obtain ⟨l, es, rfl, rfl⟩ := h
    have n0 : ∀ q, E (cxB P w K mg base ["value"] "is_listed" (topS 4) f cdv A outer s H G) [some (seqD l es)] (.Name "value" q) (seqD l es) := fun q => e_name 0 rfl (.inl rfl) rfl
    exact bd_ret ((e_isSeq (by rfl) m1 (by rfl) m2 (by rfl) m3 (n0 _) seqD_nd).eq (by rw [seqD_is]))
/-- is_row -/
def RRow (ds : List PyData) (d : PyData) : Prop := ∃ k es, ∃ a b : Int, ds = [seqD k es, .int a, .int b] ∧ d = .bool (decide (a ≤ (es.length : Int)) && decide ((es.length : Int) ≤ b))
theorem fn_row (D : Dfn K mg "is_row" (topS 5)) (ml : mg "len" = none) (F : Fn P w K mg base "is_listed" 1 ["value"] (spP RListed)) : Fn P w K mg base "is_row" 2 ["value", "least", "most"] (spP RRow) :=
  fn_pure (k := 1) D sc5 (fun ds d h => by obtain ⟨p, q, r, t, rfl, _⟩ := h; rfl) (fun kV doc pm an cdv ct us hl => by
    match us, hl with
    | [a, b, c], _ => rfl) fun f cdv A outer s H G hr ds d h => by
    obtain ⟨l, es, a, b, rfl, rfl⟩ := h
    have n0 : ∀ q, E (cxB P w K mg base ["value", "least", "most"] "is_row" (topS 5) f cdv A outer s H G) [some (seqD l es), some (.int a), some (.int b)] (.Name "value" q) (seqD l es) := fun q => e_name 0 rfl (.inl rfl) rfl
    have n1 : ∀ q, E (cxB P w K mg base ["value", "least", "most"] "is_row" (topS 5) f cdv A outer s H G) [some (seqD l es), some (.int a), some (.int b)] (.Name "least" q) (.int a) := fun q => e_name 1 rfl (.inl rfl) rfl
    have n2 : ∀ q, E (cxB P w K mg base ["value", "least", "most"] "is_row" (topS 5) f cdv A outer s H G) [some (seqD l es), some (.int a), some (.int b)] (.Name "most" q) (.int b) := fun q => e_name 2 rfl (.inl rfl) rfl
    exact bd_ret ((e_and (k := true) (e_call F hr (by rfl) (as_cons (n0 _) as_nil) ⟨l, es, rfl, rfl⟩) fun _ => e_one (e_lele (n1 _) (e_len (by rfl) ml (n0 _)) (n2 _))).eq rfl)
/-- is_numbers -/
def RNums (ds : List PyData) (d : PyData) : Prop := ∃ k, ∃ ns : List Int, ∃ a b : Int, ds = [seqD k (ns.map .int), .int a, .int b] ∧ ns.length < 1000 ∧ a ≤ ns.length ∧ (ns.length : Int) ≤ b ∧ (∀ n ∈ ns, -(10 ^ 18) ≤ n ∧ n ≤ 10 ^ 18) ∧ d = .bool true
theorem fn_nums (D : Dfn K mg "is_numbers" (topS 6)) (ma : mg "all" = none) {u : Tok} (mM : mg "MOST_NUMBER" = some (.int (10 ^ 60) u)) (F : Fn P w K mg base "is_row" 2 ["value", "least", "most"] (spP RRow)) (F2 : Fn P w K mg base "is_within" 2 ["value", "least", "most"] (spP RWithin)) :
    Fn P w K mg base "is_numbers" 3 ["value", "least", "most"] (spP RNums) :=
  fn_pure (k := 2) D sc6 (fun ds d h => by obtain ⟨p, q, r, t, rfl, _⟩ := h; rfl) (fun kV doc pm an cdv ct us hl => by
    match us, hl with
    | [a, b, c], _ => rfl) fun f cdv A outer s H G hr ds d h => by
    obtain ⟨l, ns, a, b, rfl, hl, h1, h2, h3, rfl⟩ := h
    have n0 : ∀ q, E (cxB P w K mg base ["value", "least", "most", "one"] "is_numbers" (topS 6) f cdv A outer s H G) [some (seqD l (ns.map .int)), some (.int a), some (.int b), none] (.Name "value" q) (seqD l (ns.map .int)) := fun q => e_name 0 rfl (.inl rfl) rfl
    have n1 : ∀ q, E (cxB P w K mg base ["value", "least", "most", "one"] "is_numbers" (topS 6) f cdv A outer s H G) [some (seqD l (ns.map .int)), some (.int a), some (.int b), none] (.Name "least" q) (.int a) := fun q => e_name 1 rfl (.inl rfl) rfl
    have n2 : ∀ q, E (cxB P w K mg base ["value", "least", "most", "one"] "is_numbers" (topS 6) f cdv A outer s H G) [some (seqD l (ns.map .int)), some (.int a), some (.int b), none] (.Name "most" q) (.int b) := fun q => e_name 2 rfl (.inl rfl) rfl
    have e1 : ((ns.map PyData.int).map fun _ => PyData.bool true) = (List.replicate ns.length true).map PyData.bool := by
      rw [List.map_map, List.map_replicate]
      exact List.map_const' ..
    refine bd_ret ((e_and (k := true) (l := true) ((e_call F hr (by rfl) (as_cons (n0 _) (as_cons (n1 _) (as_cons (n2 _) as_nil))) ⟨l, _, a, b, rfl, rfl⟩).eq ?_) fun _ => e_one ((e_all rfl (by rfl) ma ((e_lc (own := [("one", 3)]) (g := gName 3) (F := fun _ => .bool true) (ρ' := fun d => (wipeR _ [3]).set 3 (some d)) rfl sc6.nd (blkOk_by (own := [("one", 3)]) (N := ["value", "least", "most", "one"]) (sc := defScope (topS 6)) (by decide +kernel)) (fun _ _ _ _ _ => pg_name (i := 3) sc6.nd rfl (Or.inl rfl)) (it_seq (n0 _)) (fun d _ => gt_name (by simp)) (fun d hd => ?_) (by rw [List.length_map]; omega)).eq (by rw [e1]))).eq ?_)).eq rfl)
    · rw [List.length_map, decide_eq_true h1, decide_eq_true h2]
      rfl
    · obtain ⟨n, hn, rfl⟩ := List.mem_map.mp hd
      intro s0 H0 C cl fp
      have := h3 n hn
      refine (e_call F2 hr (by rfl) (as_cons (e_name 3 rfl (.inl rfl) rfl) (as_cons (e_sub e_int (e_globI (by rfl) mM)) (as_cons (e_sub (e_globI (by rfl) mM) e_int) as_nil))) ⟨n, _, _, rfl, rfl⟩).eq ?_
      rw [decide_eq_true (by omega), decide_eq_true (by omega)]
      rfl
    · show PyData.bool ((List.replicate ns.length true).all fun z => z) = _
      rw [List.all_replicate]
      by_cases h : ns.length = 0 <;> simp [h]
end
end R1

set_option Elab.async false
set_option linter.all false
set_option maxRecDepth 100000
set_option maxHeartbeats 4000000
/-! K12W2: polynomials looked at: walks. -/
namespace R1
open PySem PySem.Spec PyProof.Rows L2 Evl
theorem sc17 : FnScope ["width", "value", "ranks", "term", "one", "other"] ["width", "value"] (defScope (topS 17)) := ⟨rfl, rfl, rfl, by decide +kernel, rfl, by decide +kernel, by decide +kernel⟩
theorem sc18 : FnScope ["value", "term"] ["value"] (defScope (topS 18)) := ⟨rfl, rfl, rfl, by decide +kernel, rfl, by decide +kernel, by decide +kernel⟩
theorem sc19 : FnScope ["width", "value", "part", "one"] ["width", "value", "part"] (defScope (topS 19)) := ⟨rfl, rfl, rfl, by decide +kernel, rfl, by decide +kernel, by decide +kernel⟩
theorem all_reps {α : Type} (l : List α) : (l.map fun _ => PyData.bool true) = (List.replicate l.length true).map PyData.bool := by
  rw [List.map_replicate]
  exact List.map_const' ..
theorem reps_all (n : Nat) : ((List.replicate n true).all fun z => z) = true := by
  rw [List.all_replicate]
  by_cases h : n = 0 <;> simp [h]
section
variable {P : Program} {w : World} {K : PySem.W.Frag} {mg : Str → Option Value} {base : Heap} {k : Nat}
/-- is_powers -/
def RPow (ds : List PyData) (d : PyData) : Prop := ∃ (wd : Int) (k : Bool) (p : List Int), ds = [.int wd, seqD k (p.map .int)] ∧ (p.length : Int) = wd ∧ (∀ x ∈ p, 0 ≤ x ∧ x ≤ 1000) ∧ wd ≤ 16 ∧ d = .bool true
theorem fn_powers (D : Dfn K mg "is_powers" (topS 15)) (ma : mg "all" = none) (ml : mg "len" = none) {u : Tok} (mM : mg "MOST_POWER" = some (.int 1000 u)) (F : Fn P w K mg base "is_listed" 1 ["value"] (spP RListed)) (F2 : Fn P w K mg base "is_within" 2 ["value", "least", "most"] (spP RWithin)) :
    Fn P w K mg base "is_powers" 3 ["width", "value"] (spP RPow) :=
  fn_pure (k := 2) D sc15 (fun ds d h => by obtain ⟨p, q, r, rfl, _⟩ := h; rfl) (fun kV doc pm an cdv ct us hl => by
    match us, hl with
    | [a, b], _ => rfl) fun f cdv A outer s H G hr ds d h => by
    obtain ⟨wd, l, p, rfl, h1, h2, h3, rfl⟩ := h
    have n0 : ∀ q, E (cxB P w K mg base ["width", "value", "one"] "is_powers" (topS 15) f cdv A outer s H G) [some (.int wd), some (seqD l (p.map .int)), none] (.Name "width" q) (.int wd) := fun q => e_name 0 rfl (.inl rfl) rfl
    have n1 : ∀ q, E (cxB P w K mg base ["width", "value", "one"] "is_powers" (topS 15) f cdv A outer s H G) [some (.int wd), some (seqD l (p.map .int)), none] (.Name "value" q) (seqD l (p.map .int)) := fun q => e_name 1 rfl (.inl rfl) rfl
    refine bd_ret ((e_and (k := true) (l := true) (e_call F (hr.mono (by decide)) (by rfl) (as_cons (n1 _) as_nil) ⟨l, _, rfl, rfl⟩) fun _ => e_and (k := true) (l := true) ((e_eqI (e_len (by rfl) ml (n1 _)) (n0 _)).eq ?_) fun _ => e_one ((e_all rfl (by rfl) ma ((e_lc (own := [("one", 2)]) (g := gName 2) (F := fun _ => .bool true) (ρ' := fun d => (wipeR _ [2]).set 2 (some d)) rfl sc15.nd (blkOk_by (own := [("one", 2)]) (N := ["width", "value", "one"]) (sc := defScope (topS 15)) (by decide +kernel)) (fun _ _ _ _ _ => pg_name (i := 2) sc15.nd rfl (Or.inl rfl)) (it_seq (n1 _)) (fun d _ => gt_name (by simp)) (fun d hd => ?_) (by rw [List.length_map]; omega)).eq (by rw [all_reps]))).eq (by rw [reps_all]))).eq rfl)
    · rw [List.length_map, decide_eq_true h1]
    · obtain ⟨n, hn, rfl⟩ := List.mem_map.mp hd
      intro s0 H0 C cl fp
      have := h2 n hn
      refine (e_call F2 hr (by rfl) (as_cons (e_name 2 rfl (.inl rfl) rfl) (as_cons e_int (as_cons (e_globI (by rfl) mM) as_nil))) ⟨n, _, _, rfl, rfl⟩).eq ?_
      rw [decide_eq_true this.1, decide_eq_true this.2]
      rfl
def TmOk (wd : Int) (t : Tm) : Prop := t.1 ≠ 0 ∧ (t.2.length : Int) = wd ∧ ∀ x ∈ t.2, 0 ≤ x ∧ x ≤ 1000
/-- is_term -/
def RTerm (ds : List PyData) (d : PyData) : Prop := ∃ (wd : Int) (t : Tm) (e : PyData), ds = [.int wd, e] ∧ TmIs t e ∧ TmOk wd t ∧ wd ≤ 16 ∧ d = .bool true
theorem fn_term (D : Dfn K mg "is_term" (topS 16)) (ml : mg "len" = none) (F : Fn P w K mg base "is_listed" 1 ["value"] (spP RListed)) (F1 : Fn P w K mg base "is_integer" 1 ["value"] (spP RInt)) (F2 : Fn P w K mg base "is_powers" 3 ["width", "value"] (spP RPow)) :
    Fn P w K mg base "is_term" 4 ["width", "value"] (spP RTerm) :=
  fn_pure (k := 3) D sc16 (fun ds d h => by obtain ⟨p, q, r, rfl, _⟩ := h; rfl) (fun kV doc pm an cdv ct us hl => by
    match us, hl with
    | [a, b], _ => rfl) fun f cdv A outer s H G hr ds d h => by
    obtain ⟨wd, t, e, rfl, ⟨l, m, rfl⟩, ⟨h1, h2, h3⟩, h4, rfl⟩ := h
    have n0 : ∀ q, E (cxB P w K mg base ["width", "value"] "is_term" (topS 16) f cdv A outer s H G) [some (.int wd), some (seqD l [.int t.1, seqD m (t.2.map .int)])] (.Name "width" q) (.int wd) := fun q => e_name 0 rfl (.inl rfl) rfl
    have n1 : ∀ q, E (cxB P w K mg base ["width", "value"] "is_term" (topS 16) f cdv A outer s H G) [some (.int wd), some (seqD l [.int t.1, seqD m (t.2.map .int)])] (.Name "value" q) (seqD l [.int t.1, seqD m (t.2.map .int)]) := fun q => e_name 1 rfl (.inl rfl) rfl
    have i0 : ∀ q q2 j, E (cxB P w K mg base ["width", "value"] "is_term" (topS 16) f cdv A outer s H G) [some (.int wd), some (seqD l [.int t.1, seqD m (t.2.map .int)])] (.Subscript (.Name "value" q) (.Constant (.int 0) j q2) q2) (.int t.1) := fun q q2 j => e_ix (n1 _) e_int rfl
    refine bd_ifF ((tw_or (k := false) (l := false) ((t_not (t_val (e_call F (hr.mono (by decide)) (by rfl) (as_cons (n1 _) as_nil) ⟨l, _, rfl, rfl⟩))).eq rfl) fun _ =>
      tw_or (k := false) (l := false) ((t_neI (e_len (by rfl) ml (n1 _)) e_int).eq rfl) fun _ => tw_or (k := false) (l := false) ((t_not (t_val (e_call F1 (hr.mono (by decide)) (by rfl) (as_cons (e_ix (n1 _) e_int rfl) as_nil) ⟨t.1, rfl, rfl⟩))).eq rfl) fun _ => tw_or1 ((t_eqI (e_ix (n1 _) e_int rfl) e_int).eq ?_)).t.eq rfl) (bd_ret (e_call F2 hr (by rfl) (as_cons (n0 _) (as_cons (e_ix (n1 _) e_int rfl) as_nil)) ⟨wd, m, t.2, rfl, h2, h3, h4, rfl⟩))
    exact decide_eq_false h1
/-- is_poly, of what is one -/
def RPoly (ds : List PyData) (d : PyData) : Prop := ∃ (wd : Int) (p : List Tm) (k : Bool) (es : List PyData), ds = [.int wd, seqD k es] ∧ Tms p es ∧ Good wd p ∧ d = .bool true
theorem Tms.mem : ∀ {ts ds}, Tms ts ds → ∀ d ∈ ds, ∃ t ∈ ts, TmIs t d
  | _, _, .nil, d, h => nomatch h
  | _, _, .cons a b, d, h => by
    rcases List.mem_cons.mp h with rfl | h
    · exact ⟨_, .head _, a⟩
    · obtain ⟨t, ht, x⟩ := b.mem d h
      exact ⟨t, .tail _ ht, x⟩
/-- what a told term tells -/
def powD : PyData → PyData
  | .list (_ :: p :: _) => p
  | .tuple (_ :: p :: _) => p
  | _ => .none
def itsD : PyData → List PyData
  | .list l => l
  | .tuple l => l
  | _ => []
def numsD : List PyData → List Int
  | .int i :: r => i :: numsD r
  | _ => []
theorem numsD_map : ∀ p : List Int, numsD (p.map .int) = p
  | [] => rfl
  | i :: p => by show i :: numsD (p.map .int) = _; rw [numsD_map p]
def rowOf (d : PyData) : List Int := numsD (itsD (powD d))
theorem rowOf_is {t : Tm} {d : PyData} (h : TmIs t d) : rowOf d = t.2 := by
  obtain ⟨k, l, rfl⟩ := h
  cases k <;> cases l <;> exact numsD_map _
theorem Tms.rows : ∀ {ts ds}, Tms ts ds → ds.map rowOf = ts.map (·.2)
  | _, _, .nil => rfl
  | _, _, .cons a b => by rw [List.map_cons, List.map_cons, rowOf_is a, b.rows]
theorem pw_zip {α : Type} {R : α → α → Prop} : ∀ {l : List α}, l.Pairwise R → ∀ x ∈ l.zip (l.drop 1), R x.1 x.2
  | [], _, x, h => nomatch h
  | [a], _, x, h => nomatch h
  | a :: b :: l, .cons h t, x, hx => by
    have hx : x ∈ (a, b) :: (b :: l).zip l := hx
    rcases List.mem_cons.mp hx with rfl | hx
    · exact h b (.head _)
    · exact pw_zip t x hx
theorem fn_poly (D : Dfn K mg "is_poly" (topS 17)) (ma : mg "all" = none) (mz : mg "zip" = none) (mt : mg "tuple" = none) (F : Fn P w K mg base "is_listed" 1 ["value"] (spP RListed)) (F1 : Fn P w K mg base "rank_of" 1 ["powers"] (spP RkR)) (F2 : Fn P w K mg base "is_term" 4 ["width", "value"] (spP RTerm)) :
    Fn P w K mg base "is_poly" 5 ["width", "value"] (spP RPoly) :=
  fn_pure (k := 4) D sc17 (fun ds d h => by obtain ⟨p, q, r, t, rfl, _⟩ := h; rfl) (fun kV doc pm an cdv ct us hl => by
    match us, hl with
    | [a, b], _ => rfl) fun f cdv A outer s H G hr ds d h => by
    obtain ⟨wd, p, l, es, rfl, ht, hg, rfl⟩ := h
    have hl : es.length < 100000 := by
      have := hg.l
      rw [ht.length]
      omega
    have n1 : ∀ q, E (cxB P w K mg base ["width", "value", "ranks", "term", "one", "other"] "is_poly" (topS 17) f cdv A outer s H G) [some (.int wd), some (seqD l es), none, none, none, none] (.Name "value" q) (seqD l es) := fun q => e_name 1 rfl (.inl rfl) rfl
    refine bd_ifF ((tw_or (k := false) (l := false) ((t_not (t_val (e_call F (hr.mono (by decide)) (by rfl) (as_cons (n1 _) as_nil) ⟨l, _, rfl, rfl⟩))).eq rfl) fun _ => tw_or1 ((t_not (t_val ((e_all rfl (by rfl) ma ((e_lc (own := [("term", 3)]) (g := gName 3) (F := fun _ => .bool true) (ρ' := fun d => (wipeR _ [3]).set 3 (some d)) rfl sc17.nd (blkOk_by (own := [("term", 3)]) (N := ["width", "value", "ranks", "term", "one", "other"]) (sc := defScope (topS 17)) (by decide +kernel)) (fun _ _ _ _ _ => pg_name (i := 3) sc17.nd rfl (Or.inl rfl)) (it_seq (n1 _)) (fun d _ => gt_name (by simp)) (fun d hd => ?_) hl).eq (by rw [all_reps]))).eq (by rw [reps_all])))).eq rfl)).t.eq rfl) ?_
    · obtain ⟨t, htm, hti⟩ := ht.mem d hd
      intro s0 H0 C cl fp
      exact e_call F2 hr (by rfl) (as_cons (e_name 0 rfl (.inr (.inl rfl)) rfl) (as_cons (e_name 3 rfl (.inl rfl) rfl) as_nil)) ⟨wd, t, d, rfl, hti, hg.t t htm, hg.w.2, rfl⟩
    · refine bd_setLc (i := 2) (own := [("term", 3)]) (g := gName 3) (F := fun d => rkD (rkP (rowOf d))) (ρ' := fun d => (wipeR _ [3]).set 3 (some d)) rfl sc17.nd rfl rfl (sw_true rfl rfl rfl (by decide +kernel)) (blkOk_by (own := [("term", 3)]) (N := ["width", "value", "ranks", "term", "one", "other"]) (sc := defScope (topS 17)) (by decide +kernel)) (fun _ _ _ _ _ => pg_name (i := 3) sc17.nd rfl (Or.inl rfl)) (it_seq (n1 _)) (fun d _ => gt_name (by simp)) (fun d hd => ?_) hl ?_
      · obtain ⟨t, htm, hti⟩ := ht.mem d hd
        intro s0 H0 C cl fp
        rw [rowOf_is hti]
        obtain ⟨k1, k2, rfl⟩ := hti
        exact e_call F1 (hr.mono (by decide)) (by rfl) (as_cons ((e_tupOf (k := k2) (by rfl) mt (e_ix (k := k1) (e_name 3 rfl (.inl rfl) rfl) e_int rfl)).eq rfl) as_nil) ⟨t.2, rfl, rfl⟩
      · have n2 : ∀ q, E (cxB P w K mg base ["width", "value", "ranks", "term", "one", "other"] "is_poly" (topS 17) f cdv A outer s H G) [some (.int wd), some (seqD l es), some (.list (es.map fun d => rkD (rkP (rowOf d)))), none, none, none] (.Name "ranks" q) (.list (es.map fun d => rkD (rkP (rowOf d)))) := fun q => e_name 2 rfl (.inl rfl) rfl
        have hrk : (es.map fun d => rkD (rkP (rowOf d))) = p.map fun t => rkD (rkP t.2) := by
          have : (es.map fun d => rkD (rkP (rowOf d))) = (es.map rowOf).map fun q => rkD (rkP q) := by rw [List.map_map]; rfl
          rw [this, ht.rows, List.map_map]
          rfl
        refine bd_ret ((e_all rfl (by rfl) ma ((e_lc (own := [("one", 4), ("other", 5)]) (g := gTup K 2 (gCons (gName 4) (gCons (gName 5) gNil))) (F := fun _ => .bool true)
          (ρ' := fun d => match d with | .tuple [a, b] => ((wipeR [some (.int wd), some (seqD l es), some (.list (es.map fun d => rkD (rkP (rowOf d)))), none, none, none] [4, 5]).set 4 (some a)).set 5 (some b) | _ => []) rfl sc17.nd (blkOk_by (own := [("one", 4), ("other", 5)]) (N := ["width", "value", "ranks", "term", "one", "other"]) (sc := defScope (topS 17)) (by decide +kernel))
          (fun _ _ _ _ _ => pg_tup rfl (pgs_cons (pg_name (i := 4) sc17.nd rfl (Or.inl rfl)) (pgs_cons (pg_name (i := 5) sc17.nd rfl (Or.inl rfl)) pgs_nil))) (it_zip (k := false) (l := false) (by rfl) mz (n2 _) (e_from (n := 1) (n2 _))) (fun d hd => ?_) (fun d hd => ?_) ?_).eq (by rw [all_reps]))).eq (by rw [reps_all]))
        · obtain ⟨x, hx, rfl⟩ := List.mem_map.mp hd
          exact gt_tup2 (by simp) (by simp)
        · obtain ⟨x, hx, rfl⟩ := List.mem_map.mp hd
          rw [hrk, ← List.map_drop, List.zip_map] at hx
          obtain ⟨y, hy, rfl⟩ := List.mem_map.mp hx
          have ho := pw_zip hg.o y hy
          intro s0 H0 C cl fp
          refine (e_rkGt (m := y.1.2.sum) (n := y.2.2.sum) (p := y.1.2) (q := y.2.2) (hr.units) (e_name 4 rfl (.inl rfl) rfl) (e_name 5 rfl (.inl rfl) rfl)).eq ?_
          show PyData.bool (rkLt (rkP y.2.2) (rkP y.1.2)) = _
          rw [ho]
        · rw [pairs_len, List.length_map]
          omega
end
end R1

set_option Elab.async false
set_option linter.all false
set_option maxRecDepth 100000
set_option maxHeartbeats 4000000
/-! K12W3: polynomials taken; worths, choices, products down: walks. -/
namespace R1
open PySem PySem.Spec PyProof.Rows L2 Evl
def coefOf (d : PyData) : Int := match itsD d with
  | .int i :: _ => i
  | _ => 0
theorem coefOf_is {t : Tm} {d : PyData} (h : TmIs t d) : coefOf d = t.1 := by
  obtain ⟨k, l, rfl⟩ := h
  cases k <;> rfl
theorem Tms.tms : ∀ {ts ds}, Tms ts ds → ds.map (fun d => tmD (coefOf d, rowOf d)) = ts.map tmD
  | _, _, .nil => rfl
  | _, _, .cons a b => by rw [List.map_cons, List.map_cons, rowOf_is a, coefOf_is a, b.tms]
section
variable {P : Program} {w : World} {K : PySem.W.Frag} {mg : Str → Option Value} {base : Heap} {k : Nat}
/-- as_poly -/
def RAs (ds : List PyData) (d : PyData) : Prop := ∃ (p : List Tm) (k : Bool) (es : List PyData), ds = [seqD k es] ∧ Tms p es ∧ p.length < 1000 ∧ d = polD p
theorem fn_as (D : Dfn K mg "as_poly" (topS 18)) (mt : mg "tuple" = none) : Fn P w K mg base "as_poly" 1 ["value"] (spP RAs) :=
  fn_pure (k := 0) D sc18 (fun ds d h => by obtain ⟨p, q, r, rfl, _⟩ := h; rfl) (fun kV doc pm an cdv ct us hl => by
    match us, hl with
    | [a], _ => rfl) fun f cdv A outer s H G hr ds d h => by
    obtain ⟨p, l, es, rfl, ht, hl, rfl⟩ := h
    have n0 : ∀ q, E (cxB P w K mg base ["value", "term"] "as_poly" (topS 18) f cdv A outer s H G) [some (seqD l es), none] (.Name "value" q) (seqD l es) := fun q => e_name 0 rfl (.inl rfl) rfl
    refine bd_ret ((e_tupOf (k := false) (by rfl) mt (e_lc (own := [("term", 1)]) (g := gName 1) (F := fun d => tmD (coefOf d, rowOf d)) (ρ' := fun d => (wipeR _ [1]).set 1 (some d)) rfl sc18.nd (blkOk_by (own := [("term", 1)]) (N := ["value", "term"]) (sc := defScope (topS 18)) (by decide +kernel)) (fun _ _ _ _ _ => pg_name (i := 1) sc18.nd rfl (Or.inl rfl)) (it_seq (n0 _)) (fun d _ => gt_name (by simp)) (fun d hd => ?_) (by rw [ht.length]; omega))).eq (by rw [ht.tms]; rfl))
    obtain ⟨t, htm, hti⟩ := ht.mem d hd
    intro s0 H0 C cl fp
    rw [rowOf_is hti, coefOf_is hti]
    obtain ⟨k1, k2, rfl⟩ := hti
    exact e_tup (as_cons (e_ix (k := k1) (e_name 1 rfl (.inl rfl) rfl) e_int rfl) (as_cons (e_tupOf (k := k2) (by rfl) mt (e_ix (k := k1) (e_name 1 rfl (.inl rfl) rfl) e_int rfl)) as_nil)) (Nat.le_of_ble_eq_true rfl)
/-- need_polys, of one polynomial -/
def RNeeds (ds : List PyData) (d : PyData) : Prop := ∃ (wd : Int) (p : List Tm) (k : Bool) (es : List PyData) (x : Str), ds = [.int wd, .list [seqD k es], .str x] ∧ Tms p es ∧ Good wd p ∧ d = .tuple [polD p]
theorem fn_needs (D : Dfn K mg "need_polys" (topS 19)) (ma : mg "all" = none) (mt : mg "tuple" = none) (F : Fn P w K mg base "is_listed" 1 ["value"] (spP RListed)) (F1 : Fn P w K mg base "is_poly" 5 ["width", "value"] (spP RPoly)) (F2 : Fn P w K mg base "as_poly" 1 ["value"] (spP RAs)) :
    Fn P w K mg base "need_polys" 6 ["width", "value", "part"] (spP RNeeds) :=
  fn_pure (k := 5) D sc19 (fun ds d h => by obtain ⟨p, q, r, t, x, rfl, _⟩ := h; rfl) (fun kV doc pm an cdv ct us hl => by
    match us, hl with
    | [a, b, c], _ => rfl) fun f cdv A outer s H G hr ds d h => by
    obtain ⟨wd, p, l, es, x, rfl, ht, hg, rfl⟩ := h
    have n1 : ∀ q, E (cxB P w K mg base ["width", "value", "part", "one"] "need_polys" (topS 19) f cdv A outer s H G) [some (.int wd), some (.list [seqD l es]), some (.str x), none] (.Name "value" q) (.list [seqD l es]) := fun q => e_name 1 rfl (.inl rfl) rfl
    refine bd_ifF ((tw_or (k := false) (l := false) ((t_not (t_val (e_call F (hr.mono (by decide)) (by rfl) (as_cons (n1 _) as_nil) ⟨false, _, rfl, rfl⟩))).eq rfl) fun _ => tw_or1 ((t_not (t_val (e_all (bs := [true]) rfl (by rfl) ma (e_lc (own := [("one", 3)]) (g := gName 3) (F := fun _ => .bool true) (ρ' := fun d => (wipeR _ [3]).set 3 (some d)) rfl sc19.nd (blkOk_by (own := [("one", 3)]) (N := ["width", "value", "part", "one"]) (sc := defScope (topS 19)) (by decide +kernel)) (fun _ _ _ _ _ => pg_name (i := 3) sc19.nd rfl (Or.inl rfl)) (it_list (n1 _)) (fun d _ => gt_name (by simp)) (fun d hd => ?_) (by show 1 < 100000; decide))))).eq rfl)).t.eq rfl) (bd_ret ((e_tupOf (k := false) (by rfl) mt (e_lc (own := [("one", 3)]) (g := gName 3) (F := fun _ => polD p) (ρ' := fun d => (wipeR _ [3]).set 3 (some d)) rfl sc19.nd (blkOk_by (own := [("one", 3)]) (N := ["width", "value", "part", "one"]) (sc := defScope (topS 19)) (by decide +kernel)) (fun _ _ _ _ _ => pg_name (i := 3) sc19.nd rfl (Or.inl rfl)) (it_list (n1 _)) (fun d _ => gt_name (by simp)) (fun d hd => ?_) (by show 1 < 100000; decide))).eq rfl))
    · obtain rfl := List.mem_singleton.mp hd
      intro s0 H0 C cl fp
      exact e_call F1 hr (by rfl) (as_cons (e_name 0 rfl (.inr (.inl rfl)) rfl) (as_cons (e_name 3 rfl (.inl rfl) rfl) as_nil)) ⟨wd, p, l, es, rfl, ht, hg, rfl⟩
    · obtain rfl := List.mem_singleton.mp hd
      intro s0 H0 C cl fp
      exact e_call F2 (hr.mono (by decide)) (by rfl) (as_cons (e_name 3 rfl (.inl rfl) rfl) as_nil) ⟨p, l, es, rfl, ht, hg.l, rfl⟩
/-- need_width -/
def RWidth (ds : List PyData) (d : PyData) : Prop := ∃ wd : Int, ds = [.int wd] ∧ 0 ≤ wd ∧ wd ≤ 16 ∧ d = .none
theorem fn_width (D : Dfn K mg "need_width" (topS 20)) {u : Tok} (mM : mg "MOST_WIDTH" = some (.int 16 u)) (F : Fn P w K mg base "is_within" 2 ["value", "least", "most"] (spP RWithin)) : Fn P w K mg base "need_width" 3 ["value"] (spP RWidth) :=
  fn_blkN (k := 2) D sc20 (fun ds d h => by obtain ⟨p, rfl, _⟩ := h; rfl) (fun kV doc pm an cdv ct us hl => by
    match us, hl with
    | [a], _ => rfl) fun f cdv A outer s H G hr ds d h => by
    obtain ⟨wd, rfl, h1, h2, rfl⟩ := h
    have n0 : ∀ q, E (cxB P w K mg base ["value"] "need_width" (topS 20) f cdv A outer s H G) [some (.int wd)] (.Name "value" q) (.int wd) := fun q => e_name 0 rfl (.inl rfl) rfl
    refine bk_if1 (B := fun z => z = false) (tf_t ((t_not (t_val (e_call F hr (by rfl) (as_cons (n0 _) (as_cons e_int (as_cons (e_globI (by rfl) mM) as_nil))) ⟨wd, 0, 16, rfl, rfl⟩))).eq ?_)) (fun z => nomatch z) fun _ => bk_nil rfl
    rw [decide_eq_true h1, decide_eq_true h2]
    rfl
end
end R1

set_option Elab.async false
set_option linter.all false
set_option maxRecDepth 100000
set_option maxHeartbeats 4000000
/-! K12W4: worths, choices, products down: walks. -/
namespace R1
open PySem PySem.Spec PyProof.Rows L2 Evl
def pwF (a : Int) (q : Int × Int) : Int := a * q.1 ^ q.2.toNat
def tmW (t : Tm) (xs : List Int) : Int := (xs.zip t.2).foldl pwF t.1
def worth (p : List Tm) (xs : List Int) : Int := p.foldl (fun a t => a + tmW t xs) 0
theorem pairs_ints (a b : List Int) : pairs (a.map .int) (b.map .int) = (a.zip b).map fun q => .tuple [.int q.1, .int q.2] := by
  unfold pairs
  rw [List.zip_map, List.map_map]
  rfl
theorem foldl_take {α β : Type} (f : β → α → β) (b : β) {l : List α} {j : Nat} {x : α} (h : l[j]? = some x) : (l.take (j + 1)).foldl f b = f ((l.take j).foldl f b) x := by
  rw [List.take_add_one, h, List.foldl_append]
  rfl
theorem get_map {α : Type} {f : α → PyData} {l : List α} {j : Nat} {d : PyData} (h : (l.map f)[j]? = some d) : ∃ x, l[j]? = some x ∧ f x = d := by
  rw [List.getElem?_map] at h
  cases q : l[j]? with
  | none => rw [q] at h; cases h
  | some x => rw [q] at h; exact ⟨x, rfl, Option.some.inj h⟩
theorem get_upto {lo : Int} {n j : Nat} {d : PyData} (h : (upto lo n)[j]? = some d) : j < n ∧ d = .int (lo + (j : Int)) := by
  have hl : j < (upto lo n).length := (List.getElem?_eq_some_iff.mp h).1
  rw [upto_len] at hl
  rw [upto_get hl] at h
  exact ⟨hl, (Option.some.inj h).symm⟩
abbrev Sm (x : Int) : Prop := -(2 ^ 64) < x ∧ x < 2 ^ 64
abbrev worthN : List Str := ["poly", "numbers", "found", "coefficient", "powers", "part", "number", "count", "lap"]
theorem sc26 : FnScope worthN ["poly", "numbers"] (defScope (topS 26)) := ⟨rfl, rfl, rfl, by decide +kernel, rfl, by decide +kernel, by decide +kernel⟩
theorem sc32 : FnScope worthN ["poly", "numbers"] (defScope (topS 32)) := ⟨rfl, rfl, rfl, by decide +kernel, rfl, by decide +kernel, by decide +kernel⟩
/-- what a polynomial comes to -/
def RWorth (ds : List PyData) (d : PyData) : Prop := ∃ (p : List Tm) (k : Bool) (xs : List Int), ds = [polD p, seqD k (xs.map .int)] ∧ (∀ x ∈ xs, Sm x) ∧ (∀ t ∈ p, ∀ n ∈ t.2, 0 ≤ n ∧ n ≤ 1000) ∧ d = .int (worth p xs)
section
variable {P : Program} {w : World} {K : PySem.W.Frag} {mg : Str → Option Value} {base : Heap} {k : Nat}
theorem fn_worthAt (D : Dfn K mg "worth_at" (topS 26)) (mz : mg "zip" = none) (mr : mg "range" = none) : Fn P w K mg base "worth_at" 1 ["poly", "numbers"] (spP RWorth) :=
  fn_blk (k := 0) D sc26 (fun ds d h => by obtain ⟨p, q, r, rfl, _⟩ := h; rfl) (fun kV doc pm an cdv ct us hl => by
    match us, hl with
    | [a, b], _ => rfl) fun f cdv A outer s H G hr ds d h => by
    obtain ⟨p, l, xs, rfl, hs, hp, rfl⟩ := h
    refine bk_set (i := 2) sc26.nd rfl (.inl rfl) (ef_e e_int) fun d hd => ?_
    subst hd
    refine bk_for (ts := [3, 4]) (fun j ρ μ => ρ = [some (polD p), some (seqD l (xs.map .int)), some (.int ((p.take j).foldl (fun a t => a + tmW t xs) 0)), none, none, none, none, none, none] ∧ ∀ i, μ i = none) PassesOwn.never rfl
      (pg_tup rfl (pgs_cons (pg_name (i := 3) sc26.nd rfl (Or.inl rfl)) (pgs_cons (pg_name (i := 4) sc26.nd rfl (Or.inl rfl)) pgs_nil))) (it_tup (e_name 0 rfl (.inl rfl) rfl)) ⟨rfl, fun i => by unfold mu; split <;> rfl⟩ (fun j d ρj μj hd hI => ?_) fun ρ' μ' hI => ?_
    · obtain ⟨rfl, hμ⟩ := hI
      obtain ⟨t, ht, rfl⟩ := get_map hd
      have htm : t ∈ p := List.mem_of_getElem? ht
      refine ⟨_, gt_tup2 (by simp) (by simp), fun t _ => hμ t, ?_⟩
      refine bk_set (i := 5) sc26.nd rfl (.inl rfl) (ef_e (e_name 3 rfl (.inl rfl) rfl)) fun d hd => ?_
      subst hd
      refine bk_for (ts := [6, 7]) (fun i ρ μ => ρ = [some (polD p), some (seqD l (xs.map .int)), some (.int ((p.take j).foldl (fun a t => a + tmW t xs) 0)), some (.int t.1), some (pwD t.2), some (.int (((xs.zip t.2).take i).foldl pwF t.1)), none, none, none] ∧ ∀ i, μ i = none) PassesOwn.never rfl
        (pg_tup rfl (pgs_cons (pg_name (i := 6) sc26.nd rfl (Or.inl rfl)) (pgs_cons (pg_name (i := 7) sc26.nd rfl (Or.inl rfl)) pgs_nil))) (it_zip (k := l) (l := true) (by rfl) mz (e_name 1 rfl (.inl rfl) rfl) (e_name 4 rfl (.inl rfl) rfl)) ⟨rfl, fun i => by
          show mu μj 5 none i = none
          unfold mu
          split
          · rfl
          · exact hμ i⟩ (fun i d ρi μi hd hI => ?_) fun ρ' μ' hI => ?_
      · obtain ⟨rfl, hμ'⟩ := hI
        rw [pairs_ints] at hd
        obtain ⟨q, hq, rfl⟩ := get_map hd
        have hqm : q ∈ xs.zip t.2 := List.mem_of_getElem? hq
        have hx := hs q.1 (List.of_mem_zip hqm).1
        have hn := hp t htm q.2 (List.of_mem_zip hqm).2
        refine ⟨_, gt_tup2 (by simp) (by simp), fun t _ => hμ' t, ?_⟩
        refine bk_for (ts := [8]) (fun n ρ μ => ρ = [some (polD p), some (seqD l (xs.map .int)), some (.int ((p.take j).foldl (fun a t => a + tmW t xs) 0)), some (.int t.1), some (pwD t.2), some (.int (((xs.zip t.2).take i).foldl pwF t.1 * q.1 ^ n)), some (.int q.1), some (.int q.2), none] ∧ ∀ i, μ i = none) PassesOwn.never rfl
          (pg_name (i := 8) sc26.nd rfl (Or.inl rfl)) (it_range1 (by rfl) mr (e_name 7 rfl (.inl rfl) rfl) (by omega) (by omega)) ⟨by rw [Int.pow_zero, Int.mul_one]; rfl, hμ'⟩ (fun n d ρn μn hd hI => ?_) fun ρ' μ' hI => ?_
        · obtain ⟨rfl, hμ3⟩ := hI
          refine ⟨_, gt_name (by simp), fun t _ => hμ3 t, ?_⟩
          refine bk_set (i := 5) sc26.nd rfl (.inl rfl) (ef_e (e_mul (e_name 5 rfl (.inl rfl) rfl) (e_name 6 rfl (.inl rfl) rfl) (.inr hx))) fun d hd => ?_
          subst hd
          refine bk_forget (ρ' := [some (polD p), some (seqD l (xs.map .int)), some (.int ((p.take j).foldl (fun a t => a + tmW t xs) 0)), some (.int t.1), some (pwD t.2), some (.int (((xs.zip t.2).take i).foldl pwF t.1 * q.1 ^ n * q.1)), some (.int q.1), some (.int q.2), none]) (by repeat (first | exact .nil | refine .keep ?_ | refine .drop ?_)) (bk_nil ⟨?_, fun i => ?_⟩)
          · rw [Int.pow_succ, ← Int.mul_assoc]
          · unfold mu
            split
            · rfl
            · exact hμ3 i
        · obtain ⟨rfl, hμ3⟩ := hI
          refine bk_forget (ρ' := [some (polD p), some (seqD l (xs.map .int)), some (.int ((p.take j).foldl (fun a t => a + tmW t xs) 0)), some (.int t.1), some (pwD t.2), some (.int (((xs.zip t.2).take i).foldl pwF t.1 * q.1 ^ (upto 0 q.2.toNat).length)), none, none, none]) (by repeat (first | exact .nil | refine .keep ?_ | refine .drop ?_)) (bk_nil ⟨?_, hμ3⟩)
          rw [foldl_take pwF t.1 hq, upto_len]
          rfl
      · obtain ⟨rfl, hμ'⟩ := hI
        refine bk_set (i := 2) sc26.nd rfl (.inl rfl) (ef_e (e_add (e_name 2 rfl (.inl rfl) rfl) (e_name 5 rfl (.inl rfl) rfl))) fun d hd => ?_
        subst hd
        refine bk_forget (ρ' := [some (polD p), some (seqD l (xs.map .int)), some (.int ((p.take j).foldl (fun a t => a + tmW t xs) 0 + ((xs.zip t.2).take (pairs (xs.map .int) (t.2.map .int)).length).foldl pwF t.1)), none, none, none, none, none, none]) (by repeat (first | exact .nil | refine .keep ?_ | refine .drop ?_)) (bk_nil ⟨?_, fun i => ?_⟩)
        · rw [foldl_take (fun a t => a + tmW t xs) 0 ht, pairs_ints, List.length_map, List.take_length]
          rfl
        · unfold mu
          split
          · rfl
          · exact hμ' i
    · obtain ⟨rfl, hμ⟩ := hI
      refine bk_ret (ef_e (e_name 2 rfl (.inl rfl) rfl)) fun d hd => ?_
      subst hd
      rw [List.length_map, List.take_length]
      rfl
theorem fn_lawWorth (D : Dfn K mg "_law_worth" (topS 32)) (mz : mg "zip" = none) (mr : mg "range" = none) : Fn P w K mg base "_law_worth" 1 ["poly", "numbers"] (spP RWorth) :=
  fn_blk (k := 0) D sc32 (fun ds d h => by obtain ⟨p, q, r, rfl, _⟩ := h; rfl) (fun kV doc pm an cdv ct us hl => by
    match us, hl with
    | [a, b], _ => rfl) fun f cdv A outer s H G hr ds d h => by
    obtain ⟨p, l, xs, rfl, hs, hp, rfl⟩ := h
    refine bk_set (i := 2) sc32.nd rfl (.inl rfl) (ef_e e_int) fun d hd => ?_
    subst hd
    refine bk_for (ts := [3, 4]) (fun j ρ μ => ρ = [some (polD p), some (seqD l (xs.map .int)), some (.int ((p.take j).foldl (fun a t => a + tmW t xs) 0)), none, none, none, none, none, none] ∧ ∀ i, μ i = none) PassesOwn.never rfl
      (pg_tup rfl (pgs_cons (pg_name (i := 3) sc32.nd rfl (Or.inl rfl)) (pgs_cons (pg_name (i := 4) sc32.nd rfl (Or.inl rfl)) pgs_nil))) (it_tup (e_name 0 rfl (.inl rfl) rfl)) ⟨rfl, fun i => by unfold mu; split <;> rfl⟩ (fun j d ρj μj hd hI => ?_) fun ρ' μ' hI => ?_
    · obtain ⟨rfl, hμ⟩ := hI
      obtain ⟨t, ht, rfl⟩ := get_map hd
      have htm : t ∈ p := List.mem_of_getElem? ht
      refine ⟨_, gt_tup2 (by simp) (by simp), fun t _ => hμ t, ?_⟩
      refine bk_set (i := 5) sc32.nd rfl (.inl rfl) (ef_e (e_name 3 rfl (.inl rfl) rfl)) fun d hd => ?_
      subst hd
      refine bk_for (ts := [6, 7]) (fun i ρ μ => ρ = [some (polD p), some (seqD l (xs.map .int)), some (.int ((p.take j).foldl (fun a t => a + tmW t xs) 0)), some (.int t.1), some (pwD t.2), some (.int (((xs.zip t.2).take i).foldl pwF t.1)), none, none, none] ∧ ∀ i, μ i = none) PassesOwn.never rfl
        (pg_tup rfl (pgs_cons (pg_name (i := 6) sc32.nd rfl (Or.inl rfl)) (pgs_cons (pg_name (i := 7) sc32.nd rfl (Or.inl rfl)) pgs_nil))) (it_zip (k := l) (l := true) (by rfl) mz (e_name 1 rfl (.inl rfl) rfl) (e_name 4 rfl (.inl rfl) rfl)) ⟨rfl, fun i => by
          show mu μj 5 none i = none
          unfold mu
          split
          · rfl
          · exact hμ i⟩ (fun i d ρi μi hd hI => ?_) fun ρ' μ' hI => ?_
      · obtain ⟨rfl, hμ'⟩ := hI
        rw [pairs_ints] at hd
        obtain ⟨q, hq, rfl⟩ := get_map hd
        have hqm : q ∈ xs.zip t.2 := List.mem_of_getElem? hq
        have hx := hs q.1 (List.of_mem_zip hqm).1
        have hn := hp t htm q.2 (List.of_mem_zip hqm).2
        refine ⟨_, gt_tup2 (by simp) (by simp), fun t _ => hμ' t, ?_⟩
        refine bk_for (ts := [8]) (fun n ρ μ => ρ = [some (polD p), some (seqD l (xs.map .int)), some (.int ((p.take j).foldl (fun a t => a + tmW t xs) 0)), some (.int t.1), some (pwD t.2), some (.int (((xs.zip t.2).take i).foldl pwF t.1 * q.1 ^ n)), some (.int q.1), some (.int q.2), none] ∧ ∀ i, μ i = none) PassesOwn.never rfl
          (pg_name (i := 8) sc32.nd rfl (Or.inl rfl)) (it_range1 (by rfl) mr (e_name 7 rfl (.inl rfl) rfl) (by omega) (by omega)) ⟨by rw [Int.pow_zero, Int.mul_one]; rfl, hμ'⟩ (fun n d ρn μn hd hI => ?_) fun ρ' μ' hI => ?_
        · obtain ⟨rfl, hμ3⟩ := hI
          refine ⟨_, gt_name (by simp), fun t _ => hμ3 t, ?_⟩
          refine bk_set (i := 5) sc32.nd rfl (.inl rfl) (ef_e (e_mul (e_name 5 rfl (.inl rfl) rfl) (e_name 6 rfl (.inl rfl) rfl) (.inr hx))) fun d hd => ?_
          subst hd
          refine bk_forget (ρ' := [some (polD p), some (seqD l (xs.map .int)), some (.int ((p.take j).foldl (fun a t => a + tmW t xs) 0)), some (.int t.1), some (pwD t.2), some (.int (((xs.zip t.2).take i).foldl pwF t.1 * q.1 ^ n * q.1)), some (.int q.1), some (.int q.2), none]) (by repeat (first | exact .nil | refine .keep ?_ | refine .drop ?_)) (bk_nil ⟨?_, fun i => ?_⟩)
          · rw [Int.pow_succ, ← Int.mul_assoc]
          · unfold mu
            split
            · rfl
            · exact hμ3 i
        · obtain ⟨rfl, hμ3⟩ := hI
          refine bk_forget (ρ' := [some (polD p), some (seqD l (xs.map .int)), some (.int ((p.take j).foldl (fun a t => a + tmW t xs) 0)), some (.int t.1), some (pwD t.2), some (.int (((xs.zip t.2).take i).foldl pwF t.1 * q.1 ^ (upto 0 q.2.toNat).length)), none, none, none]) (by repeat (first | exact .nil | refine .keep ?_ | refine .drop ?_)) (bk_nil ⟨?_, hμ3⟩)
          rw [foldl_take pwF t.1 hq, upto_len]
          rfl
      · obtain ⟨rfl, hμ'⟩ := hI
        refine bk_set (i := 2) sc32.nd rfl (.inl rfl) (ef_e (e_add (e_name 2 rfl (.inl rfl) rfl) (e_name 5 rfl (.inl rfl) rfl))) fun d hd => ?_
        subst hd
        refine bk_forget (ρ' := [some (polD p), some (seqD l (xs.map .int)), some (.int ((p.take j).foldl (fun a t => a + tmW t xs) 0 + ((xs.zip t.2).take (pairs (xs.map .int) (t.2.map .int)).length).foldl pwF t.1)), none, none, none, none, none, none]) (by repeat (first | exact .nil | refine .keep ?_ | refine .drop ?_)) (bk_nil ⟨?_, fun i => ?_⟩)
        · rw [foldl_take (fun a t => a + tmW t xs) 0 ht, pairs_ints, List.length_map, List.take_length]
          rfl
        · unfold mu
          split
          · rfl
          · exact hμ' i
    · obtain ⟨rfl, hμ⟩ := hI
      refine bk_ret (ef_e (e_name 2 rfl (.inl rfl) rfl)) fun d hd => ?_
      subst hd
      rw [List.length_map, List.take_length]
      rfl
end
end R1

set_option Elab.async false
set_option linter.all false
set_option maxRecDepth 100000
set_option maxHeartbeats 4000000
/-! K12W5: choices, products down, parts: walks. -/
namespace R1
open PySem PySem.Spec PyProof.Rows L2 Evl
def cho (n : Int) : Nat → Int
  | 0 => 1
  | k + 1 => (cho n k * (n - k)).fdiv (k + 1)
def facI : Nat → Int
  | 0 => 1
  | n + 1 => facI n * (n + 1)
def stepI (acc : List Int) (q : Int × Nat) : List Int :=
  (acc.set q.2 (acc.getD q.2 0 + q.2 * q.1)).set (q.2 + 1) ((acc.set q.2 (acc.getD q.2 0 + q.2 * q.1)).getD (q.2 + 1) 0 + q.1)
def stepS (l : List Int) : List Int := l.zipIdx.foldl stepI (List.replicate (l.length + 1) 0)
def stir : Nat → List Int
  | 0 => [1]
  | n + 1 => stepS (stir n)
theorem stepI_len (acc : List Int) (q : Int × Nat) : (stepI acc q).length = acc.length := by
  unfold stepI
  rw [List.length_set, List.length_set]
theorem foldI_len : ∀ (l : List (Int × Nat)) (acc : List Int), (l.foldl stepI acc).length = acc.length
  | [], acc => rfl
  | q :: l, acc => by
    show (l.foldl stepI (stepI acc q)).length = _
    rw [foldI_len l, stepI_len]
theorem stepS_len (l : List Int) : (stepS l).length = l.length + 1 := by
  unfold stepS
  rw [foldI_len, List.length_replicate]
theorem stir_len : ∀ n, (stir n).length = n + 1
  | 0 => rfl
  | n + 1 => by
    show (stepS (stir n)).length = _
    rw [stepS_len, stir_len n]
theorem atI_nat {α : Type} {xs : List α} {i : Nat} {d : α} (h : xs[i]? = some d) : atI xs (i : Int) = some d := by
  have hi : i < xs.length := (List.getElem?_eq_some_iff.mp h).1
  unfold atI ixN
  rw [if_pos (by omega), if_pos (by omega)]
  exact h
theorem ixN_nat {n i : Nat} (h : i < n) : ixN n (i : Int) = some i := by
  unfold ixN
  rw [if_pos (by omega), if_pos (by omega)]
  simp
theorem get_counted {ds : List PyData} {j : Nat} {d : PyData} (h : (counted ds)[j]? = some d) : ∃ x, ds[j]? = some x ∧ d = .tuple [.int (j : Int), x] := by
  have hl : j < (counted ds).length := (List.getElem?_eq_some_iff.mp h).1
  rw [counted_len] at hl
  have := counted_get (List.getElem?_eq_getElem hl)
  rw [h] at this
  exact ⟨_, List.getElem?_eq_getElem hl, Option.some.inj this⟩
theorem get_list {α : Type} {xs : List α} {i : Nat} {d : α} (h : i < xs.length) (e : xs.getD i d = d) : True := trivial
theorem map_getD {l : List Int} {i : Nat} (h : i < l.length) : (l.map PyData.int)[i]? = some (.int (l.getD i 0)) := by
  rw [List.getElem?_map, List.getElem?_eq_getElem h, List.getD_eq_getElem?_getD, List.getElem?_eq_getElem h]
  rfl
theorem sc38 : FnScope ["count", "some", "found", "at"] ["count", "some"] (defScope (topS 38)) := ⟨rfl, rfl, rfl, by decide +kernel, rfl, by decide +kernel, by decide +kernel⟩
theorem sc39 : FnScope ["count", "found", "step"] ["count"] (defScope (topS 39)) := ⟨rfl, rfl, rfl, by decide +kernel, rfl, by decide +kernel, by decide +kernel⟩
theorem sc22 : FnScope ["count", "found", "lap", "later", "at", "number"] ["count"] (defScope (topS 22)) := ⟨rfl, rfl, rfl, by decide +kernel, rfl, by decide +kernel, by decide +kernel⟩
def RCho (ds : List PyData) (d : PyData) : Prop := ∃ n k : Int, ds = [.int n, .int k] ∧ 0 ≤ n ∧ n ≤ 1000 ∧ 0 ≤ k ∧ k ≤ 1000 ∧ d = .int (cho n k.toNat)
def RDown (ds : List PyData) (d : PyData) : Prop := ∃ n : Int, ds = [.int n] ∧ 0 ≤ n ∧ n ≤ 1000 ∧ d = .int (facI n.toNat)
def RParts (ds : List PyData) (d : PyData) : Prop := ∃ n : Int, ds = [.int n] ∧ 0 ≤ n ∧ n ≤ 1000 ∧ d = .list ((stir n.toNat).map .int)
section
variable {P : Program} {w : World} {K : PySem.W.Frag} {mg : Str → Option Value} {base : Heap} {k : Nat}
theorem fn_cho (D : Dfn K mg "_law_choose" (topS 38)) (mr : mg "range" = none) : Fn P w K mg base "_law_choose" 1 ["count", "some"] (spP RCho) :=
  fn_blk (k := 0) D sc38 (fun ds d h => by obtain ⟨p, q, rfl, _⟩ := h; rfl) (fun kV doc pm an cdv ct us hl => by
    match us, hl with
    | [a, b], _ => rfl) fun f cdv A outer s H G hr ds d h => by
    obtain ⟨n, k, rfl, h1, h2, h3, h4, rfl⟩ := h
    refine bk_set (i := 2) sc38.nd rfl (.inl rfl) (ef_e e_int) fun d hd => ?_
    subst hd
    refine bk_for (ts := [3]) (fun j ρ μ => ρ = [some (.int n), some (.int k), some (.int (cho n j)), none] ∧ ∀ i, μ i = none) PassesOwn.never rfl
      (pg_name (i := 3) sc38.nd rfl (Or.inl rfl)) (it_range1 (by rfl) mr (e_name 1 rfl (.inl rfl) rfl)) ⟨rfl, fun i => by unfold mu; split <;> rfl⟩ (fun j d ρj μj hd hI => ?_) fun ρ' μ' hI => ?_
    · obtain ⟨rfl, hμ⟩ := hI
      obtain ⟨hj, rfl⟩ := get_upto hd
      refine ⟨_, gt_name (by simp), fun t _ => hμ t, ?_⟩
      refine bk_set (i := 2) sc38.nd rfl (.inl rfl) (ef_e (e_fdiv (e_mul (e_name 2 rfl (.inl rfl) rfl) (e_sub (e_name 0 rfl (.inl rfl) rfl) (e_name 3 rfl (.inl rfl) rfl)) (.inr ⟨by omega, by omega⟩)) (e_add (e_name 3 rfl (.inl rfl) rfl) e_int) ⟨by omega, by omega⟩)) fun d hd => ?_
      subst hd
      refine bk_forget (ρ' := [some (.int n), some (.int k), some (.int ((cho n j * (n - (0 + (j : Int)))).fdiv (0 + (j : Int) + 1))), none]) (by repeat (first | exact .nil | refine .keep ?_ | refine .drop ?_)) (bk_nil ⟨?_, fun i => ?_⟩)
      · rw [Int.zero_add]
        rfl
      · unfold mu
        split
        · rfl
        · exact hμ i
    · obtain ⟨rfl, hμ⟩ := hI
      refine bk_ret (ef_e (e_name 2 rfl (.inl rfl) rfl)) fun d hd => ?_
      subst hd
      rw [upto_len]
theorem fn_down (D : Dfn K mg "_law_down" (topS 39)) (mr : mg "range" = none) : Fn P w K mg base "_law_down" 1 ["count"] (spP RDown) :=
  fn_blk (k := 0) D sc39 (fun ds d h => by obtain ⟨p, rfl, _⟩ := h; rfl) (fun kV doc pm an cdv ct us hl => by
    match us, hl with
    | [a], _ => rfl) fun f cdv A outer s H G hr ds d h => by
    obtain ⟨n, rfl, h1, h2, rfl⟩ := h
    refine bk_set (i := 1) sc39.nd rfl (.inl rfl) (ef_e e_int) fun d hd => ?_
    subst hd
    refine bk_for (ts := [2]) (fun j ρ μ => ρ = [some (.int n), some (.int (facI (j + 1))), none] ∧ ∀ i, μ i = none) PassesOwn.never rfl
      (pg_name (i := 2) sc39.nd rfl (Or.inl rfl)) (it_range2 (by rfl) mr e_int (e_add (e_name 0 rfl (.inl rfl) rfl) e_int)) ⟨rfl, fun i => by unfold mu; split <;> rfl⟩ (fun j d ρj μj hd hI => ?_) fun ρ' μ' hI => ?_
    · obtain ⟨rfl, hμ⟩ := hI
      obtain ⟨hj, rfl⟩ := get_upto hd
      refine ⟨_, gt_name (by simp), fun t _ => hμ t, ?_⟩
      refine bk_set (i := 1) sc39.nd rfl (.inl rfl) (ef_e (e_mul (e_name 1 rfl (.inl rfl) rfl) (e_name 2 rfl (.inl rfl) rfl) (.inr ⟨by omega, by omega⟩))) fun d hd => ?_
      subst hd
      refine bk_forget (ρ' := [some (.int n), some (.int (facI (j + 1) * (2 + (j : Int)))), none]) (by repeat (first | exact .nil | refine .keep ?_ | refine .drop ?_)) (bk_nil ⟨?_, fun i => ?_⟩)
      · have e : facI (j + 1 + 1) = facI (j + 1) * (2 + (j : Int)) := by
          show facI (j + 1) * (((j + 1 : Nat) : Int) + 1) = _
          congr 1
          omega
        rw [e]
      · unfold mu
        split
        · rfl
        · exact hμ i
    · obtain ⟨rfl, hμ⟩ := hI
      refine bk_ret (ef_e (e_name 1 rfl (.inl rfl) rfl)) fun d hd => ?_
      subst hd
      rw [upto_len]
      congr 1
      by_cases h0 : n = 0
      · subst h0
        rfl
      · congr 1
        omega
theorem fn_parts (D : Dfn K mg "parts_of" (topS 22)) (mr : mg "range" = none) (me : mg "enumerate" = none) (ml : mg "len" = none) : Fn P w K mg base "parts_of" 1 ["count"] (spP RParts) :=
  fn_blk (k := 0) D sc22 (fun ds d h => by obtain ⟨p, rfl, _⟩ := h; rfl) (fun kV doc pm an cdv ct us hl => by
    match us, hl with
    | [a], _ => rfl) fun f cdv A outer s H G hr ds d h => by
    obtain ⟨n, rfl, h1, h2, rfl⟩ := h
    refine bk_set (i := 1) sc22.nd rfl (.inl rfl) (ef_e (e_lst (x1 := 0) (as_cons e_int as_nil) (by decide))) fun d hd => ?_
    subst hd
    refine bk_for (ts := [2]) (fun j ρ μ => ρ = [some (.int n), some (.list ((stir j).map .int)), none, none, none, none] ∧ ∀ i, μ i = none) PassesOwn.never rfl
      (pg_name (i := 2) sc22.nd rfl (Or.inl rfl)) (it_range1 (by rfl) mr (e_name 0 rfl (.inl rfl) rfl)) ⟨rfl, fun i => by unfold mu; split <;> rfl⟩ (fun j d ρj μj hd hI => ?_) fun ρ' μ' hI => ?_
    · obtain ⟨rfl, hμ⟩ := hI
      obtain ⟨hj, rfl⟩ := get_upto hd
      have hlen : ((stir j).map PyData.int).length = j + 1 := by rw [List.length_map, stir_len]
      refine ⟨_, gt_name (by simp), fun t _ => hμ t, ?_⟩
      refine bk_own (i := 3) sc22.nd rfl (.inl rfl) (en_rep (e_lst (x1 := 0) (as_cons e_int as_nil) (by decide)) (e_add (e_len (k := false) (by rfl) ml (e_name 1 rfl (.inl rfl) rfl)) e_int) ?_ ?_ ?_) rfl (by show 3 < 6; decide) ?_
      · rw [hlen]
        show 1 * _ ≤ _
        omega
      · rw [hlen]; omega
      · rw [hlen]; omega
      · refine bk_for (ts := [4, 5]) (fun i ρ μ => ρ = [some (.int n), some (.list ((stir j).map .int)), some (.int (0 + (j : Int))), none, none, none] ∧ μ 3 = some (.lst ((((stir j).zipIdx.take i).foldl stepI (List.replicate ((stir j).length + 1) 0)).map .int)) ∧ ∀ i, i ≠ 3 → μ i = none) PassesOwn.never rfl
          (pg_tup rfl (pgs_cons (pg_name (i := 4) sc22.nd rfl (Or.inl rfl)) (pgs_cons (pg_name (i := 5) sc22.nd rfl (Or.inl rfl)) pgs_nil))) (it_enum (k := false) (by rfl) me (e_name 1 rfl (.inl rfl) rfl)) ⟨rfl, ?_, fun i hi => by rw [mu_ne hi]; exact hμ i⟩ (fun i d ρi μi hd hI => ?_) fun ρ' μ' hI => ?_
        · rw [mu_same, hlen, stir_len]
          congr 2
          have e : (((j + 1 : Nat) : Int) + 1).toNat = j + 1 + 1 := by omega
          rw [e]
          show (List.replicate (j + 1 + 1) [PyData.int 0]).flatten = (List.replicate (j + 1 + 1) (0 : Int)).map PyData.int
          rw [List.map_replicate, List.flatten_replicate_singleton]
        · obtain ⟨rfl, hm, hμ'⟩ := hI
          obtain ⟨x, hx, rfl⟩ := get_counted hd
          obtain ⟨y, hy, rfl⟩ := get_map hx
          have hi : i < (stir j).length := (List.getElem?_eq_some_iff.mp hy).1
          have hz : (stir j).zipIdx[i]? = some (y, i) := by
            rw [List.getElem?_zipIdx, hy]
            simp
          rw [foldl_take stepI _ hz]
          generalize hacc : ((stir j).zipIdx.take i).foldl stepI (List.replicate ((stir j).length + 1) 0) = acc at hm ⊢
          have hal : acc.length = (stir j).length + 1 := by rw [← hacc, foldI_len, List.length_replicate]
          refine ⟨_, gt_tup2 (by simp) (by simp), fun t ht => hμ' t (by simp at ht; omega), ?_⟩
          refine bk_lput (i := 3) (n := (i : Int)) (m := i) (ef_peek hm (e_add (e_ix (k := false) (e_name 3 rfl (.inl rfl) rfl) (e_name 4 rfl (.inl rfl) rfl) (atI_nat (map_getD (by omega)))) (e_mul (e_name 4 rfl (.inl rfl) rfl) (e_name 5 rfl (.inl rfl) rfl) (.inl ⟨by rw [stir_len] at hi; omega, by rw [stir_len] at hi; omega⟩))) trivial) hm rfl (.inl rfl) (e_name 4 rfl (.inl rfl) rfl) (ixN_nat (by rw [List.length_map]; omega)) fun d hd => ?_
          subst hd
          have e1 : (acc.map PyData.int).set i (.int (acc.getD i 0 + (i : Int) * y)) = (acc.set i (acc.getD i 0 + (i : Int) * y)).map .int := by rw [List.map_set]
          have hm2 : mu μi 3 (some (.lst ((acc.map PyData.int).set i (.int (acc.getD i 0 + (i : Int) * y))))) 3 = some (.lst ((acc.set i (acc.getD i 0 + (i : Int) * y)).map .int)) := by rw [mu_same, e1]
          have e3 : ((i : Int) + 1) = ((i + 1 : Nat) : Int) := by omega
          refine bk_lput (i := 3) (n := (i : Int) + 1) (m := i + 1) (ef_peek hm2 (e_add (e_ix (k := false) (e_name 3 rfl (.inl rfl) rfl) (e_add (e_name 4 rfl (.inl rfl) rfl) e_int) (by rw [e3]; exact atI_nat (map_getD (by rw [List.length_set]; omega)))) (e_name 5 rfl (.inl rfl) rfl)) trivial) hm2 rfl (.inl rfl) (e_add (e_name 4 rfl (.inl rfl) rfl) e_int) (by rw [e3]; exact ixN_nat (by rw [List.length_map, List.length_set]; omega)) fun d hd => ?_
          subst hd
          refine bk_forget (ρ' := [some (.int n), some (.list ((stir j).map .int)), some (.int (0 + (j : Int))), none, none, none]) (by repeat (first | exact .nil | refine .keep ?_ | refine .drop ?_)) (bk_nil ⟨rfl, ?_, fun t ht => ?_⟩)
          · rw [mu_same, ← List.map_set]
            rfl
          · rw [mu_ne ht, mu_ne ht]
            exact hμ' t ht
        · obtain ⟨rfl, hm, hμ'⟩ := hI
          refine bk_freeze (i := 3) hm ?_
          refine bk_set (i := 1) sc22.nd rfl (.inl rfl) (ef_e (e_name 3 rfl (.inl rfl) rfl)) fun d hd => ?_
          subst hd
          refine bk_forget (ρ' := [some (.int n), some (.list ((((stir j).zipIdx.take (counted ((stir j).map .int)).length).foldl stepI (List.replicate ((stir j).length + 1) 0)).map .int)), none, none, none, none]) (by repeat (first | exact .nil | refine .keep ?_ | refine .drop ?_)) (bk_nil ⟨?_, fun t => ?_⟩)
          · have e : (stir j).zipIdx.take (counted ((stir j).map .int)).length = (stir j).zipIdx := by
              rw [counted_len, List.length_map]
              exact List.take_of_length_le (by rw [List.length_zipIdx]; exact Nat.le_refl _)
            rw [e]
            rfl
          · unfold mu
            by_cases h1 : t = 1
            · rw [if_pos h1]
            · rw [if_neg h1]
              by_cases h3 : t = 3
              · rw [if_pos h3]
              · rw [if_neg h3]
                exact hμ' t h3
    · obtain ⟨rfl, hμ⟩ := hI
      refine bk_ret (ef_e (e_name 1 rfl (.inl rfl) rfl)) fun d hd => ?_
      subst hd
      rw [upto_len]
end
end R1

set_option Elab.async false
set_option linter.all false
set_option maxRecDepth 100000
set_option maxHeartbeats 4000000
/-! K12W6: falling_of: the walk. -/
namespace R1
open PySem PySem.Spec PyProof.Rows L2 Evl
/-! ### dicts from rows to whole numbers -/
abbrev KI := List (List Int × Int)
def kiD (m : KI) : List (List Int × PyData) := m.map fun q => (q.1, .int q.2)
def kiGet (m : KI) (p : List Int) : Int := ((m.find? fun q => decide (q.1 = p)).map (·.2)).getD 0
def kiPut (m : KI) (p : List Int) (c : Int) : KI := if (m.any fun q => decide (q.1 = p)) = true then m.map (fun q => if q.1 = p then (q.1, c) else q) else m ++ [(p, c)]
def kiAdd (m : KI) (p : List Int) (c : Int) : KI := kiPut m p (kiGet m p + c)
theorem kvGet_kiD (p : List Int) : ∀ m : KI, (kvGet (kiD m) p).getD (.int 0) = .int (kiGet m p)
  | [] => rfl
  | q :: m => by
    by_cases e : q.1 = p
    · have h1 : kvGet (kiD (q :: m)) p = some (.int q.2) := kvGet_pos (q := (q.1, .int q.2)) e
      have h2 : kiGet (q :: m) p = q.2 := by simp [kiGet, List.find?_cons, e]
      rw [h1, h2]
      rfl
    · have h1 : kvGet (kiD (q :: m)) p = kvGet (kiD m) p := kvGet_neg (q := (q.1, .int q.2)) e
      have h2 : kiGet (q :: m) p = kiGet m p := by simp [kiGet, List.find?_cons, e]
      rw [h1, h2, kvGet_kiD p m]
theorem kvGet_kiD' {p : List Int} : ∀ {m : KI}, p ∈ m.map (·.1) → kvGet (kiD m) p = some (.int (kiGet m p))
  | q :: m, h => by
    by_cases e : q.1 = p
    · have h1 : kvGet (kiD (q :: m)) p = some (.int q.2) := kvGet_pos (q := (q.1, .int q.2)) e
      have h2 : kiGet (q :: m) p = q.2 := by simp [kiGet, List.find?_cons, e]
      rw [h1, h2]
    · have h1 : kvGet (kiD (q :: m)) p = kvGet (kiD m) p := kvGet_neg (q := (q.1, .int q.2)) e
      have h2 : kiGet (q :: m) p = kiGet m p := by simp [kiGet, List.find?_cons, e]
      rw [h1, h2]
      refine kvGet_kiD' ?_
      rw [List.map_cons] at h
      exact (List.mem_cons.mp h).resolve_left fun z => e z.symm
theorem kvPut_kiD (p : List Int) (c : Int) (m : KI) : kvPut (kiD m) p (.int c) = kiD (kiPut m p c) := by
  unfold kvPut kiPut
  have h1 : ((kiD m).any fun kv => decide (kv.1 = p)) = m.any fun q => decide (q.1 = p) := by
    unfold kiD
    rw [List.any_map]
    rfl
  rw [h1]
  split
  · unfold kiD
    rw [List.map_map, List.map_map]
    refine List.map_congr_left fun q _ => ?_
    show (if q.1 = p then (q.1, PyData.int c) else (q.1, PyData.int q.2)) = (fun z : List Int × Int => (z.1, PyData.int z.2)) (if q.1 = p then (q.1, c) else q)
    by_cases e : q.1 = p
    · rw [if_pos e, if_pos e]
    · rw [if_neg e, if_neg e]
  · unfold kiD
    rw [List.map_append]
    rfl
theorem kiPut_len (m : KI) (p : List Int) (c : Int) : (kiPut m p c).length ≤ m.length + 1 := by
  unfold kiPut
  split
  · rw [List.length_map]; omega
  · rw [List.length_append, List.length_singleton]; omega
theorem kiAdd_len (m : KI) (p : List Int) (c : Int) : (kiAdd m p c).length ≤ m.length + 1 := kiPut_len _ _ _
theorem kiD_len (m : KI) : (kiD m).length = m.length := List.length_map _
theorem fold_len {α : Type} {f : KI → α → KI} {c : Nat} (h : ∀ b a, (f b a).length ≤ b.length + c) : ∀ (l : List α) (b : KI), (l.foldl f b).length ≤ b.length + c * l.length
  | [], b => by simp
  | a :: l, b => by
    have h1 := fold_len h l (f b a)
    have h2 := h b a
    show (l.foldl f (f b a)).length ≤ _
    rw [List.length_cons, Nat.mul_succ]
    omega
/-- one row moved along -/
def cellF (q : List Int × Int) (l : KI) (z : Int × Nat) : KI := if z.1 ≠ 0 then kiAdd l (q.1 ++ [(z.2 : Int)]) (q.2 * z.1) else l
def rowF (c : Int) (l : KI) (q : List Int × Int) : KI := (stir c.toNat).zipIdx.foldl (cellF q) l
def rowsF (rows : KI) (c : Int) : KI := rows.foldl (rowF c) []
def rowsOf (t : Tm) : KI := t.2.foldl rowsF [([], t.1)]
def putF (f : KI) (q : List Int × Int) : KI := kiAdd f q.1 q.2
def fallF (f : KI) (t : Tm) : KI := (rowsOf t).foldl putF f
def fallD (p : List Tm) : KI := p.foldl fallF []
def fall (p : List Tm) : List Tm := (srtP (((fallD p).filter fun q => decide (q.2 ≠ 0)).map (·.1))).map fun q => (kiGet (fallD p) q, q)
theorem cellF_len (q : List Int × Int) (l : KI) (z : Int × Nat) : (cellF q l z).length ≤ l.length + 1 := by
  unfold cellF
  split
  · exact kiAdd_len _ _ _
  · omega
theorem cells_len (q : List Int × Int) (l : KI) (zs : List (Int × Nat)) : (zs.foldl (cellF q) l).length ≤ l.length + zs.length := by
  have := fold_len (c := 1) (cellF_len q) zs l
  omega
theorem rowF_len {c : Int} (hc : c ≤ 6) (l : KI) (q : List Int × Int) : (rowF c l q).length ≤ l.length + 7 := by
  have := cells_len q l (stir c.toNat).zipIdx
  rw [List.length_zipIdx, stir_len] at this
  unfold rowF
  omega
theorem rows_len {c : Int} (hc : c ≤ 6) (l : KI) (rs : KI) : (rs.foldl (rowF c) l).length ≤ l.length + 7 * rs.length := fold_len (rowF_len hc) rs l
theorem rowsOf_len : ∀ (cs : List Int) (b : KI), (∀ c ∈ cs, c ≤ 6) → (cs.foldl rowsF b).length ≤ b.length * 7 ^ cs.length
  | [], b, _ => by simp
  | c :: cs, b, h => by
    have h1 := rowsOf_len cs (rowsF b c) fun x hx => h x (.tail _ hx)
    have h2 := rows_len (h c (.head _)) [] b
    rw [List.length_nil, Nat.zero_add] at h2
    have h3 : (rowsF b c).length * 7 ^ cs.length ≤ 7 * b.length * 7 ^ cs.length := Nat.mul_le_mul_right _ h2
    show (cs.foldl rowsF (rowsF b c)).length ≤ _
    rw [List.length_cons, Nat.pow_succ]
    have h4 : 7 * b.length * 7 ^ cs.length = b.length * (7 ^ cs.length * 7) := by
      rw [Nat.mul_comm 7 b.length, Nat.mul_assoc, Nat.mul_comm 7]
    omega
structure TmS (t : Tm) : Prop where
  l : t.2.length ≤ 3
  n : ∀ x ∈ t.2, 0 ≤ x ∧ x ≤ 6
theorem pow7 {n : Nat} (h : n ≤ 3) : 7 ^ n ≤ 343 := by
  match n, h with
  | 0, _ => decide
  | 1, _ => decide
  | 2, _ => decide
  | 3, _ => decide
theorem partial_len {t : Tm} (h : TmS t) (i : Nat) : ((t.2.take i).foldl rowsF [([], t.1)]).length ≤ 343 := by
  have h1 := rowsOf_len (t.2.take i) [([], t.1)] fun c hc => (h.n c (List.mem_of_mem_take hc)).2
  have h2 : (t.2.take i).length ≤ 3 := by rw [List.length_take]; have := h.l; omega
  have h3 := pow7 h2
  rw [List.length_singleton, Nat.one_mul] at h1
  omega
theorem rowsOf_343 {t : Tm} (h : TmS t) : (rowsOf t).length ≤ 343 := by
  have := partial_len h t.2.length
  rwa [List.take_length] at this
theorem fallF_len {f : KI} {t : Tm} (h : TmS t) : (fallF f t).length ≤ f.length + 343 := by
  have h1 := fold_len (c := 1) (f := putF) (fun b a => kiAdd_len _ _ _) (rowsOf t) f
  have h2 := rowsOf_343 h
  unfold fallF
  omega
theorem fallD_len : ∀ (p : List Tm) (f : KI), (∀ t ∈ p, TmS t) → (p.foldl fallF f).length ≤ f.length + 343 * p.length
  | [], f, _ => by simp
  | t :: p, f, h => by
    have h1 := fallD_len p (fallF f t) fun x hx => h x (.tail _ hx)
    have h2 := fallF_len (f := f) (h t (.head _))
    show (p.foldl fallF (fallF f t)).length ≤ _
    rw [List.length_cons]
    omega
theorem kiPut_mem {m : KI} {p q : List Int} {c : Int} (h : q ∈ (kiPut m p c).map (·.1)) : q ∈ m.map (·.1) ∨ q = p := by
  unfold kiPut at h
  split at h
  · left
    rw [List.map_map] at h
    obtain ⟨z, hz, rfl⟩ := List.mem_map.mp h
    refine List.mem_map.mpr ⟨z, hz, ?_⟩
    show z.1 = (if z.1 = p then (z.1, c) else z).1
    split <;> rfl
  · rw [List.map_append] at h
    rcases List.mem_append.mp h with h | h
    · exact .inl h
    · exact .inr (List.mem_singleton.mp h)
def AllLen (n : Nat) (m : KI) : Prop := ∀ q ∈ m.map (·.1), q.length = n
theorem allLen_add {n : Nat} {m : KI} {p : List Int} {c : Int} (h : AllLen n m) (hp : p.length = n) : AllLen n (kiAdd m p c) := fun q hq => by
  rcases kiPut_mem hq with h1 | rfl
  · exact h q h1
  · exact hp
theorem allLen_cells {n : Nat} {q : List Int × Int} (hq : q.1.length = n) : ∀ (zs : List (Int × Nat)) (l : KI), AllLen (n + 1) l → AllLen (n + 1) (zs.foldl (cellF q) l)
  | [], l, h => h
  | z :: zs, l, h => by
    refine allLen_cells hq zs (cellF q l z) ?_
    unfold cellF
    split
    · exact allLen_add h (by rw [List.length_append, hq]; rfl)
    · exact h
theorem allLen_rows {n : Nat} {c : Int} : ∀ (rs l : KI), AllLen n rs → AllLen (n + 1) l → AllLen (n + 1) (rs.foldl (rowF c) l)
  | [], l, _, h => h
  | q :: rs, l, hr, h => by
    refine allLen_rows rs (rowF c l q) (fun x hx => hr x (by rw [List.map_cons]; exact .tail _ hx)) ?_
    exact allLen_cells (hr q.1 (by rw [List.map_cons]; exact .head _)) _ _ h
theorem allLen_fold : ∀ (cs : List Int) (n : Nat) (b : KI), AllLen n b → AllLen (n + cs.length) (cs.foldl rowsF b)
  | [], n, b, h => h
  | c :: cs, n, b, h => by
    have := allLen_fold cs (n + 1) (rowsF b c) (allLen_rows b [] h (fun q hq => nomatch hq))
    rw [List.length_cons, Nat.add_comm cs.length 1, ← Nat.add_assoc]
    exact this
theorem partial_keys {t : Tm} (i : Nat) : AllLen (t.2.take i).length ((t.2.take i).foldl rowsF [([], t.1)]) := by
  have := allLen_fold (t.2.take i) 0 [([], t.1)] fun q hq => by
    have hq : q ∈ [([] : List Int)] := hq
    rw [List.mem_singleton.mp hq]
    rfl
  rwa [Nat.zero_add] at this
theorem stir_small : ∀ n, n ≤ 6 → ∀ x ∈ stir n, 0 ≤ x ∧ x ≤ 1000 := by decide +kernel
section
variable {X : Cx} {ρ : Ro} {μ : Mo} {rest : List Stmt} {N : Ro → Mo → Prop} {R : PyData → Mo → Prop} {i : Nat} {y : Str} {py : Pos} {elt c tg iter : Expr} {scope : Scope} {own : List (Str × Nat)} {pos spos : Pos} {g : TG} {ds : List PyData} {F : PyData → PyData} {f : PyData → Bool} {ρ' : PyData → Ro}
/-- name = [elt for .. if ..] on one line -/
theorem bk_setLcIf (hc : X.calm = true) (hN : X.N.Nodup) (hy : X.N[i]? = some y) (hyl : X.env.scope.names.lookup y = some .local) (hsw : swapsWith (.ListComp elt [⟨tg, iter, [c], 0⟩] scope pos) (some (.Name y py)) spos.line X.env = pure true)
    (ok : BlkOk X.N X.env.scope scope own) (hg : PGb X scope tg g) (it : IT X ρ tg iter ds) (gt : ∀ d, d ∈ ds → Gt g (own.map (·.2)) (wipeR ρ (own.map (·.2))) d (ρ' d)) (ht : ∀ d, d ∈ ds → Tb X scope (ρ' d) c (f d)) (he : ∀ d, d ∈ ds → f d = true → Eb X scope (ρ' d) elt (F d)) (hl : ds.length < 100000)
    (k : Bk X (ρ.set i (some (.list ((ds.filter f).map F)))) (mu μ i none) rest N R) (hs : ∀ x, foldedSetIterable iter X.env x = pure x := by intro _; rfl) : Bk X ρ μ (.Assign [.Name y py] (.ListComp elt [⟨tg, iter, [c], 0⟩] scope pos) spos :: rest) N R := fun S I0 H0 I H σ α D G qn qr =>
  ws_cons (ps_setLc (wi := WI X tg iter) (g := g) (tt := WTb X scope c) (te := WEb X scope elt) hc hN hy hyl hsw pi_wi ok hg (fun s H C cl fp => pts_one ⟨fun pins s' σ H' Q I h => h s H C cl fp pins s' I⟩) (fun s H C cl fp => ⟨fun pins s' σ H' Q I h => h s H C cl fp pins s' I⟩) hs)
    (tlcIf it gt ht he hl G.e G.v _ fun v I1 H1 n1 r1 => k S I0 H0 I1 H1 _ α D ((G.step n1).set r1) qn qr)
theorem bk_setLc (hc : X.calm = true) (hN : X.N.Nodup) (hy : X.N[i]? = some y) (hyl : X.env.scope.names.lookup y = some .local) (hsw : swapsWith (.ListComp elt [⟨tg, iter, [], 0⟩] scope pos) (some (.Name y py)) spos.line X.env = pure true)
    (ok : BlkOk X.N X.env.scope scope own) (hg : PGb X scope tg g) (it : IT X ρ tg iter ds) (gt : ∀ d, d ∈ ds → Gt g (own.map (·.2)) (wipeR ρ (own.map (·.2))) d (ρ' d)) (he : ∀ d, d ∈ ds → Eb X scope (ρ' d) elt (F d)) (hl : ds.length < 100000)
    (k : Bk X (ρ.set i (some (.list (ds.map F)))) (mu μ i none) rest N R) (hs : ∀ x, foldedSetIterable iter X.env x = pure x := by intro _; rfl) : Bk X ρ μ (.Assign [.Name y py] (.ListComp elt [⟨tg, iter, [], 0⟩] scope pos) spos :: rest) N R := fun S I0 H0 I H σ α D G qn qr =>
  ws_cons (ps_setLc (wi := WI X tg iter) (g := g) (tt := tYes) (te := WEb X scope elt) hc hN hy hyl hsw pi_wi ok hg (fun s H C cl fp => pts_nil) (fun s H C cl fp => ⟨fun pins s' σ H' Q I h => h s H C cl fp pins s' I⟩) hs)
    (tlc it gt he hl G.e G.v _ fun v I1 H1 n1 r1 => k S I0 H0 I1 H1 _ α D ((G.step n1).set r1) qn qr)
end
end R1

set_option Elab.async false
set_option linter.all false
set_option maxRecDepth 100000
set_option maxHeartbeats 4000000
/-! K12W7: falling_of: the walk. -/
namespace R1
open PySem PySem.Spec PyProof.Rows L2 Evl
abbrev fallN : List Str := ["poly", "found", "coefficient", "powers", "rows", "count", "later", "ahead", "number", "at", "times", "falls", "some"]
theorem sc23 : FnScope fallN ["poly"] (defScope (topS 23)) := ⟨rfl, rfl, rfl, by decide +kernel, rfl, by decide +kernel, by decide +kernel⟩
def RFall (ds : List PyData) (d : PyData) : Prop := ∃ p : List Tm, ds = [polD p] ∧ (∀ t ∈ p, TmS t) ∧ p.length ≤ 100 ∧ d = polD (fall p)
theorem mu2 {μ : Mo} {i : Nat} {m : Option MD} (h : ∀ t, t ≠ i → μ t = none) : ∀ t, t ≠ i → mu μ i m t = none := fun t ht => by rw [mu_ne ht]; exact h t ht
theorem mu0 {μ : Mo} {i j : Nat} (h : ∀ t, t ≠ i → μ t = none) (hj : j ≠ i) : ∀ t, t ≠ i → mu μ j none t = none := fun t ht => by
  unfold mu
  split
  · rfl
  · exact h t ht
def fstD : PyData → PyData
  | .tuple (a :: _) => a
  | _ => .none
def sndD : PyData → PyData
  | .tuple (_ :: b :: _) => b
  | _ => .none
def nzD (d : PyData) : Bool := match sndD d with
  | .int i => !decide (i = 0)
  | _ => false
section
variable {P : Program} {w : World} {K : PySem.W.Frag} {mg : Str → Option Value} {base : Heap} {k : Nat}
set_option maxHeartbeats 20000000 in
theorem fn_fall (D : Dfn K mg "falling_of" (topS 23)) (me : mg "enumerate" = none) (mt : mg "tuple" = none) (ms : mg "sorted" = none) (FP : Fn P w K mg base "parts_of" 1 ["count"] (spP RParts)) (FR : Fn P w K mg base "rank_of" 1 ["powers"] (spP RkR)) : Fn P w K mg base "falling_of" 4 ["poly"] (spP RFall) :=
  fn_blk (k := 3) D sc23 (fun ds d h => by obtain ⟨p, rfl, _⟩ := h; rfl) (fun kV doc pm an cdv ct us hl => by
    match us, hl with
    | [a], _ => rfl) fun f cdv A outer s H G hr ds d h => by
    obtain ⟨p, rfl, hp, hpl, rfl⟩ := h
    have hu : (cxB P w K mg base fallN "falling_of" (topS 23) f cdv A outer s H G).A.units + 64 < cLine := hr.units
    have hu1 : (cxB P w K mg base fallN "falling_of" (topS 23) f cdv A outer s H G).A.units + 1 < cLine := by omega
    refine bk_own (i := 1) sc23.nd rfl (.inr rfl) en_dict rfl (by show 1 < 13; decide) ?_
    refine bk_for (ts := [2, 3]) (fun j ρ μ => ρ = [some (polD p), none, none, none, none, none, none, none, none, none, none, none, none] ∧ μ 1 = some (.dct (kiD ((p.take j).foldl fallF []))) ∧ ∀ i, i ≠ 1 → μ i = none) PassesOwn.never rfl
      (pg_tup rfl (pgs_cons (pg_name (i := 2) sc23.nd rfl (Or.inl rfl)) (pgs_cons (pg_name (i := 3) sc23.nd rfl (Or.inl rfl)) pgs_nil))) (it_tup (e_name 0 rfl (.inl rfl) rfl)) ⟨rfl, mu_same, mu2 fun _ _ => rfl⟩ (fun j d ρj μj hd hI => ?_) fun ρ' μ' hI => ?_
    · obtain ⟨rfl, hm, hμ⟩ := hI
      obtain ⟨t, ht, rfl⟩ := get_map hd
      have hT := hp t (List.mem_of_getElem? ht)
      refine ⟨_, gt_tup2 (by simp) (by simp), fun t ht => hμ t (by simp at ht; omega), ?_⟩
      refine bk_set (i := 4) sc23.nd rfl (.inl rfl) (ef_e (e_disp1 (p := []) hu (e_tup as_nil (by decide)) (e_name 2 rfl (.inl rfl) rfl))) fun d hd => ?_
      subst hd
      refine bk_for (ts := [5]) (fun i ρ μ => ρ = [some (polD p), none, some (.int t.1), some (pwD t.2), some (kvD (kiD ((t.2.take i).foldl rowsF [([], t.1)]))), none, none, none, none, none, none, none, none] ∧ μ 1 = some (.dct (kiD ((p.take j).foldl fallF []))) ∧ ∀ i, i ≠ 1 → μ i = none) PassesOwn.never rfl
        (pg_name (i := 5) sc23.nd rfl (Or.inl rfl)) (it_tup (e_name 3 rfl (.inl rfl) rfl)) ⟨rfl, by rw [mu_ne (by decide)]; exact hm, mu0 hμ (by decide)⟩ (fun i d ρi μi hd hI => ?_) fun ρ' μ' hI => ?_
      · obtain ⟨rfl, hm1, hμ1⟩ := hI
        obtain ⟨c, hc, rfl⟩ := get_map hd
        have hcn := hT.n c (List.mem_of_getElem? hc)
        have hrl := partial_len hT i
        have hkeys := partial_keys (t := t) i
        have hil : (t.2.take i).length ≤ 3 := by rw [List.length_take]; have := hT.l; omega
        rw [foldl_take rowsF [([], t.1)] hc]
        generalize hrs : (t.2.take i).foldl rowsF [([], t.1)] = rs at hrl hkeys ⊢
        refine ⟨_, gt_name (by simp), fun t ht => hμ1 t (by simp at ht; omega), ?_⟩
        refine bk_own (i := 6) sc23.nd rfl (.inl rfl) en_dict rfl (by show 6 < 13; decide) ?_
        refine bk_for (ts := [7, 8]) (fun a ρ μ => ρ = [some (polD p), none, some (.int t.1), some (pwD t.2), some (kvD (kiD rs)), some (.int c), none, none, none, none, none, none, none] ∧ μ 1 = some (.dct (kiD ((p.take j).foldl fallF []))) ∧ μ 6 = some (.dct (kiD ((rs.take a).foldl (rowF c) []))) ∧ ∀ i, i ≠ 1 → i ≠ 6 → μ i = none) PassesOwn.never rfl
          (pg_tup rfl (pgs_cons (pg_name (i := 7) sc23.nd rfl (Or.inl rfl)) (pgs_cons (pg_name (i := 8) sc23.nd rfl (Or.inl rfl)) pgs_nil))) (it_items (e_name 4 rfl (.inl rfl) rfl)) ⟨rfl, by rw [mu_ne (by decide)]; exact hm1, mu_same, fun t h1 h6 => by rw [mu_ne h6]; exact hμ1 t h1⟩ (fun a d ρa μa hd hI => ?_) fun ρ' μ' hI => ?_
        · obtain ⟨rfl, hm2, hm6, hμ2⟩ := hI
          obtain ⟨q', hq', rfl⟩ := get_map hd
          obtain ⟨q, hq, rfl⟩ : ∃ q, rs[a]? = some q ∧ (q.1, PyData.int q.2) = q' := by
            unfold kiD at hq'
            rw [List.getElem?_map] at hq'
            cases z : rs[a]? with
            | none => rw [z] at hq'; cases hq'
            | some q => rw [z] at hq'; exact ⟨q, rfl, Option.some.inj hq'⟩
          have hal : a < rs.length := (List.getElem?_eq_some_iff.mp hq).1
          have hkl : q.1.length = (t.2.take i).length := hkeys q.1 (List.mem_map.mpr ⟨q, List.mem_of_getElem? hq, rfl⟩)
          have hl7 := rows_len hcn.2 [] (rs.take a)
          rw [List.length_nil, Nat.zero_add, List.length_take] at hl7
          rw [foldl_take (rowF c) [] hq]
          generalize hl0 : (rs.take a).foldl (rowF c) [] = l0 at hl7 hm6 ⊢
          refine ⟨_, gt_tup2 (by simp) (by simp), fun t ht => hμ2 t (by simp at ht; omega) (by simp at ht; omega), ?_⟩
          refine bk_for (ts := [9, 10]) (fun b ρ μ => ρ = [some (polD p), none, some (.int t.1), some (pwD t.2), some (kvD (kiD rs)), some (.int c), none, some (pwD q.1), some (.int q.2), none, none, none, none] ∧ μ 1 = some (.dct (kiD ((p.take j).foldl fallF []))) ∧ μ 6 = some (.dct (kiD (((stir c.toNat).zipIdx.take b).foldl (cellF q) l0))) ∧ ∀ i, i ≠ 1 → i ≠ 6 → μ i = none) PassesOwn.never rfl
            (pg_tup rfl (pgs_cons (pg_name (i := 9) sc23.nd rfl (Or.inl rfl)) (pgs_cons (pg_name (i := 10) sc23.nd rfl (Or.inl rfl)) pgs_nil))) (it_enum (k := false) (by rfl) me (e_call FP (hr.mono (by decide)) (by rfl) (as_cons (e_name 5 rfl (.inl rfl) rfl) as_nil) ⟨c, rfl, hcn.1, by omega, rfl⟩)) ⟨rfl, hm2, hm6, hμ2⟩ (fun b d ρb μb hd hI => ?_) fun ρ' μ' hI => ?_
          · obtain ⟨rfl, hm3, hm7, hμ3⟩ := hI
            obtain ⟨y, hy, rfl⟩ := get_counted hd
            obtain ⟨m, hm', rfl⟩ := get_map hy
            have hbl : b < (stir c.toNat).length := (List.getElem?_eq_some_iff.mp hm').1
            have hz : (stir c.toNat).zipIdx[b]? = some (m, b) := by
              rw [List.getElem?_zipIdx, hm']
              simp
            have hms := stir_small c.toNat (by omega) m (List.mem_of_getElem? hm')
            have hcl := cells_len q l0 ((stir c.toNat).zipIdx.take b)
            rw [List.length_take] at hcl
            rw [stir_len] at hbl
            rw [foldl_take (cellF q) l0 hz]
            generalize hl1 : ((stir c.toNat).zipIdx.take b).foldl (cellF q) l0 = l1 at hcl hm7 ⊢
            refine ⟨_, gt_tup2 (by simp) (by simp), fun t ht => hμ3 t (by simp at ht; omega) (by simp at ht; omega), ?_⟩
            refine bk_if (tf_t (t_neI (e_name 10 rfl (.inl rfl) rfl) e_int)) (fun hB => ?_) fun hB => ?_
            · have hne : m ≠ 0 := fun z => by rw [z] at hB; cases hB
              refine bk_set (i := 11) sc23.nd rfl (.inl rfl) (ef_e ((e_catT (e_name 7 rfl (.inl rfl) rfl) (e_tup (as_cons (e_name 9 rfl (.inl rfl) rfl) as_nil) (by show 1 ≤ 100000; decide)) (by rw [List.length_map, hkl]; show _ + 1 ≤ _; omega)).eq (show _ = pwD (q.1 ++ [(b : Int)]) by show PyData.tuple _ = PyData.tuple _; rw [List.map_append]; rfl))) fun d hd => ?_
              subst hd
              refine bk_dput (i := 6) (kvs := kiD l1) (μ1 := mu μb 11 none) (A1 := fun d => d = .int (kiGet l1 (q.1 ++ [(b : Int)]) + q.2 * m)) (show _ + 1 < cLine by omega) ?_ (by rw [mu_ne (by decide)]; exact hm7) rfl (.inl rfl) (e_name 11 rfl (.inl rfl) rfl) (by rw [kiD_len]; omega) fun d hd => ?_
              · refine ef_mono (ef_add (P := fun k => k = kiGet l1 (q.1 ++ [(b : Int)])) (P' := fun k => k = q.2 * m) (ef_mono (ef_dget (i := 6) (kvs := kiD l1) (show _ + 1 < cLine by omega) (by rw [mu_ne (by decide)]; exact hm7) rfl (.inl rfl) (e_name 11 rfl (.inl rfl) rfl) e_int) fun d h => ⟨_, h.trans (kvGet_kiD _ _), rfl⟩) (ef_int (e_mul (e_name 8 rfl (.inl rfl) rfl) (e_name 10 rfl (.inl rfl) rfl) (.inr ⟨by omega, by omega⟩)))) fun d h => ?_
                obtain ⟨k, rfl, x, y, rfl, rfl, rfl⟩ := h
                rfl
              · subst hd
                refine bk_nil ?_
                refine bk_forget (ρ' := [some (polD p), none, some (.int t.1), some (pwD t.2), some (kvD (kiD rs)), some (.int c), none, some (pwD q.1), some (.int q.2), none, none, none, none]) (by repeat (first | exact .nil | refine .keep ?_ | refine .drop ?_)) (bk_nil ⟨rfl, ?_, ?_, ?_⟩)
                · rw [mu_ne (by decide), mu_ne (by decide)]; exact hm3
                · rw [mu_same, kvPut_kiD]
                  unfold cellF
                  rw [if_pos hne]
                  rfl
                · intro t h1 h6
                  rw [mu_ne h6]
                  unfold mu
                  split
                  · rfl
                  · exact hμ3 t h1 h6
            · have he : m = 0 := by
                by_cases h : m = 0
                · exact h
                · rw [decide_eq_false h] at hB; cases hB
              refine bk_nil ?_
              refine bk_forget (ρ' := [some (polD p), none, some (.int t.1), some (pwD t.2), some (kvD (kiD rs)), some (.int c), none, some (pwD q.1), some (.int q.2), none, none, none, none]) (by repeat (first | exact .nil | refine .keep ?_ | refine .drop ?_)) (bk_nil ⟨rfl, hm3, ?_, hμ3⟩)
              rw [hm7]
              unfold cellF
              rw [if_neg (fun z => z he)]
          · obtain ⟨rfl, hm3, hm7, hμ3⟩ := hI
            refine bk_forget (ρ' := [some (polD p), none, some (.int t.1), some (pwD t.2), some (kvD (kiD rs)), some (.int c), none, none, none, none, none, none, none]) (by repeat (first | exact .nil | refine .keep ?_ | refine .drop ?_)) (bk_nil ⟨rfl, hm3, ?_, hμ3⟩)
            rw [hm7]
            have e : (stir c.toNat).zipIdx.take (counted ((stir c.toNat).map .int)).length = (stir c.toNat).zipIdx := by
              rw [counted_len, List.length_map]
              exact List.take_of_length_le (by rw [List.length_zipIdx]; exact Nat.le_refl _)
            rw [e]
            rfl
        · obtain ⟨rfl, hm2, hm6, hμ2⟩ := hI
          refine bk_lock (i := 6) hm6 ?_
          refine bk_set (i := 4) sc23.nd rfl (.inl rfl) (ef_e (e_name 6 rfl (.inl rfl) rfl)) fun d hd => ?_
          subst hd
          refine bk_forget (ρ' := [some (polD p), none, some (.int t.1), some (pwD t.2), some (kvD (kiD ((rs.take ((kiD rs).map fun q => PyData.tuple [pwD q.1, q.2]).length).foldl (rowF c) []))), none, none, none, none, none, none, none, none]) (by repeat (first | exact .nil | refine .keep ?_ | refine .drop ?_)) (bk_nil ⟨?_, ?_, ?_⟩)
          · rw [List.length_map, kiD_len, List.take_length]
            rfl
          · rw [mu_ne (by decide), mu_ne (by decide)]; exact hm2
          · intro t h1
            unfold mu
            by_cases h4 : t = 4
            · rw [if_pos h4]
            · rw [if_neg h4]
              by_cases h6 : t = 6
              · rw [if_pos h6]
              · rw [if_neg h6]; exact hμ2 t h1 h6
      · obtain ⟨rfl, hm1, hμ1⟩ := hI
        rw [List.length_map, List.take_length]
        have hF0 := fallD_len (p.take j) [] fun x hx => hp x (List.mem_of_mem_take hx)
        rw [List.length_nil, Nat.zero_add, List.length_take] at hF0
        rw [foldl_take fallF [] ht]
        generalize hf0 : (p.take j).foldl fallF [] = f0 at hF0 hm1 ⊢
        have hR := rowsOf_343 hT
        refine bk_for (ts := [11, 8]) (fun a ρ μ => ρ = [some (polD p), none, some (.int t.1), some (pwD t.2), some (kvD (kiD (rowsOf t))), none, none, none, none, none, none, none, none] ∧ μ 1 = some (.dct (kiD (((rowsOf t).take a).foldl putF f0))) ∧ ∀ i, i ≠ 1 → μ i = none) PassesOwn.never rfl
          (pg_tup rfl (pgs_cons (pg_name (i := 11) sc23.nd rfl (Or.inl rfl)) (pgs_cons (pg_name (i := 8) sc23.nd rfl (Or.inl rfl)) pgs_nil))) (it_items (kvs := kiD (rowsOf t)) (e_name 4 rfl (.inl rfl) rfl)) ⟨rfl, hm1, hμ1⟩ (fun a d ρa μa hd hI => ?_) fun ρ' μ' hI => ?_
        · obtain ⟨rfl, hm2, hμ2⟩ := hI
          obtain ⟨q', hq', rfl⟩ := get_map hd
          obtain ⟨q, hq, rfl⟩ : ∃ q, (rowsOf t)[a]? = some q ∧ (q.1, PyData.int q.2) = q' := by
            unfold kiD at hq'
            rw [List.getElem?_map] at hq'
            cases z : (rowsOf t)[a]? with
            | none => rw [z] at hq'; cases hq'
            | some q => rw [z] at hq'; exact ⟨q, rfl, Option.some.inj hq'⟩
          have hal : a < (rowsOf t).length := (List.getElem?_eq_some_iff.mp hq).1
          have hpl2 := fold_len (c := 1) (f := putF) (fun b a => kiAdd_len _ _ _) ((rowsOf t).take a) f0
          rw [List.length_take] at hpl2
          rw [foldl_take putF f0 hq]
          generalize hg0 : ((rowsOf t).take a).foldl putF f0 = g0 at hpl2 hm2 ⊢
          refine ⟨_, gt_tup2 (by simp) (by simp), fun t ht => hμ2 t (by simp at ht; omega), ?_⟩
          refine bk_dput (i := 1) (kvs := kiD g0) (μ1 := μa) (A1 := fun d => d = .int (kiGet g0 q.1 + q.2)) (show _ + 1 < cLine by omega) ?_ hm2 rfl (.inr (.inl rfl)) (e_name 11 rfl (.inl rfl) rfl) (by rw [kiD_len]; omega) fun d hd => ?_
          · refine ef_mono (ef_add (P := fun k => k = kiGet g0 q.1) (P' := fun k => k = q.2) (ef_mono (ef_dget (i := 1) (kvs := kiD g0) (show _ + 1 < cLine by omega) hm2 rfl (.inr (.inl rfl)) (e_name 11 rfl (.inl rfl) rfl) e_int) fun d h => ⟨_, h.trans (kvGet_kiD _ _), rfl⟩) (ef_int (e_name 8 rfl (.inl rfl) rfl))) fun d h => ?_
            obtain ⟨k, rfl, x, y, rfl, rfl, rfl⟩ := h
            rfl
          · subst hd
            refine bk_forget (ρ' := [some (polD p), none, some (.int t.1), some (pwD t.2), some (kvD (kiD (rowsOf t))), none, none, none, none, none, none, none, none]) (by repeat (first | exact .nil | refine .keep ?_ | refine .drop ?_)) (bk_nil ⟨rfl, ?_, mu2 hμ2⟩)
            rw [mu_same, kvPut_kiD]
            rfl
        · obtain ⟨rfl, hm2, hμ2⟩ := hI
          refine bk_forget (ρ' := [some (polD p), none, none, none, none, none, none, none, none, none, none, none, none]) (by repeat (first | exact .nil | refine .keep ?_ | refine .drop ?_)) (bk_nil ⟨rfl, ?_, hμ2⟩)
          rw [hm2, List.length_map, kiD_len, List.take_length]
          rfl
    · obtain ⟨rfl, hm, hμ⟩ := hI
      rw [List.length_map, List.take_length] at hm
      have hFl := fallD_len p [] hp
      rw [List.length_nil, Nat.zero_add] at hFl
      have hm : μ' 1 = some (.dct (kiD (fallD p))) := hm
      have hFl : (fallD p).length ≤ 343 * p.length := hFl
      refine bk_lock (i := 1) hm ?_
      generalize hfd : fallD p = m at hFl ⊢
      refine bk_setLcIf (i := 12) (own := [("falls", 11), ("number", 8)]) (g := gTup K 2 (gCons (gName 11) (gCons (gName 8) gNil))) (f := nzD) (F := fstD)
        (ρ' := fun d => ((wipeR ([some (polD p), none, none, none, none, none, none, none, none, none, none, none, none].set 1 (some (kvD (kiD m)))) [11, 8]).set 11 (some (fstD d))).set 8 (some (sndD d))) rfl sc23.nd rfl rfl (sw_true rfl rfl rfl (by decide +kernel)) (blkOk_by (own := [("falls", 11), ("number", 8)]) (N := fallN) (sc := defScope (topS 23)) (by decide +kernel))
        (fun _ _ _ _ _ => pg_tup rfl (pgs_cons (pg_name (i := 11) sc23.nd rfl (Or.inl rfl)) (pgs_cons (pg_name (i := 8) sc23.nd rfl (Or.inl rfl)) pgs_nil))) (it_items (kvs := kiD m) (e_name 1 rfl (.inr (.inl rfl)) rfl)) (fun d hd => ?_) (fun d hd => ?_) (fun d hd _ => ?_) (by rw [List.length_map, kiD_len]; omega) ?_
      · obtain ⟨q', hq', rfl⟩ := List.mem_map.mp hd
        exact gt_tup2 (by simp) (by simp)
      · obtain ⟨q', hq', rfl⟩ := List.mem_map.mp hd
        obtain ⟨q, hq, rfl⟩ := List.mem_map.mp hq'
        intro s0 H0 C cl fp
        exact (t_neI (i := q.2) (e_name 8 rfl (.inl rfl) rfl) e_int).eq rfl
      · obtain ⟨q', hq', rfl⟩ := List.mem_map.mp hd
        intro s0 H0 C cl fp
        exact e_name 11 rfl (.inl rfl) rfl
      · have hks : ((((kiD m).map fun q => PyData.tuple [pwD q.1, q.2]).filter nzD).map fstD) = ((m.filter fun q => decide (q.2 ≠ 0)).map (·.1)).map pwD := by
          unfold kiD
          rw [List.map_map, List.filter_map, List.map_map, List.map_map]
          congr 1
          exact List.filter_congr fun q _ => by show (!decide (q.2 = 0)) = _; by_cases h : q.2 = 0 <;> simp [h]
        rw [hks]
        generalize hkk : (m.filter fun q => decide (q.2 ≠ 0)).map (·.1) = ks
        have hkl : ks.length ≤ 343 * p.length := by
          rw [← hkk, List.length_map]
          exact Nat.le_trans (List.length_filter_le _ _) hFl
        refine bk_ret (ef_e ((e_tupOf (k := false) (by rfl) mt (e_lc (own := [("falls", 11)]) (g := gName 11) (F := fun d => tmD (kiGet m (numsD (itsD d)), numsD (itsD d))) (ρ' := fun d => (wipeR _ [11]).set 11 (some d)) rfl sc23.nd (blkOk_by (own := [("falls", 11)]) (N := fallN) (sc := defScope (topS 23)) (by decide +kernel))
          (fun _ _ _ _ _ => pg_name (i := 11) sc23.nd rfl (Or.inl rfl)) (it_list (e_sortKey (rs := ks) FR hr (by rfl) (by rfl) ms (e_name 12 rfl (.inl rfl) rfl))) (fun d _ => gt_name (by simp)) (fun d hd => ?_) (by rw [List.length_map, (srtP_perm ks).length_eq]; omega))))) fun d hd => ?_
        · obtain ⟨q, hq, rfl⟩ := List.mem_map.mp hd
          have hqk : q ∈ ks := (srtP_perm ks).mem_iff.mp hq
          have hqm : q ∈ m.map (·.1) := by
            rw [← hkk] at hqk
            obtain ⟨z, hz, rfl⟩ := List.mem_map.mp hqk
            exact List.mem_map.mpr ⟨z, (List.mem_filter.mp hz).1, rfl⟩
          have en : numsD (itsD (pwD q)) = q := numsD_map q
          rw [en]
          intro s0 H0 C cl fp
          exact e_tup (as_cons (e_dget (kvs := kiD m) (p := q) hu1 (e_name 1 rfl (.inr (.inl rfl)) rfl) (e_name 11 rfl (.inl rfl) rfl) (kvGet_kiD' hqm)) (as_cons (e_name 11 rfl (.inl rfl) rfl) as_nil)) (Nat.le_of_ble_eq_true rfl)
        · subst hd
          show PyData.tuple _ = polD (fall p)
          unfold fall polD
          rw [hfd, hkk, List.map_map, List.map_map]
          congr 1
          refine List.map_congr_left fun q _ => ?_
          show tmD (kiGet m (numsD (itsD (pwD q))), numsD (itsD (pwD q))) = tmD (kiGet m q, q)
          have en : numsD (itsD (pwD q)) = q := numsD_map q
          rw [en]
end
end R1

set_option Elab.async false
set_option linter.all false
set_option maxRecDepth 100000
set_option maxHeartbeats 4000000
/-! K12W8: falling, whole_worth; the draws: walks. -/
namespace R1
open PySem PySem.Spec PyProof.Rows L2 Evl
theorem bk_drop {X : Cx} {ρ : Ro} {μ μ1 : Mo} {e : Expr} {pos : Pos} {rest : List Stmt} {N : Ro → Mo → Prop} {R : PyData → Mo → Prop} {A : PyData → Prop} (h : Ef X ρ μ e A μ1) (k : Bk X ρ μ1 rest N R) (hs : swapsWith e none pos.line X.env = pure false := by rfl) : Bk X ρ μ (.Expr e pos :: rest) N R := fun S I0 H0 I H σ α D F qn qr =>
  ws_cons (ps_expr pe_we hs) (h S I0 H0 I H σ α F _ fun v d I' H' F' x r z => k S I0 H0 I' H' σ α D F' qn qr)
theorem sc24 : FnScope ["width", "poly"] ["width", "poly"] (defScope (topS 24)) := ⟨rfl, rfl, rfl, by decide +kernel, rfl, by decide +kernel, by decide +kernel⟩
theorem sc25 : FnScope ["width", "poly", "numbers", "whole"] ["width", "poly", "numbers"] (defScope (topS 25)) := ⟨rfl, rfl, rfl, by decide +kernel, rfl, by decide +kernel, by decide +kernel⟩
theorem sc29 : FnScope ["pen", "many", "rest", "at", "cell", "mixed"] ["pen", "many"] (defScope (topS 29)) := ⟨rfl, rfl, rfl, by decide +kernel, rfl, by decide +kernel, by decide +kernel⟩
theorem sc30 : FnScope ["pen", "some"] ["pen", "some"] (defScope (topS 30)) := ⟨rfl, rfl, rfl, by decide +kernel, rfl, by decide +kernel, by decide +kernel⟩
theorem sc33 : FnScope ["pen", "way"] ["pen"] (defScope (topS 33)) := ⟨rfl, rfl, rfl, by decide +kernel, rfl, by decide +kernel, by decide +kernel⟩
theorem sc34 : FnScope ["pen"] ["pen"] (defScope (topS 34)) := ⟨rfl, rfl, rfl, by decide +kernel, rfl, by decide +kernel, by decide +kernel⟩
def RFalling (ds : List PyData) (d : PyData) : Prop := ∃ (wd : Int) (p : List Tm) (k : Bool) (es : List PyData), ds = [.int wd, seqD k es] ∧ Tms p es ∧ Good wd p ∧ (∀ t ∈ p, TmS t) ∧ p.length ≤ 100 ∧ d = polD (fall p)
def RWhole (ds : List PyData) (d : PyData) : Prop := ∃ (wd : Int) (p : List Tm) (k : Bool) (es : List PyData) (l : Bool) (xs : List Int), ds = [.int wd, seqD k es, seqD l (xs.map .int)] ∧ Tms p es ∧ Good wd p ∧ (xs.length : Int) = wd ∧ (∀ n ∈ xs, -(10 ^ 18) ≤ n ∧ n ≤ 10 ^ 18) ∧ d = .int (worth p xs)
theorem bk_mono {X : Cx} {ρ : Ro} {μ : Mo} {b : List Stmt} {N N' : Ro → Mo → Prop} {R : PyData → Mo → Prop} (h : Bk X ρ μ b N R) (k : ∀ ρ' μ', N ρ' μ' → N' ρ' μ') : Bk X ρ μ b N' R := fun S I0 H0 I H σ α D F qn qr =>
  h S I0 H0 I H σ α D F (fun I' H' σ' ρ' μ' α' F' z => qn I' H' σ' ρ' μ' α' F' (k _ _ z)) qr
/-- if c: .. else: .., and what both leave -/
theorem bk_ifJ {X : Cx} {ρ : Ro} {μ μ1 : Mo} {c : Expr} {b1 b2 rest : List Stmt} {pos : Pos} {N : Ro → Mo → Prop} {R : PyData → Mo → Prop} {B : Bool → Prop} (J : Ro → Mo → Prop) (hc : Tf X ρ μ c B μ1) (h1 : B true → Bk X ρ μ1 b1 J R) (h2 : B false → Bk X ρ μ1 b2 J R) (k : ∀ ρ' μ', J ρ' μ' → Bk X ρ' μ' rest N R) : Bk X ρ μ (.If c b1 b2 pos :: rest) N R :=
  bk_if hc (fun z => bk_mono (h1 z) k) fun z => bk_mono (h2 z) k
theorem shaped_ints (cs : List Int) : SeqAt.shaped (.list (cs.map .int)) = true := by
  unfold SeqAt.shaped
  have h1 : PyData.canLay0 (.list (cs.map .int)) = true := canLay_ints cs
  have h2 : PyData.depth (.list (cs.map .int)) ≤ 64 := by
    show PyData.depthAll (cs.map .int) + 1 ≤ 64
    rw [depth_ints]
    decide
  rw [h1, decide_eq_true h2]
  rfl
section
variable {P : Program} {w : World} {K : PySem.W.Frag} {mg : Str → Option Value} {base : Heap} {k : Nat}
theorem fn_falling (D : Dfn K mg "falling" (topS 24)) (FW : Fn P w K mg base "need_width" 3 ["value"] (spP RWidth)) (FN : Fn P w K mg base "need_polys" 6 ["width", "value", "part"] (spP RNeeds)) (FF : Fn P w K mg base "falling_of" 4 ["poly"] (spP RFall)) : Fn P w K mg base "falling" 7 ["width", "poly"] (spP RFalling) :=
  fn_blk (k := 6) D sc24 (fun ds d h => by obtain ⟨p, q, r, t, rfl, _⟩ := h; rfl) (fun kV doc pm an cdv ct us hl => by
    match us, hl with
    | [a, b], _ => rfl) fun f cdv A outer s H G hr ds d h => by
    obtain ⟨wd, p, l, es, rfl, ht, hg, hs, hl, rfl⟩ := h
    refine bk_drop (ef_e (e_call FW (hr.mono (by decide)) (by rfl) (as_cons (e_name 0 rfl (.inl rfl) rfl) as_nil) ⟨wd, rfl, hg.w.1, hg.w.2, rfl⟩)) ?_
    refine bk_ret (ef_e (e_call FF (hr.mono (by decide)) (by rfl) (as_cons (e_ix (k := true) (ds := [polD p]) (e_call FN hr (by rfl) (as_cons (e_name 0 rfl (.inl rfl) rfl) (as_cons (e_lst (x1 := 0) (as_cons (e_name 1 rfl (.inl rfl) rfl) as_nil) (by show 1 ≤ 100000; decide)) (as_cons e_str as_nil))) ⟨wd, p, l, es, _, rfl, ht, hg, rfl⟩) e_int rfl) as_nil) ⟨p, rfl, hs, hl, rfl⟩)) fun d hd => hd
theorem fn_whole (D : Dfn K mg "whole_worth" (topS 25)) (FW : Fn P w K mg base "need_width" 3 ["value"] (spP RWidth)) (FN : Fn P w K mg base "need_polys" 6 ["width", "value", "part"] (spP RNeeds)) (FU : Fn P w K mg base "is_numbers" 3 ["value", "least", "most"] (spP RNums)) (FA : Fn P w K mg base "worth_at" 1 ["poly", "numbers"] (spP RWorth)) : Fn P w K mg base "whole_worth" 7 ["width", "poly", "numbers"] (spP RWhole) :=
  fn_blk (k := 6) D sc25 (fun ds d h => by obtain ⟨p, q, r, t, u, v, rfl, _⟩ := h; rfl) (fun kV doc pm an cdv ct us hl => by
    match us, hl with
    | [a, b, c], _ => rfl) fun f cdv A outer s H G hr ds d h => by
    obtain ⟨wd, p, l, es, m, xs, rfl, ht, hg, hx, hb, rfl⟩ := h
    have hw := hg.w
    refine bk_drop (ef_e (e_call FW (hr.mono (by decide)) (by rfl) (as_cons (e_name 0 rfl (.inl rfl) rfl) as_nil) ⟨wd, rfl, hg.w.1, hg.w.2, rfl⟩)) ?_
    refine bk_set (i := 3) sc25.nd rfl (.inl rfl) (ef_e (e_ix (k := true) (ds := [polD p]) (e_call FN hr (by rfl) (as_cons (e_name 0 rfl (.inl rfl) rfl) (as_cons (e_lst (x1 := 0) (as_cons (e_name 1 rfl (.inl rfl) rfl) as_nil) (by show 1 ≤ 100000; decide)) (as_cons e_str as_nil))) ⟨wd, p, l, es, _, rfl, ht, hg, rfl⟩) e_int rfl)) fun d hd => ?_
    subst hd
    refine bk_if1 (B := fun z => z = false) (tf_t ((t_not (t_val (e_call FU (hr.mono (by decide)) (by rfl) (as_cons (e_name 2 rfl (.inl rfl) rfl) (as_cons (e_name 0 rfl (.inl rfl) rfl) (as_cons (e_name 0 rfl (.inl rfl) rfl) as_nil))) ⟨m, xs, wd, wd, rfl, by omega, by omega, by omega, hb, rfl⟩))).eq rfl)) (fun z => nomatch z) fun _ => ?_
    refine bk_ret (ef_e (e_call FA (hr.mono (by decide)) (by rfl) (as_cons (e_name 3 rfl (.inl rfl) rfl) (as_cons (e_name 2 rfl (.inl rfl) rfl) as_nil)) ⟨p, m, xs, rfl, fun x hx => ⟨?_, ?_⟩, fun t ht n hn => (hg.t t ht).2.2 n hn, rfl⟩)) fun d hd => hd
    · have := hb x hx; omega
    · have := hb x hx; omega
/-! ### draws -/
def PreMany (ds : List PyData) : Prop := ∃ m : Int, ds = [.int m] ∧ 1 ≤ m ∧ m ≤ 1000000000
def RMany (ds : List PyData) (d : PyData) : Prop := ∃ m r : Int, ds = [.int m] ∧ d = .int r ∧ 0 ≤ r ∧ r < m
theorem fn_drawn0 (D : Dfn K mg "_law_draw" (topS 29)) (mi : mg "int" = none) (ml : mg "len" = none) (mA : mg "abs" = none) : Fn P w K mg base "_law_draw" 1 ["pen", "many"] (spD 1 PreMany RMany) :=
  fn_draw (k := 0) D sc29 (fun ds h => by obtain ⟨m, rfl, _⟩ := h; rfl) (fun kV doc pm an cdv ct us hl => by
    match us, hl with
    | [a, b], _ => rfl) fun f cdv A outer s H G hr ds n h hn => by
    obtain ⟨m, rfl, h1, h2⟩ := h
    have hpm : n + 1 ≤ 1048576 := hn
    refine bk_if1 (tf_t (t_lt (e_name 1 rfl (.inl rfl) rfl) e_int)) (fun hB => ?_) fun hB => ?_
    · refine bk_raise (i := 0) (m := n + 1) rfl (by omega) ?_
      refine bk_ret (ef_e e_int) fun d hd => ⟨⟨m, 0, rfl, hd, by omega, by omega⟩, mu_same⟩
    · have hm2 : 2 ≤ m := by have := of_decide_eq_false hB.symm; omega
      refine bk_open (i := 0) rfl fun cs at' rs ha0 han => ?_
      generalize hμ : mu (fun j => if j = 0 then some (MD.pen n) else none) 0 (some (.opn [.list (cs.map .int), .int at', .int rs])) = μ1
      have hm0 : μ1 0 = some (.opn [.list (cs.map .int), .int at', .int rs]) := by rw [← hμ, mu_same]
      clear hμ
      refine bk_if1 (tf_peekO (i := 0) hm0 (t_gt (e_ix (k := false) (e_name 0 rfl (.inl rfl) rfl) e_int rfl) e_int)) (fun hB => ?_) fun hB => ?_
      · have hrs : 0 < rs := of_decide_eq_true hB.symm
        refine bk_set (i := 2) sc29.nd rfl (.inl rfl) (ef_peekO (i := 0) hm0 (e_intI (by rfl) mi (e_ix (k := false) (e_name 0 rfl (.inl rfl) rfl) e_int rfl)) trivial) fun d hd => ?_
        subst hd
        have hm1 : mu μ1 2 none 0 = some (.opn [.list (cs.map .int), .int at', .int rs]) := by rw [mu_ne (by decide)]; exact hm0
        refine bk_lputO (i := 0) (m := 2) (ef_e (e_fdiv (e_name 2 rfl (.inl rfl) rfl) (e_name 1 rfl (.inl rfl) rfl) ⟨by omega, by omega⟩)) hm1 rfl (.inl rfl) e_int rfl fun d hd => ?_
        subst hd
        refine bk_close (i := 0) (n := n + 1) (cs := cs) (at' := at') (rs := rs.fdiv m) mu_same ha0 (by omega) ?_
        refine bk_ret (ef_e (e_mod (e_intI (by rfl) mi (e_name 2 rfl (.inl rfl) rfl)) (e_name 1 rfl (.inl rfl) rfl) (by omega))) fun d hd => ⟨⟨m, _, rfl, hd, Int.fmod_nonneg_of_pos _ (by omega), Int.fmod_lt_of_pos _ (by omega)⟩, mu_same⟩
      · refine bk_set (i := 3) sc29.nd rfl (.inl rfl) (ef_peekO (i := 0) hm0 (e_ix (k := false) (e_name 0 rfl (.inl rfl) rfl) e_int rfl) trivial) fun d hd => ?_
        subst hd
        have hm1 : mu μ1 3 none 0 = some (.opn [.list (cs.map .int), .int at', .int rs]) := by rw [mu_ne (by decide)]; exact hm0
        refine bk_lputO (i := 0) (m := 1) (ef_e (e_add (e_name 3 rfl (.inl rfl) rfl) e_int)) hm1 rfl (.inl rfl) e_int rfl fun d hd => ?_
        subst hd
        refine bk_set (i := 4) sc29.nd rfl (.inl rfl) (ef_e (e_add (e_mul e_int (e_name 3 rfl (.inl rfl) rfl) (.inl ⟨by decide, by decide⟩)) e_int)) fun d hd => ?_
        subst hd
        have hm2' : ∀ v, mu (mu μ1 3 none) 0 (some (.opn v)) 0 = some (.opn v) := fun v => mu_same
        have hm3 : mu (mu (mu μ1 3 none) 0 (some (.opn (([.list (cs.map .int), .int at', .int rs] : List PyData).set 1 (.int (at' + 1)))))) 4 none 0 = some (.opn [.list (cs.map .int), .int (at' + 1), .int rs]) := by rw [mu_ne (by decide), mu_same]; rfl
        generalize mu (mu (mu μ1 3 none) 0 (some (.opn (([.list (cs.map .int), .int at', .int rs] : List PyData).set 1 (.int (at' + 1)))))) 4 none = μ2 at hm3 ⊢
        refine bk_ifJ (fun ρ μ => ∃ c : Int, ρ = [none, some (.int m), none, some (.int at'), some (.int c), none] ∧ μ 0 = some (.opn [.list (cs.map .int), .int (at' + 1), .int rs])) (tf_peekO (i := 0) hm3 (t_neD hr.units (e_ix (k := false) (e_name 0 rfl (.inl rfl) rfl) e_int rfl) (e_lst (x1 := 0) as_nil (by show 0 ≤ 100000; decide)) (shaped_ints cs) (shaped_ints []))) (fun hB => ?_) (fun hB => bk_nil ⟨_, rfl, hm3⟩) fun ρ' μ3 hJ => ?_
        · have hne : cs ≠ [] := fun z => by
            subst z
            cases hB
          have hlen : 0 < cs.length := List.length_pos_iff.mpr hne
          have hf0 := Int.fmod_nonneg_of_pos at' (show (0 : Int) < (cs.length : Int) by omega)
          have hf1 := Int.fmod_lt_of_pos at' (show (0 : Int) < (cs.length : Int) by omega)
          have hat : atI (cs.map PyData.int) (at'.fmod ((cs.map PyData.int).length : Int)) = some (.int (cs.getD (at'.fmod (cs.length : Int)).toNat 0)) := by
            rw [List.length_map]
            have e : at'.fmod (cs.length : Int) = (((at'.fmod (cs.length : Int)).toNat : Nat) : Int) := by omega
            rw [e]
            exact atI_nat (map_getD (by omega))
          refine bk_set (i := 4) sc29.nd rfl (.inl rfl) (ef_peekO (i := 0) hm3 (e_ix (k := false) (e_ix (k := false) (e_name 0 rfl (.inl rfl) rfl) e_int rfl) (e_mod (e_intI (by rfl) mi (e_name 3 rfl (.inl rfl) rfl)) (e_len (k := false) (by rfl) ml (e_ix (k := false) (e_name 0 rfl (.inl rfl) rfl) e_int rfl)) (by rw [List.length_map]; omega)) hat) trivial) fun d hd => ?_
          subst hd
          exact bk_nil ⟨_, rfl, by rw [mu_ne (by decide)]; exact hm3⟩
        · obtain ⟨c, rfl, hm4⟩ := hJ
          have ten : ∀ {X : Cx} {ρ : Ro} {p1 p2 p3 : Pos} {j1 j2 : Nat}, E X ρ (.BinOp (.Constant (.int 10) j1 p1) .Pow (.Constant (.int 18) j2 p2) p3) (.int (10 ^ 18)) := fun {X ρ p1 p2 p3 j1 j2} => (e_pow e_int e_int ⟨by decide, by decide, by decide⟩).eq rfl
          refine bk_if1 (tf_peekO (i := 0) hm4 (tw_and (t_lt (e_name 3 rfl (.inl rfl) rfl) (e_len (k := false) (by rfl) ml (e_ix (k := false) (e_name 0 rfl (.inl rfl) rfl) e_int rfl))) fun _ => tw_and1 (t_ge (e_abs (by rfl) mA (e_name 4 rfl (.inl rfl) rfl)) ten)).t) (fun hB => ?_) fun hB => ?_
          · refine bk_set (i := 2) sc29.nd rfl (.inl rfl) (ef_e (e_add (e_mul e_int (e_sub (e_abs (by rfl) mA (e_name 4 rfl (.inl rfl) rfl)) ten) (.inl ⟨by decide, by decide⟩)) (e_intB (by rfl) mi (e_lt (e_name 4 rfl (.inl rfl) rfl) e_int)))) fun d hd => ?_
            subst hd
            have hm5 : mu μ3 2 none 0 = some (.opn [.list (cs.map .int), .int (at' + 1), .int rs]) := by rw [mu_ne (by decide)]; exact hm4
            refine bk_lputO (i := 0) (m := 2) (ef_e (e_fdiv (e_intI (by rfl) mi (e_name 2 rfl (.inl rfl) rfl)) (e_name 1 rfl (.inl rfl) rfl) ⟨by omega, by omega⟩)) hm5 rfl (.inl rfl) e_int rfl fun d hd => ?_
            subst hd
            refine bk_close (i := 0) (n := n + 1) (cs := cs) (at' := at' + 1) mu_same (by omega) (by omega) ?_
            refine bk_ret (ef_e (e_mod (e_intI (by rfl) mi (e_name 2 rfl (.inl rfl) rfl)) (e_name 1 rfl (.inl rfl) rfl) (by omega))) fun d hd => ⟨⟨m, _, rfl, hd, Int.fmod_nonneg_of_pos _ (by omega), Int.fmod_lt_of_pos _ (by omega)⟩, mu_same⟩
          · refine bk_close (i := 0) (n := n + 1) (cs := cs) (at' := at' + 1) hm4 (by omega) (by omega) ?_
            have c0 := Int.fmod_nonneg_of_pos c (show (0 : Int) < 2147483579 by decide)
            have c1 := Int.fmod_lt_of_pos c (show (0 : Int) < 2147483579 by decide)
            refine bk_set (i := 5) sc29.nd rfl (.inl rfl) (ef_e (e_mod (e_intI (by rfl) mi (e_pow (e_add (e_add (e_mod (e_intI (by rfl) mi (e_name 4 rfl (.inl rfl) rfl)) e_int (by decide)) (e_mul e_int (e_name 3 rfl (.inl rfl) rfl) (.inl ⟨by decide, by decide⟩))) e_int) e_int ⟨by decide, by decide, by omega⟩)) e_int (by decide))) fun d hd => ?_
            subst hd
            generalize hmx : ((c.fmod 2147483579 + 33709 * at' + 6365) ^ (5 : Int).toNat).fmod 2147483587 = mx
            have m0 : 0 ≤ mx := by rw [← hmx]; exact Int.fmod_nonneg_of_pos _ (by decide)
            have m1 : mx < 2147483587 := by rw [← hmx]; exact Int.fmod_lt_of_pos _ (by decide)
            have ha1 : at' ≤ 1048576 := by omega
            have b1 : mx * (2 * at' + 6365) ≤ 2147483587 * 2103517 := Int.mul_le_mul (by omega) (by omega) (by omega) (by omega)
            have b0 : 0 ≤ mx * (2 * at' + 6365) := Int.mul_nonneg m0 (by omega)
            have b3 : 33709 * at' * at' ≤ 33709 * 1048576 * 1048576 := Int.mul_le_mul (by omega) (by omega) (by omega) (by omega)
            have b2 : 0 ≤ 33709 * at' * at' := Int.mul_nonneg (by omega) (by omega)
            refine bk_set (i := 5) sc29.nd rfl (.inl rfl) (ef_e (e_mod (e_intI (by rfl) mi (e_pow (e_add (e_add (e_mul (e_name 5 rfl (.inl rfl) rfl) (e_add (e_mul e_int (e_name 3 rfl (.inl rfl) rfl) (.inl ⟨by decide, by decide⟩)) e_int) (.inl ⟨by omega, by omega⟩)) (e_mul (e_mul e_int (e_name 3 rfl (.inl rfl) rfl) (.inl ⟨by decide, by decide⟩)) (e_name 3 rfl (.inl rfl) rfl) (.inr ⟨by omega, by omega⟩))) e_int) e_int ⟨by decide, by decide, by omega⟩)) e_int (by decide))) fun d hd => ?_
            subst hd
            refine bk_ret (ef_e (e_mod (e_intI (by rfl) mi (e_fdiv (e_name 5 rfl (.inl rfl) rfl) e_int ⟨by decide, by decide⟩)) (e_name 1 rfl (.inl rfl) rfl) (by omega))) fun d hd => ⟨⟨m, _, rfl, hd, Int.fmod_nonneg_of_pos _ (by omega), Int.fmod_lt_of_pos _ (by omega)⟩, ?_⟩
            rw [mu_ne (by decide), mu_ne (by decide), mu_same]
end
end R1

set_option Elab.async false
set_option linter.all false
set_option maxRecDepth 100000
set_option maxHeartbeats 4000000
/-! K12W9: what is drawn: walks. -/
namespace R1
open PySem PySem.Spec PyProof.Rows L2 Evl
/-! ### loops whose iterable draws -/
def ITf (X : Cx) (ρ : Ro) (μ : Mo) (tg iter : Expr) (Pd : List PyData → Prop) (μ1 : Mo) : Prop := ∀ (S : Addr → Prop) (I0 H0 I H : Hp) (σ : L2.St) (α : Nat → Addr), Fr S I0 H0 I H σ ρ μ α → ∀ R : It → Hp → Prop,
  (∀ J ds I' H', Fr S I0 H0 I' H' σ ρ μ1 α → ItOk J I' GT ds → Pd ds → R J H') → WI X tg iter σ H R
theorem itf_range1 {X : Cx} {ρ : Ro} {μ μ1 : Mo} {tg a : Expr} {p pos : Pos} {Pn : Int → Prop} (hg : Gl X "range") (hm : X.mg "range" = none) (h : Ef X ρ μ a (IntP Pn) μ1) (hb : ∀ n, Pn n → -(2 ^ 62) ≤ n ∧ n < 2 ^ 62) (hs : starEach [a] X.env = [(false, eval a X.env)] := by rfl) :
    ITf X ρ μ tg (.Call (.Name "range" p) [a] [] pos) (fun ds => ∃ n, Pn n ∧ ds = upto 0 n.toNat) μ1 := fun S I0 H0 I H σ α F R q pins s i => by
  refine (pi_range1 (tg := tg) hg hm (pa1 hs) hs).run pins s σ H R i ?_
  refine h S I0 H0 I H σ α F _ fun v d I1 H1 F1 e1 r1 p1 => ?_
  obtain ⟨n, rfl, hn⟩ := p1
  cases r1
  exact ⟨n, rfl, (hb n hn).1, (hb n hn).2, q _ _ I1 H1 F1 itok_range ⟨n, hn, rfl⟩⟩
theorem bk_forF {X : Cx} {ρ : Ro} {μ μ1 : Mo} {tg iter : Expr} {Pd : List PyData → Prop} {R : PyData → Mo → Prop} {N : Ro → Mo → Prop} {pos : Pos} {rest body : List Stmt} {g : TG} {ts : List Nat} (Iv : List PyData → Nat → Ro → Mo → Prop) (hp : PassesOwn (model X.prog X.w) X.A X.env X.xe) (hc : X.calm = true) (hg : PG X tg g) (it : ITf X ρ μ tg iter Pd μ1) (h0 : ∀ ds, Pd ds → Iv ds 0 ρ μ1)
    (step : ∀ ds j d ρj μj, Pd ds → ds[j]? = some d → Iv ds j ρj μj → ∃ ρt, Gt g ts ρj d ρt ∧ (∀ t, t ∈ ts → μj t = none) ∧ Bk X ρt μj body (fun ρ' μ' => Iv ds (j + 1) ρ' μ') R) (done : ∀ ds ρ' μ', Pd ds → Iv ds ds.length ρ' μ' → Bk X ρ' μ' rest N R)
    (hs : ∀ x, foldedSetIterable iter X.env x = pure x := by intro _; rfl) : Bk X ρ μ (.For tg iter body [] pos :: rest) N R := fun S I0 H0 I H σ α D F qn qr => by
  refine ws_cons (ps_for hp hc pi_wi hg ps_ws hs) ?_
  refine it S I0 H0 I H σ α F _ fun J ds I1 H1 F1 ok pd => ?_
  refine ⟨fun i m σ' H' => m = ds.length - i ∧ i ≤ ds.length ∧ ∃ I2 ρ2 μ2 α2, Fr S I1 H0 I2 H' σ' ρ2 μ2 α2 ∧ Iv ds i ρ2 μ2, ⟨_, rfl, Nat.zero_le _, I1, ρ, μ1, α, F1.rise, h0 ds pd⟩, ?_⟩
  rintro i m σ2 H2 ⟨rfl, hi, I2, ρ2, μ2, α2, F2, iv⟩
  by_cases hlt : i < ds.length
  · refine .inr ⟨ok.go i I2 H2 F2.x.i F2.e trivial hlt, fun σ' H' => ∃ I3 ρ3 μ3 α3, Fr S I1 H0 I3 H' σ' ρ3 μ3 α3 ∧ Iv ds (i + 1) ρ3 μ3, fun σ' H' q => ⟨ds.length - (i + 1), by omega, rfl, hlt, q⟩, fun w H3 y => ?_⟩
    obtain ⟨I3, d, n3, hd, rd⟩ := ok.yld i I2 H2 w H3 F2.x.i F2.e trivial hlt y
    obtain ⟨ρt, gt, hm, hb⟩ := step ds i d ρ2 μ2 pd hd iv
    have F3 := F2.step n3
    refine gt.run I3 σ2 H3 w F3.e F3.v rd _ fun σ3 v3 ag hl => ?_
    refine hb S I1 H0 I3 H3 σ3 α2 _ (F3.tgt v3 ag hm) (fun I' H' σ' ρ' μ' α' F' k => ⟨I', ρ', μ', α', F', k⟩) fun v d I' H' σ' ρ' μ' α' F' r k => qr v d I' H' σ' ρ' μ' α' (F'.sink F1.x) r k
  · have e : i = ds.length := by omega
    subst e
    exact .inl ⟨ok.stop I2 H2 F2.x.i F2.e trivial, done ds ρ2 μ2 pd iv S I0 H0 I2 H2 σ2 α2 D (F2.sink F1.x) qn qr⟩
/-! ### polynomials from dicts -/
def polOf (m : KI) : List Tm := (srtP ((m.filter fun q => decide (q.2 ≠ 0)).map (·.1))).map fun q => (kiGet m q, q)
theorem sc31 : FnScope ["found", "some", "degree", "powers"] ["found"] (defScope (topS 31)) := ⟨rfl, rfl, rfl, by decide +kernel, rfl, by decide +kernel, by decide +kernel⟩
theorem sc36 : FnScope ["pen", "poly", "coefficient", "powers"] ["pen", "poly"] (defScope (topS 36)) := ⟨rfl, rfl, rfl, by decide +kernel, rfl, by decide +kernel, by decide +kernel⟩
def RPolOf (ds : List PyData) (d : PyData) : Prop := ∃ m : KI, ds = [kvD (kiD m)] ∧ m.length ≤ 1000 ∧ (m.map (·.1)).Nodup ∧ d = polD (polOf m)
def PrePick (ds : List PyData) : Prop := ∃ es : List PyData, ds = [.list es] ∧ 1 ≤ es.length ∧ es.length ≤ 1000
def RPick (ds : List PyData) (d : PyData) : Prop := ∃ es : List PyData, ds = [.list es] ∧ d ∈ es
def RNum (ds : List PyData) (d : PyData) : Prop := ∃ i : Int, d = .int i ∧ i ≠ 0
def RSmall (ds : List PyData) (d : PyData) : Prop := ∃ i : Int, d = .int i ∧ -10 ≤ i ∧ i ≤ 10
def PreTold (ds : List PyData) : Prop := ∃ p : List Tm, ds = [polD p] ∧ p.length ≤ 100
def RTold (ds : List PyData) (d : PyData) : Prop := ∃ p es, ds = [polD p] ∧ d = .list es ∧ Tms p es
def keyD (d : PyData) : List Int := numsD (itsD d)
theorem keyD_pw (p : List Int) : keyD (pwD p) = p := numsD_map p
theorem kiGet_mem {m : KI} (h : (m.map (·.1)).Nodup) : ∀ {q : List Int × Int}, q ∈ m → kiGet m q.1 = q.2 := by
  induction m with
  | nil => intro q hq; exact nomatch hq
  | cons z m ih =>
    intro q hq
    rw [List.map_cons, List.nodup_cons] at h
    rcases List.mem_cons.mp hq with rfl | hq
    · simp [kiGet, List.find?_cons]
    · have hne : z.1 ≠ q.1 := fun e => h.1 (by rw [e]; exact List.mem_map.mpr ⟨q, hq, rfl⟩)
      have : kiGet (z :: m) q.1 = kiGet m q.1 := by simp [kiGet, List.find?_cons, hne]
      rw [this]
      exact ih h.2 hq
section
variable {P : Program} {w : World} {K : PySem.W.Frag} {mg : Str → Option Value} {base : Heap} {k : Nat}
theorem fn_pick (D : Dfn K mg "_law_pick" (topS 30)) (ml : mg "len" = none) (FD : Fn P w K mg base "_law_draw" 1 ["pen", "many"] (spD 1 PreMany RMany)) : Fn P w K mg base "_law_pick" 2 ["pen", "some"] (spD 1 PrePick RPick) :=
  fn_draw (k := 1) D sc30 (fun ds h => by obtain ⟨m, rfl, _⟩ := h; rfl) (fun kV doc pm an cdv ct us hl => by
    match us, hl with
    | [a, b], _ => rfl) fun f cdv A outer s H G hr ds n h hn => by
    obtain ⟨es, rfl, h1, h2⟩ := h
    refine bk_ret (R' := fun d => d ∈ es) (ef_two (A1 := fun z => z = .list es) (A2 := fun z => RMany [.int (es.length : Int)] z) (pe_ix ix_list pe_we pe_we (by intro _ _; rfl)) (ef_e (e_name 1 rfl (.inl rfl) rfl)) (ef_draw (i := 0) (n := n) FD hr (by rfl) rfl rfl (.inl rfl) hn (as_cons (e_len (k := false) (by rfl) ml (e_name 1 rfl (.inl rfl) rfl)) as_nil) ⟨_, rfl, by omega, by omega⟩) ?_) fun d hd => ⟨⟨es, rfl, hd⟩, mu_same⟩
    intro I H x y d d' hx rx ry p1 p2 Q q
    subst p1
    obtain ⟨m, r, e1, rfl, r0, r1⟩ := p2
    injection e1 with e1
    injection e1 with e1
    subst e1
    cases ry
    cases rx with
    | lst ea ra =>
      have hr : r = ((r.toNat : Nat) : Int) := by omega
      have hlt : r.toNat < es.length := by omega
      have hl := ra.length
      obtain ⟨v, hv, rv⟩ := ra.get (List.getElem?_eq_getElem hlt)
      refine ⟨_, _, r, v, rfl, rfl, SqL.of (hx _ _ ea), ?_, q v _ I H (.refl hx) rv (List.getElem_mem hlt)⟩
      rw [hr]
      exact atI_nat hv
theorem fn_small (D : Dfn K mg "_law_small" (topS 34)) (FP : Fn P w K mg base "_law_pick" 2 ["pen", "some"] (spD 1 PrePick RPick)) : Fn P w K mg base "_law_small" 3 ["pen"] (spD 1 (fun ds => ds = []) RSmall) :=
  fn_draw (k := 2) D sc34 (fun ds h => by subst h; rfl) (fun kV doc pm an cdv ct us hl => by
    match us, hl with
    | [a], _ => rfl) fun f cdv A outer s H G hr ds n h hn => by
    subst h
    refine bk_ret (ef_draw (i := 0) (n := n) FP hr (by rfl) rfl rfl (.inl rfl) hn (as_cons (e_lst (x1 := 0) (as_cons e_int (as_cons e_int (as_cons e_int (as_cons (e_neg e_int) (as_cons (e_neg e_int) (as_cons e_int (as_cons (e_neg e_int) (as_cons e_int (as_cons e_int (as_cons e_int as_nil)))))))))) (by show 10 ≤ 100000; decide)) as_nil) ⟨_, rfl, by show 1 ≤ 10; decide, by show 10 ≤ 1000; decide⟩) fun d hd => ⟨?_, mu_same⟩
    obtain ⟨es, e, hm⟩ := hd
    injection e with e
    injection e with e
    subst e
    simp only [List.mem_cons, List.not_mem_nil, or_false] at hm
    rcases hm with rfl | rfl | rfl | rfl | rfl | rfl | rfl | rfl | rfl | rfl <;> exact ⟨_, rfl, by decide, by decide⟩
theorem fn_number (D : Dfn K mg "_law_number" (topS 33)) (FD : Fn P w K mg base "_law_draw" 1 ["pen", "many"] (spD 1 PreMany RMany)) (FP : Fn P w K mg base "_law_pick" 2 ["pen", "some"] (spD 1 PrePick RPick)) : Fn P w K mg base "_law_number" 3 ["pen"] (spD 3 (fun ds => ds = []) RNum) :=
  fn_draw (k := 2) D sc33 (fun ds h => by subst h; rfl) (fun kV doc pm an cdv ct us hl => by
    match us, hl with
    | [a], _ => rfl) fun f cdv A outer s H G hr ds n h hn => by
    subst h
    have hn' : n + 3 ≤ 1048576 := hn
    refine bk_set (i := 1) sc33.nd rfl (.inl rfl) (ef_draw (i := 0) (n := n) FD (hr.mono (by decide)) (by rfl) rfl rfl (.inl rfl) (by show n + 1 ≤ 1048576; omega) (as_cons e_int as_nil) ⟨_, rfl, by decide, by decide⟩) fun d hd => ?_
    obtain ⟨_, r, _, rfl, _, _⟩ := hd
    have hm : mu (mu (fun j => if j = 0 then some (MD.pen n) else none) 0 (some (.pen (n + 1)))) 1 none 0 = some (.pen (n + 1)) := by rw [mu_ne (by decide), mu_same]
    generalize mu (mu (fun j => if j = 0 then some (MD.pen n) else none) 0 (some (.pen (n + 1)))) 1 none = μ1 at hm ⊢
    refine bk_if1 (tf_t (t_eqI (e_name 1 rfl (.inl rfl) rfl) e_int)) (fun hB => ?_) fun hB => ?_
    · refine bk_ret (ef_mul (P := fun x => 0 < x) (P' := fun x => x = 1 ∨ x = -1) (ef_mono (ef_add (P := fun x => x = 10 ^ 39) (P' := fun x => 0 ≤ x) (ef_int ((e_pow e_int e_int ⟨by decide, by decide, by decide⟩).eq rfl)) (ef_mono (ef_draw (i := 0) (n := n + 1) FD (hr.mono (by decide)) (by rfl) hm rfl (.inl rfl) (by show n + 1 + 1 ≤ 1048576; omega) (as_cons ((e_pow e_int e_int ⟨by decide, by decide, by decide⟩).eq (show _ = PyData.int (10 ^ 9) from rfl)) as_nil) ⟨_, rfl, by decide, by decide⟩) fun d hd => ?_)) fun d hd => ?_)
        (ef_mono (ef_sub (P := fun x => x = 1) (P' := fun x => x = 0 ∨ x = 2) (ef_int e_int) (ef_mono (ef_mul (P := fun x => x = 2) (P' := fun x => x = 0 ∨ x = 1) (ef_int e_int) (ef_mono (ef_draw (i := 0) (n := n + 1 + 1) FD (hr.mono (by decide)) (by rfl) mu_same rfl (.inl rfl) (by show n + 1 + 1 + 1 ≤ 1048576; omega) (as_cons e_int as_nil) ⟨_, rfl, by decide, by decide⟩) fun d hd => ?_) (fun i j hi hj => .inl ⟨by subst hi; decide, by subst hi; decide⟩)) fun d hd => ?_)) fun d hd => ?_) (fun i j hi hj => .inr ⟨by rcases hj with rfl | rfl <;> decide, by rcases hj with rfl | rfl <;> decide⟩)) fun d hd => ⟨?_, mu_same⟩
      · obtain ⟨_, r, _, rfl, h0, _⟩ := hd
        exact ⟨r, rfl, h0⟩
      · obtain ⟨k, rfl, i, j, rfl, hj, rfl⟩ := hd
        have e : (0 : Int) < 10 ^ 39 := by decide
        exact ⟨_, rfl, by omega⟩
      · obtain ⟨m, r, e, rfl, h0, h1⟩ := hd
        injection e with e
        injection e with e
        subst e
        exact ⟨r, rfl, by omega⟩
      · obtain ⟨k, rfl, i, j, rfl, hj, rfl⟩ := hd
        exact ⟨_, rfl, by omega⟩
      · obtain ⟨k, rfl, i, j, rfl, hj, rfl⟩ := hd
        exact ⟨_, rfl, by omega⟩
      · obtain ⟨k, rfl, i, j, hi, hj, rfl⟩ := hd
        refine ⟨_, rfl, ?_⟩
        rcases hj with rfl | rfl <;> omega
    · refine bk_raise (i := 0) (m := n + 2) hm (by omega) ?_
      refine bk_ret (ef_draw (i := 0) (n := n + 2) FP hr (by rfl) mu_same rfl (.inl rfl) (by show n + 2 + 1 ≤ 1048576; omega) (as_cons (e_lst (x1 := 0) (as_cons e_int (as_cons e_int (as_cons e_int (as_cons (e_neg e_int) (as_cons (e_neg e_int) (as_cons e_int (as_cons (e_neg e_int) (as_cons e_int (as_cons e_int (as_cons e_int (as_cons (e_neg e_int) (as_cons e_int as_nil)))))))))))) (by show 12 ≤ 100000; decide)) as_nil) ⟨_, rfl, by show 1 ≤ 12; decide, by show 12 ≤ 1000; decide⟩) fun d hd => ⟨?_, mu_same⟩
      obtain ⟨es, e, hm⟩ := hd
      injection e with e
      injection e with e
      subst e
      simp only [List.mem_cons, List.not_mem_nil, or_false] at hm
      rcases hm with rfl | rfl | rfl | rfl | rfl | rfl | rfl | rfl | rfl | rfl | rfl | rfl <;> exact ⟨_, rfl, by decide⟩
end
end R1

set_option Elab.async false
set_option linter.all false
set_option maxRecDepth 100000
set_option maxHeartbeats 4000000
/-! K12W10: drawn polynomials: walks. -/
namespace R1
open PySem PySem.Spec PyProof.Rows L2 Evl
theorem sc35 : FnScope ["pen", "width", "degree", "terms", "found", "lap", "left", "powers", "step", "at"] ["pen", "width", "degree", "terms"] (defScope (topS 35)) := ⟨rfl, rfl, rfl, by decide +kernel, rfl, by decide +kernel, by decide +kernel⟩
abbrev drawnN : List Str := ["pen", "width", "degree", "terms", "found", "lap", "left", "powers", "step", "at"]
/-- what is drawn: rows of so many powers, up to six each, none twice -/
structure Keys (wd : Nat) (m : KI) : Prop where
  nd : (m.map (·.1)).Nodup
  l : ∀ q ∈ m.map (·.1), q.length = wd
  n : ∀ q ∈ m.map (·.1), ∀ x ∈ q, 0 ≤ x ∧ x ≤ 6
  len : m.length ≤ 5
  v : ∀ q ∈ m, -50 ≤ q.2 ∧ q.2 ≤ 50
def PreDrawn (ds : List PyData) : Prop := ∃ wd dg tm : Int, ds = [.int wd, .int dg, .int tm] ∧ 0 ≤ wd ∧ wd ≤ 3 ∧ 0 ≤ dg ∧ dg ≤ 6 ∧ 0 ≤ tm ∧ tm ≤ 5
def RDrawn (ds : List PyData) (d : PyData) : Prop := ∃ wd dg tm : Int, ∃ m : KI, ds = [.int wd, .int dg, .int tm] ∧ Keys wd.toNat m ∧ d = polD (polOf m)
theorem kiPut_keys (m : KI) (p : List Int) (c : Int) (h : (m.map (·.1)).Nodup) : ((kiPut m p c).map (·.1)).Nodup := by
  unfold kiPut
  by_cases e : (m.any fun q => decide (q.1 = p)) = true
  · rw [if_pos e, List.map_map]
    have : m.map ((fun q : List Int × Int => q.1) ∘ fun q => if q.1 = p then (q.1, c) else q) = m.map (·.1) := List.map_congr_left fun q _ => by
      show (if q.1 = p then (q.1, c) else q).1 = q.1
      split <;> rfl
    rw [this]
    exact h
  · rw [if_neg e, List.map_append]
    refine List.nodup_append.mpr ⟨h, List.Pairwise.cons (fun _ z => nomatch z) List.Pairwise.nil, fun a ha b hb => ?_⟩
    rw [List.mem_singleton.mp hb]
    intro z
    subst z
    obtain ⟨q, hq, rfl⟩ := List.mem_map.mp ha
    exact e (List.any_eq_true.mpr ⟨q, hq, decide_eq_true rfl⟩)
section
variable {P : Program} {w : World} {K : PySem.W.Frag} {mg : Str → Option Value} {base : Heap} {k : Nat}
theorem fn_polOf (D : Dfn K mg "_law_poly" (topS 31)) (ms : mg "sorted" = none) (mS : mg "sum" = none) (mt : mg "tuple" = none) : Fn P w K mg base "_law_poly" 1 ["found"] (spP RPolOf) :=
  fn_blk (k := 0) D sc31 (fun ds d h => by obtain ⟨p, rfl, _⟩ := h; rfl) (fun kV doc pm an cdv ct us hl => by
    match us, hl with
    | [a], _ => rfl) fun f cdv A outer s H G hr ds d h => by
    obtain ⟨m, rfl, hl, hnd, rfl⟩ := h
    have hu1 : (cxB P w K mg base ["found", "some", "degree", "powers"] "_law_poly" (topS 31) f cdv A outer s H G).A.units + 1 < cLine := by
      have : (cxB P w K mg base ["found", "some", "degree", "powers"] "_law_poly" (topS 31) f cdv A outer s H G).A.units + 16 * 0 + 200 < cLine := hr.un
      omega
    have hu70 : (cxB P w K mg base ["found", "some", "degree", "powers"] "_law_poly" (topS 31) f cdv A outer s H G).A.units + 70 < cLine := by
      have : (cxB P w K mg base ["found", "some", "degree", "powers"] "_law_poly" (topS 31) f cdv A outer s H G).A.units + 16 * 0 + 200 < cLine := hr.un
      omega
    have hks : (((kiD m).map fun q => pwD q.1).filter fun d => decide (kiGet m (keyD d) ≠ 0)).map (fun d => rkD (rkP (keyD d))) = (((m.filter fun q => decide (q.2 ≠ 0)).map (·.1)).map rkP).map rkD := by
      unfold kiD
      rw [List.map_map, List.filter_map, List.map_map, List.map_map, List.map_map]
      have hf : m.filter ((fun d => decide (kiGet m (keyD d) ≠ 0)) ∘ (fun q => pwD q.1) ∘ fun q => (q.1, PyData.int q.2)) = m.filter fun q => decide (q.2 ≠ 0) := List.filter_congr fun q hq => by
        show decide (kiGet m (keyD (pwD q.1)) ≠ 0) = _
        rw [keyD_pw, kiGet_mem hnd hq]
      rw [hf]
      refine List.map_congr_left fun q _ => ?_
      show rkD (rkP (keyD (pwD q.1))) = rkD (rkP q.1)
      rw [keyD_pw]
    refine bk_set (i := 1) sc31.nd rfl (.inl rfl) (ef_e (e_sortRk (ks := ((m.filter fun q => decide (q.2 ≠ 0)).map (·.1)).map rkP) hu70 (by rfl) ms ((e_lcIf (own := [("powers", 3)]) (g := gName 3) (f := fun d => decide (kiGet m (keyD d) ≠ 0)) (F := fun d => rkD (rkP (keyD d))) (ρ' := fun d => (wipeR _ [3]).set 3 (some d)) rfl sc31.nd (blkOk_by (own := [("powers", 3)]) (N := ["found", "some", "degree", "powers"]) (sc := defScope (topS 31)) (by decide +kernel))
      (fun _ _ _ _ _ => pg_name (i := 3) sc31.nd rfl (Or.inl rfl)) (it_keys (kvs := kiD m) (e_name 0 rfl (.inr (.inl rfl)) rfl)) (fun d _ => gt_name (by simp)) (fun d hd => ?_) (fun d hd _ => ?_) (by rw [List.length_map, kiD_len]; omega)).eq (by rw [hks])))) fun d hd => ?_
    · obtain ⟨q', hq', rfl⟩ := List.mem_map.mp hd
      obtain ⟨q, hq, rfl⟩ := List.mem_map.mp hq'
      have hqm : q.1 ∈ m.map (·.1) := List.mem_map.mpr ⟨q, hq, rfl⟩
      intro s0 H0 C cl fp
      rw [keyD_pw]
      refine T.eq (k := !decide (kiGet m q.1 = 0)) ?_ (by by_cases h : kiGet m q.1 = 0 <;> simp [h])
      exact t_neI (e_dget (kvs := kiD m) (p := q.1) hu1 (e_name 0 rfl (.inr (.inl rfl)) rfl) (e_name 3 rfl (.inl rfl) rfl) (kvGet_kiD' hqm)) e_int
    · obtain ⟨q', hq', rfl⟩ := List.mem_map.mp hd
      obtain ⟨q, hq, rfl⟩ := List.mem_map.mp hq'
      intro s0 H0 C cl fp
      rw [keyD_pw]
      exact e_tup (as_cons (e_sumT rfl (by rfl) mS (e_name 3 rfl (.inl rfl) rfl)) (as_cons (e_name 3 rfl (.inl rfl) rfl) as_nil)) (Nat.le_of_ble_eq_true rfl)
    · subst hd
      generalize hkk : (m.filter fun q => decide (q.2 ≠ 0)).map (·.1) = ks
      have hkl : ks.length ≤ m.length := by
        rw [← hkk, List.length_map]
        exact List.length_filter_le _ _
      have hsd : (srtD (ks.map rkP)).map rkD = (srtP ks).map fun q => .tuple [.int q.sum, pwD q] := by
        rw [← srtP_rk, List.map_map]
        rfl
      rw [hsd]
      refine bk_ret (ef_e ((e_tupOf (k := false) (by rfl) mt (e_lc (own := [("degree", 2), ("powers", 3)]) (g := gTup K 2 (gCons (gName 2) (gCons (gName 3) gNil))) (F := fun d => tmD (kiGet m (keyD (sndD d)), keyD (sndD d)))
        (ρ' := fun d => ((wipeR [some (kvD (kiD m)), some (.list ((srtP ks).map fun q => .tuple [.int q.sum, pwD q])), none, none] [2, 3]).set 2 (some (fstD d))).set 3 (some (sndD d))) rfl sc31.nd (blkOk_by (own := [("degree", 2), ("powers", 3)]) (N := ["found", "some", "degree", "powers"]) (sc := defScope (topS 31)) (by decide +kernel))
        (fun _ _ _ _ _ => pg_tup rfl (pgs_cons (pg_name (i := 2) sc31.nd rfl (Or.inl rfl)) (pgs_cons (pg_name (i := 3) sc31.nd rfl (Or.inl rfl)) pgs_nil))) (it_list (e_name 1 rfl (.inl rfl) rfl)) (fun d hd => ?_) (fun d hd => ?_) (by rw [List.length_map, (srtP_perm ks).length_eq]; omega))))) fun d hd => ?_
      · obtain ⟨q, hq, rfl⟩ := List.mem_map.mp hd
        exact gt_tup2 (by simp) (by simp)
      · obtain ⟨q, hq, rfl⟩ := List.mem_map.mp hd
        have hqk : q ∈ ks := (srtP_perm ks).mem_iff.mp hq
        have hqm : q ∈ m.map (·.1) := by
          rw [← hkk] at hqk
          obtain ⟨z, hz, rfl⟩ := List.mem_map.mp hqk
          exact List.mem_map.mpr ⟨z, (List.mem_filter.mp hz).1, rfl⟩
        have en : keyD (sndD (.tuple [.int q.sum, pwD q])) = q := keyD_pw q
        rw [en]
        intro s0 H0 C cl fp
        exact e_tup (as_cons (e_dget (kvs := kiD m) (p := q) hu1 (e_name 0 rfl (.inr (.inl rfl)) rfl) (e_name 3 rfl (.inl rfl) rfl) (kvGet_kiD' hqm)) (as_cons (e_name 3 rfl (.inl rfl) rfl) as_nil)) (Nat.le_of_ble_eq_true rfl)
      · subst hd
        show PyData.tuple _ = polD (polOf m)
        unfold polOf polD
        rw [hkk, List.map_map, List.map_map]
        congr 1
        refine List.map_congr_left fun q _ => ?_
        show tmD (kiGet m (keyD (pwD q)), keyD (pwD q)) = tmD (kiGet m q, q)
        rw [keyD_pw]
theorem fn_told (D : Dfn K mg "_law_told_otherwise" (topS 36)) (ml : mg "list" = none) (FD : Fn P w K mg base "_law_draw" 1 ["pen", "many"] (spD 1 PreMany RMany)) : Fn P w K mg base "_law_told_otherwise" 2 ["pen", "poly"] (spD 100 PreTold RTold) :=
  fn_draw (k := 1) D sc36 (fun ds h => by obtain ⟨p, rfl, _⟩ := h; rfl) (fun kV doc pm an cdv ct us hl => by
    match us, hl with
    | [a, b], _ => rfl) fun f cdv A outer s H G hr ds n h hn => by
    obtain ⟨p, rfl, hp⟩ := h
    have hn' : n + 100 ≤ 1048576 := hn
    have hl : (p.map tmD).length = p.length := List.length_map _
    refine bk_raise (i := 0) (m := n + (100 - p.length)) rfl (by omega) ?_
    have e1 : mu (fun j => if j = 0 then some (MD.pen n) else none) 0 (some (.pen (n + (100 - p.length)))) = penMo 0 (n + (100 - p.length)) := penMo_mu (pn := 0) (n := n)
    rw [e1]
    refine bk_ret (ef_lc (pn := 0) (cost := 1) (own := [("coefficient", 2), ("powers", 3)]) (g := gTup K 2 (gCons (gName 2) (gCons (gName 3) gNil))) (Rel := fun d e => ∀ t, d = tmD t → TmIs t e)
        (ρ' := fun d => ((wipeR [none, some (polD p), none, none] [2, 3]).set 2 (some (fstD d))).set 3 (some (sndD d))) rfl sc36.nd (blkOk_by (own := [("coefficient", 2), ("powers", 3)]) (N := ["pen", "poly", "coefficient", "powers"]) (sc := defScope (topS 36)) (by decide +kernel))
        (fun _ _ _ _ _ => pg_tup rfl (pgs_cons (pg_name (i := 2) sc36.nd rfl (Or.inl rfl)) (pgs_cons (pg_name (i := 3) sc36.nd rfl (Or.inl rfl)) pgs_nil))) (it_tup (e_name 1 rfl (.inl rfl) rfl)) (fun d hd => ?_) (by decide) (fun d m hd hm => ?_) (by rw [hl]; omega)) fun d hd => ⟨?_, ?_⟩
    · obtain ⟨t, ht, rfl⟩ := List.mem_map.mp hd
      exact gt_tup2 (by simp) (by simp)
    · obtain ⟨t, ht, rfl⟩ := List.mem_map.mp hd
      intro s0 H0 C cl fp
      have hmm : m + 1 ≤ 1048576 := by rw [hl] at hm; omega
      have e2 : mu (penMo 0 m) 0 (some (.pen (m + 1))) = penMo 0 (m + 1) := penMo_mu (pn := 0) (n := m)
      have inj : ∀ t', tmD t = tmD t' → t = t' := fun t' e => by
        injection e with e
        injection e with e4 e5
        injection e4 with e6
        injection e5 with e7 _
        injection e7 with e8
        exact Prod.ext e6 (ints_inj e8)
      refine ef_ifExp (μ1 := mu (penMo 0 m) 0 (some (.pen (m + 1)))) (tf_eqI (P := fun _ => True) (P' := fun _ => True) (ef_mono (ef_draw (i := 0) (n := m) FD hr (by rfl) penMo_same rfl (.inr (.inl rfl)) hmm (as_cons e_int as_nil) ⟨_, rfl, by decide, by decide⟩) fun d hd => ?_) (ef_of e_int ⟨_, rfl, trivial⟩)) (fun _ => ?_) fun _ => ?_
      · obtain ⟨_, r, _, rfl, _⟩ := hd
        exact ⟨r, rfl, trivial⟩
      · rw [e2]
        exact ef_of (e_lst (x1 := 0) (as_cons (e_name 2 rfl (.inl rfl) rfl) (as_cons (e_listOf (k := true) (by rfl) ml (e_name 3 rfl (.inl rfl) rfl)) as_nil)) (by show 2 ≤ 100000; decide)) fun t' e => by
          have := inj t' e
          subst this
          exact ⟨false, false, rfl⟩
      · rw [e2]
        exact ef_of (e_tup (as_cons (e_name 2 rfl (.inl rfl) rfl) (as_cons (e_name 3 rfl (.inl rfl) rfl) as_nil)) (by show 2 ≤ 100000; decide)) fun t' e => by
          have := inj t' e
          subst this
          exact ⟨true, true, rfl⟩
    · obtain ⟨es, rfl, hr⟩ := hd
      refine ⟨p, es, rfl, rfl, ?_⟩
      clear e1 hl hp
      have go : ∀ (p : List Tm) (es : List PyData), AllR (fun d e => ∀ t, d = tmD t → TmIs t e) (p.map tmD) es → Tms p es := by
        intro p
        induction p with
        | nil => intro es h; cases h; exact .nil
        | cons t p ih =>
          intro es h
          cases h with
          | cons a b => exact .cons (a t rfl) (ih _ b)
      exact go p es hr
    · rw [hl]
      show penMo 0 _ 0 = _
      rw [penMo_same]
      congr 2
      omega
end
end R1

set_option Elab.async false
set_option linter.all false
set_option maxRecDepth 100000
set_option maxHeartbeats 4000000
/-! K12W11: _law_drawn: the walk. -/
namespace R1
open PySem PySem.Spec PyProof.Rows L2 Evl
structure KeysJ (wd : Nat) (j : Nat) (m : KI) : Prop where
  nd : (m.map (·.1)).Nodup
  l : ∀ q ∈ m.map (·.1), q.length = wd
  n : ∀ q ∈ m.map (·.1), ∀ x ∈ q, 0 ≤ x ∧ x ≤ 6
  len : m.length ≤ j
  v : ∀ q ∈ m, -(10 * (j : Int)) ≤ q.2 ∧ q.2 ≤ 10 * (j : Int)
theorem kiGet_or (m : KI) (p : List Int) : kiGet m p = 0 ∨ ∃ q ∈ m, kiGet m p = q.2 := by
  unfold kiGet
  cases h : m.find? fun q => decide (q.1 = p) with
  | none => exact .inl rfl
  | some q => exact .inr ⟨q, List.mem_of_find?_eq_some h, rfl⟩
theorem kiPut_memV {m : KI} {p : List Int} {c : Int} {q : List Int × Int} (h : q ∈ kiPut m p c) : q ∈ m ∨ q.2 = c := by
  unfold kiPut at h
  split at h
  · obtain ⟨z, hz, rfl⟩ := List.mem_map.mp h
    by_cases e : z.1 = p
    · rw [if_pos e]; exact .inr rfl
    · rw [if_neg e]; exact .inl hz
  · rcases List.mem_append.mp h with h | h
    · exact .inl h
    · rw [List.mem_singleton.mp h]; exact .inr rfl
theorem KeysJ.get {wd j : Nat} {m : KI} (h : KeysJ wd j m) (p : List Int) : -(10 * (j : Int)) ≤ kiGet m p ∧ kiGet m p ≤ 10 * (j : Int) := by
  rcases kiGet_or m p with e | ⟨q, hq, e⟩
  · rw [e]; omega
  · rw [e]; exact h.v q hq
theorem KeysJ.add {wd j : Nat} {m : KI} {p : List Int} {c : Int} (h : KeysJ wd j m) (hl : p.length = wd) (hn : ∀ x ∈ p, 0 ≤ x ∧ x ≤ 6) (hc : -(10 * ((j : Int) + 1)) ≤ c ∧ c ≤ 10 * ((j : Int) + 1)) : KeysJ wd (j + 1) (kiPut m p c) :=
  ⟨kiPut_keys m p c h.nd, fun q hq => (kiPut_mem hq).elim (h.l q) fun e => by rw [e]; exact hl, fun q hq => (kiPut_mem hq).elim (h.n q) fun e => by rw [e]; exact hn, by have := kiPut_len m p c; have := h.len; omega, fun q hq => by
    rcases kiPut_memV hq with h1 | h1
    · have := h.v q h1; omega
    · rw [h1]; omega⟩
theorem pw_tup (p : List Int) : PyData.tuple (p.map .int) = pwD p := rfl
section
variable {P : Program} {w : World} {K : PySem.W.Frag} {mg : Str → Option Value} {base : Heap} {k : Nat}
theorem fn_drawnP (D : Dfn K mg "_law_drawn" (topS 35)) (mr : mg "range" = none) (mt : mg "tuple" = none) (FD : Fn P w K mg base "_law_draw" 1 ["pen", "many"] (spD 1 PreMany RMany)) (FS : Fn P w K mg base "_law_small" 3 ["pen"] (spD 1 (fun ds => ds = []) RSmall)) (FP : Fn P w K mg base "_law_poly" 1 ["found"] (spP RPolOf)) :
    Fn P w K mg base "_law_drawn" 4 ["pen", "width", "degree", "terms"] (spD 41 PreDrawn RDrawn) :=
  fn_draw (k := 3) D sc35 (fun ds h => by obtain ⟨a, b, c, rfl, _⟩ := h; rfl) (fun kV doc pm an cdv ct us hl => by
    match us, hl with
    | [a, b, c, d], _ => rfl) fun f cdv A outer s H G hr ds n h hn => by
    obtain ⟨wd, dg, tm, rfl, w0, w1, g0, g1, t0, t1⟩ := h
    have hn' : n + 41 ≤ 1048576 := hn
    have hu1 : (cxB P w K mg base drawnN "_law_drawn" (topS 35) f cdv A outer s H G).A.units + 1 < cLine := by
      have : (cxB P w K mg base drawnN "_law_drawn" (topS 35) f cdv A outer s H G).A.units + 16 * 3 + 200 < cLine := hr.un
      omega
    refine bk_own (i := 4) sc35.nd rfl (.inl rfl) en_dict rfl (by show 4 < 10; decide) ?_
    refine bk_forF (ts := [5]) (Pd := fun ds => ∃ r : Int, (0 ≤ r ∧ r ≤ 5) ∧ ds = upto 0 r.toNat) (fun ds j ρ μ => ρ = [none, some (.int wd), some (.int dg), some (.int tm), none, none, none, none, none, none] ∧ μ 0 = some (.pen (n + 1 + 8 * j)) ∧ (∃ m, μ 4 = some (.dct (kiD m)) ∧ KeysJ wd.toNat j m) ∧ ∀ i, i ≠ 0 → i ≠ 4 → μ i = none) PassesOwn.never rfl
      (pg_name (i := 5) sc35.nd rfl (Or.inl rfl)) (itf_range1 (Pn := fun r => 0 ≤ r ∧ r ≤ 5) (by rfl) mr (ef_mono (ef_draw (i := 0) (n := n) FD (hr.mono (by decide)) (by rfl) (by rw [mu_ne (by decide)]; rfl) rfl (.inl rfl) (by show n + 1 ≤ 1048576; omega) (as_cons (e_add (e_name 3 rfl (.inl rfl) rfl) e_int) as_nil) ⟨_, rfl, by omega, by omega⟩) fun d hd => ?_) fun r hr => ⟨by omega, by omega⟩)
      (fun ds hd => ⟨rfl, mu_same, ⟨[], by rw [mu_ne (by decide), mu_same]; rfl, ⟨List.Pairwise.nil, fun _ z => (nomatch z), fun _ z => (nomatch z), Nat.le_refl _, fun _ z => (nomatch z)⟩⟩, fun i h0 h4 => by rw [mu_ne h0, mu_ne h4]; exact if_neg h0⟩) (fun ds j d ρj μj hds hd hI => ?_) fun ds ρ' μ' hds hI => ?_
    · obtain ⟨m, r, e, rfl, h0, h1⟩ := hd
      injection e with e
      injection e with e
      subst e
      exact ⟨r, rfl, h0, by omega⟩
    · obtain ⟨lap, ⟨l0, l1⟩, rfl⟩ := hds
      obtain ⟨hj, rfl⟩ := get_upto hd
      obtain ⟨rfl, hm0, ⟨m, hm4, hk⟩, hμ⟩ := hI
      have hj5 : j < 5 := by omega
      refine ⟨_, gt_name (by simp), fun t ht => hμ t (by simp at ht; omega) (by simp at ht; omega), ?_⟩
      refine bk_parOwn (i := 6) (j := 7) rfl sc35.nd rfl rfl (by decide) rfl rfl (ef_draw (i := 0) FD (hr.mono (by decide)) (by rfl) hm0 rfl (.inl rfl) (by show n + 1 + 8 * j + 1 ≤ 1048576; omega) (as_cons (e_add (e_name 2 rfl (.inl rfl) rfl) e_int) as_nil) ⟨_, rfl, by omega, by omega⟩)
        (en_rep (e_lst (x1 := 0) (as_cons e_int as_nil) (by show 1 ≤ 100000; decide)) (e_name 1 rfl (.inl rfl) rfl) (by show 1 * _ ≤ _; omega)) rfl (by show 7 < 10; decide) fun d hd => ?_
      obtain ⟨mm, left, e, rfl, f0, f1⟩ := hd
      injection e with e
      injection e with e
      subst e
      have hf6 : left ≤ 6 := by omega
      have hv0 : 0 ≤ (if 0 < wd then left else 0) := by split <;> omega
      have hv6 : (if 0 < wd then left else 0) ≤ 6 := by split <;> omega
      refine bk_for (ts := [8]) (fun i ρ μ => ρ = [none, some (.int wd), some (.int dg), some (.int tm), none, some (.int (0 + (j : Int))), some (.int left), none, none, none] ∧ μ 0 = some (.pen (n + 1 + 8 * j + 1 + i)) ∧ μ 4 = some (.dct (kiD m)) ∧ (∃ ps : List Int, μ 7 = some (.lst (ps.map .int)) ∧ ps.length = wd.toNat ∧ ∀ x ∈ ps, 0 ≤ x ∧ x ≤ i) ∧ ∀ i, i ≠ 0 → i ≠ 4 → i ≠ 7 → μ i = none) PassesOwn.never rfl
        (pg_name (i := 8) sc35.nd rfl (Or.inl rfl)) (it_range1 (n := if 0 < wd then left else 0) (by rfl) mr (e_ifExp (k := decide (0 < wd)) (t_gt (e_name 1 rfl (.inl rfl) rfl) e_int) (fun hB => (e_name 6 rfl (.inl rfl) rfl).eq (by rw [if_pos (of_decide_eq_true hB)])) fun hB => e_int.eq (by rw [if_neg (of_decide_eq_false hB)]))) ⟨rfl, ?_, ?_, ⟨List.replicate wd.toNat 0, ?_, List.length_replicate, fun x hx => ?_⟩, fun i h0 h4 h7 => ?_⟩ (fun i d ρi μi hd hI => ?_) fun ρ' μ' hI => ?_
      · rw [mu_ne (by decide), mu_ne (by decide), mu_same]
      · rw [mu_ne (by decide), mu_ne (by decide), mu_ne (by decide)]; exact hm4
      · rw [mu_same, List.map_replicate, List.flatten_replicate_singleton]
      · rw [(List.mem_replicate.mp hx).2]; omega
      · rw [mu_ne h7]
        by_cases h6 : i = 6
        · rw [h6, mu_same]
        · rw [mu_ne h6, mu_ne h0]
          exact hμ i h0 h4
      · obtain ⟨hi, rfl⟩ := get_upto hd
        obtain ⟨rfl, hn0, hn4, ⟨ps, hn7, hpl, hpx⟩, hμ2⟩ := hI
        have hwp : 0 < wd := by
          by_cases h : 0 < wd
          · exact h
          · rw [if_neg h] at hi; simp at hi
        have hi6 : i < 6 := by omega
        refine ⟨_, gt_name (by simp), fun t ht => hμ2 t (by simp at ht; omega) (by simp at ht; omega) (by simp at ht; omega), ?_⟩
        refine bk_set (i := 9) sc35.nd rfl (.inl rfl) (ef_draw (i := 0) FD (hr.mono (by decide)) (by rfl) hn0 rfl (.inl rfl) (by show n + 1 + 8 * j + 1 + i + 1 ≤ 1048576; omega) (as_cons (e_name 1 rfl (.inl rfl) rfl) as_nil) ⟨_, rfl, by omega, by omega⟩) fun d hd => ?_
        obtain ⟨mm, a, e, rfl, a0, a1⟩ := hd
        injection e with e
        injection e with e
        subst e
        have ha : a = ((a.toNat : Nat) : Int) := by omega
        have hal : a.toNat < ps.length := by omega
        have hm7 : mu (mu μi 0 (some (.pen (n + 1 + 8 * j + 1 + i + 1)))) 9 none 7 = some (.lst (ps.map .int)) := by rw [mu_ne (by decide), mu_ne (by decide)]; exact hn7
        refine bk_lput (i := 7) (n := a) (m := a.toNat) (ef_peek hm7 (e_add (e_ix (k := false) (e_name 7 rfl (.inl rfl) rfl) (e_name 9 rfl (.inl rfl) rfl) (by rw [ha]; exact atI_nat (map_getD hal))) e_int) trivial) hm7 rfl (.inl rfl) (e_name 9 rfl (.inl rfl) rfl) (by rw [ha, List.length_map]; exact ixN_nat hal) fun d hd => ?_
        subst hd
        refine bk_forget (ρ' := [none, some (.int wd), some (.int dg), some (.int tm), none, some (.int (0 + (j : Int))), some (.int left), none, none, none]) (by repeat (first | exact .nil | refine .keep ?_ | refine .drop ?_)) (bk_nil ⟨rfl, ?_, ?_, ⟨ps.set a.toNat (ps.getD a.toNat 0 + 1), ?_, by rw [List.length_set]; exact hpl, fun x hx => ?_⟩, fun t h0 h4 h7 => ?_⟩)
        · rw [mu_ne (by decide), mu_ne (by decide), mu_same]; rfl
        · rw [mu_ne (by decide), mu_ne (by decide), mu_ne (by decide)]; exact hn4
        · rw [mu_same, List.map_set]
        · have hg : 0 ≤ ps.getD a.toNat 0 ∧ ps.getD a.toNat 0 ≤ i := by
            rw [List.getD_eq_getElem?_getD, List.getElem?_eq_getElem hal]
            exact hpx _ (List.getElem_mem hal)
          rcases List.mem_or_eq_of_mem_set hx with h | h
          · have := hpx x h; omega
          · rw [h]; omega
        · rw [mu_ne h7]
          by_cases h9 : t = 9
          · rw [h9, mu_same]
          · rw [mu_ne h9, mu_ne h0]
            exact hμ2 t h0 h4 h7
      · obtain ⟨rfl, hn0, hn4, ⟨ps, hn7, hpl, hpx⟩, hμ2⟩ := hI
        rw [upto_len] at hn0 hpx
        refine bk_raise (i := 0) (m := n + 1 + 8 * j + 7) hn0 (by omega) ?_
        refine bk_freeze (i := 7) (ds := ps.map .int) (by rw [mu_ne (by decide)]; exact hn7) ?_
        generalize hμ3 : mu (mu μ' 0 (some (.pen (n + 1 + 8 * j + 7)))) 7 none = μ3
        have q0 : μ3 0 = some (.pen (n + 1 + 8 * j + 7)) := by rw [← hμ3, mu_ne (by decide), mu_same]
        have q4 : μ3 4 = some (.dct (kiD m)) := by rw [← hμ3, mu_ne (by decide), mu_ne (by decide)]; exact hn4
        have qn : ∀ t, t ≠ 0 → t ≠ 4 → μ3 t = none := fun t h0 h4 => by
          rw [← hμ3]
          by_cases h7 : t = 7
          · rw [h7, mu_same]
          · rw [mu_ne h7, mu_ne h0]; exact hμ2 t h0 h4 h7
        clear hμ3
        have hx6 : ∀ x ∈ ps, 0 ≤ x ∧ x ≤ 6 := fun x hx => by have := hpx x hx; omega
        refine bk_dput (i := 4) (kvs := kiD m) (μ1 := mu μ3 0 (some (.pen (n + 1 + 8 * j + 7 + 1)))) (pw := ps) (A1 := fun d => ∃ c : Int, d = .int (kiGet m ps + c) ∧ -10 ≤ c ∧ c ≤ 10) hu1 (ef_mono (ef_add (P := fun k => k = kiGet m ps) (P' := fun c => -10 ≤ c ∧ c ≤ 10) (ef_mono (ef_dget (i := 4) (p := ps) (kvs := kiD m) hu1 q4 rfl (.inl rfl) ((e_tupOf (k := false) (by rfl) mt (e_name 7 rfl (.inl rfl) rfl)).eq (pw_tup ps)) e_int) fun d h => ⟨_, h.trans (kvGet_kiD _ _), rfl⟩) (ef_mono (ef_draw (i := 0) FS hr (by rfl) q0 rfl (.inl rfl) (by show n + 1 + 8 * j + 7 + 1 ≤ 1048576; omega) as_nil rfl) fun d hd => ?_)) fun d hd => ?_) (by rw [mu_ne (by decide)]; exact q4) rfl (.inl rfl) ((e_tupOf (k := false) (by rfl) mt (e_name 7 rfl (.inl rfl) rfl)).eq (pw_tup ps)) (by rw [kiD_len]; have := hk.len; omega) fun d hd => ?_
        · obtain ⟨i, rfl, i0, i1⟩ := hd
          exact ⟨i, rfl, i0, i1⟩
        · obtain ⟨k, rfl, x, y, rfl, hy, rfl⟩ := hd
          exact ⟨y, rfl, hy.1, hy.2⟩
        · obtain ⟨c, rfl, c0, c1⟩ := hd
          have hgb := hk.get ps
          refine bk_forget (ρ' := [none, some (.int wd), some (.int dg), some (.int tm), none, none, none, none, none, none]) (by repeat (first | exact .nil | refine .keep ?_ | refine .drop ?_)) (bk_nil ⟨rfl, ?_, ⟨kiPut m ps (kiGet m ps + c), ?_, hk.add hpl hx6 (by omega)⟩, fun t h0 h4 => ?_⟩)
          · rw [mu_ne (by decide), mu_same]
            congr 2
          · rw [mu_same, kvPut_kiD]
          · rw [mu_ne h4, mu_ne h0]
            exact qn t h0 h4
    · obtain ⟨r, ⟨r0, r1⟩, rfl⟩ := hds
      obtain ⟨rfl, hm0, ⟨m, hm4, hk⟩, hμ⟩ := hI
      rw [upto_len] at hm0 hk
      refine bk_raise (i := 0) (m := n + 41) hm0 (by omega) ?_
      refine bk_lock (i := 4) (kvs := kiD m) (by rw [mu_ne (by decide)]; exact hm4) ?_
      refine bk_ret (ef_e (e_call FP (hr.mono (by decide)) (by rfl) (as_cons (e_name 4 rfl (.inl rfl) rfl) as_nil) ⟨m, rfl, by have := hk.len; omega, hk.nd, rfl⟩)) fun d hd => ⟨⟨wd, dg, tm, m, rfl, ⟨hk.nd, hk.l, hk.n, by have := hk.len; omega, fun q hq => by have := hk.v q hq; omega⟩, hd⟩, ?_⟩
      rw [mu_ne (by decide), mu_same]
end
end R1

set_option Elab.async false
set_option linter.all false
set_option maxRecDepth 100000
set_option maxHeartbeats 4000000
/-! K12W12: _law_difference: the walk. -/
namespace R1
open PySem PySem.Spec PyProof.Rows L2 Evl
abbrev difN : List Str := ["poly", "powers", "found", "rows", "count", "row", "times", "at", "sign_here"]
theorem sc37 : FnScope difN ["poly", "powers"] (defScope (topS 37)) := ⟨rfl, rfl, rfl, by decide +kernel, rfl, by decide +kernel, by decide +kernel⟩
def sgn (n : Int) : Int := if n.fmod 2 = 0 then 1 else -1
abbrev RS := List (List Int × Int)
def rwD (q : List Int × Int) : PyData := .tuple [pwD q.1, .int q.2]
def difCell (c : Int) (q : List Int × Int) (a : Nat) : List Int × Int := (q.1 ++ [(a : Int)], q.2 * cho c a * sgn (c - a))
def difRow (c : Int) (q : List Int × Int) : RS := (List.range (c.toNat + 1)).map (difCell c q)
def difStep (rs : RS) (c : Int) : RS := (rs.map (difRow c)).flatten
def difs (ps : List Int) : RS := ps.foldl difStep [([], 1)]
def difference (p : List Tm) (ps : List Int) : Int := (difs ps).foldl (fun a q => a + q.2 * worth p q.1) 0
structure DOk (i : Nat) (q : List Int × Int) : Prop where
  l : q.1.length = i
  n : ∀ x ∈ q.1, 0 ≤ x ∧ x ≤ 6
  b : -(20 ^ i : Int) ≤ q.2 ∧ q.2 ≤ 20 ^ i
theorem cho_small : ∀ c : Fin 7, ∀ a : Fin 7, a ≤ c → 0 ≤ cho (c.val : Int) a.val ∧ cho (c.val : Int) a.val ≤ 20 := by decide +kernel
theorem cho_bd {c : Int} (h0 : 0 ≤ c) (h6 : c ≤ 6) {a : Nat} (ha : a ≤ c.toNat) : 0 ≤ cho c a ∧ cho c a ≤ 20 := by
  have h := cho_small ⟨c.toNat, by omega⟩ ⟨a, by omega⟩ (by show a ≤ c.toNat; exact ha)
  have e : ((c.toNat : Nat) : Int) = c := by omega
  rw [show ((⟨c.toNat, by omega⟩ : Fin 7).val : Int) = c from e] at h
  exact h
theorem sgn_is (n : Int) : sgn n = 1 ∨ sgn n = -1 := by unfold sgn; split <;> simp
theorem dok_cell {i : Nat} {c : Int} {q : List Int × Int} (h : DOk i q) (h0 : 0 ≤ c) (h6 : c ≤ 6) {a : Nat} (ha : a ≤ c.toNat) : DOk (i + 1) (difCell c q a) := by
  have hc := cho_bd h0 h6 ha
  refine ⟨by show (q.1 ++ [(a : Int)]).length = _; rw [List.length_append, h.l]; rfl, fun x hx => ?_, ?_⟩
  · have hx : x ∈ q.1 ++ [(a : Int)] := hx
    rcases List.mem_append.mp hx with hx | hx
    · exact h.n x hx
    · rw [List.mem_singleton.mp hx]; omega
  · show -(20 ^ (i + 1) : Int) ≤ q.2 * cho c a * sgn (c - a) ∧ q.2 * cho c a * sgn (c - a) ≤ 20 ^ (i + 1)
    have hb := h.b
    have e : (20 : Int) ^ (i + 1) = 20 ^ i * 20 := Int.pow_succ ..
    rw [e]
    generalize (20 : Int) ^ i = B at hb ⊢
    have hB : 0 ≤ B := by omega
    have u : q.2 * cho c a ≤ B * 20 := by
      have h1 : q.2 * cho c a ≤ B * cho c a := Int.mul_le_mul_of_nonneg_right hb.2 hc.1
      have h2 : B * cho c a ≤ B * 20 := Int.mul_le_mul_of_nonneg_left hc.2 hB
      omega
    have l : -(B * 20) ≤ q.2 * cho c a := by
      have h1 : (-B) * cho c a ≤ q.2 * cho c a := Int.mul_le_mul_of_nonneg_right hb.1 hc.1
      have h2 : B * cho c a ≤ B * 20 := Int.mul_le_mul_of_nonneg_left hc.2 hB
      have h3 : (-B) * cho c a = -(B * cho c a) := Int.neg_mul ..
      omega
    rcases sgn_is (c - a) with s | s <;> rw [s] <;> omega
theorem dok_step {i : Nat} {c : Int} {rs : RS} (h : ∀ q ∈ rs, DOk i q) (h0 : 0 ≤ c) (h6 : c ≤ 6) : ∀ q ∈ difStep rs c, DOk (i + 1) q := fun q hq => by
  unfold difStep at hq
  obtain ⟨l, hl, hq⟩ := List.mem_flatten.mp hq
  obtain ⟨z, hz, rfl⟩ := List.mem_map.mp hl
  unfold difRow at hq
  obtain ⟨a, ha, rfl⟩ := List.mem_map.mp hq
  have := List.mem_range.mp ha
  exact dok_cell (h z hz) h0 h6 (by omega)
theorem dok_fold : ∀ (cs : List Int) (i : Nat) (rs : RS), (∀ q ∈ rs, DOk i q) → (∀ c ∈ cs, 0 ≤ c ∧ c ≤ 6) → ∀ q ∈ cs.foldl difStep rs, DOk (i + cs.length) q
  | [], i, rs, h, _ => h
  | c :: cs, i, rs, h, hc => by
    have := dok_fold cs (i + 1) (difStep rs c) (dok_step h (hc c (.head _)).1 (hc c (.head _)).2) fun x hx => hc x (.tail _ hx)
    rw [List.length_cons, Nat.add_comm cs.length 1, ← Nat.add_assoc]
    exact this
theorem dok_one : ∀ q ∈ ([([], 1)] : RS), DOk 0 q := fun q hq => by
  rw [List.mem_singleton.mp hq]
  exact ⟨rfl, fun _ z => (nomatch z), by decide, by decide⟩
theorem flat_len {α : Type} {n : Nat} : ∀ (l : List (List α)), (∀ x ∈ l, x.length ≤ n) → l.flatten.length ≤ n * l.length
  | [], _ => by simp
  | x :: l, h => by
    have h1 := flat_len l fun y hy => h y (.tail _ hy)
    have h2 := h x (.head _)
    rw [List.flatten_cons, List.length_append, List.length_cons, Nat.mul_succ]
    omega
theorem difStep_len {c : Int} (h6 : c ≤ 6) (rs : RS) : (difStep rs c).length ≤ 7 * rs.length := by
  have := flat_len (n := 7) (rs.map (difRow c)) fun x hx => by
    obtain ⟨z, hz, rfl⟩ := List.mem_map.mp hx
    unfold difRow
    rw [List.length_map, List.length_range]
    omega
  rwa [List.length_map] at this
theorem difs_len : ∀ (cs : List Int) (rs : RS), (∀ c ∈ cs, c ≤ 6) → (cs.foldl difStep rs).length ≤ rs.length * 7 ^ cs.length
  | [], rs, _ => by simp
  | c :: cs, rs, h => by
    have h1 := difs_len cs (difStep rs c) fun x hx => h x (.tail _ hx)
    have h2 := difStep_len (h c (.head _)) rs
    have h3 : (difStep rs c).length * 7 ^ cs.length ≤ 7 * rs.length * 7 ^ cs.length := Nat.mul_le_mul_right _ h2
    show (cs.foldl difStep (difStep rs c)).length ≤ _
    rw [List.length_cons, Nat.pow_succ]
    have h4 : 7 * rs.length * 7 ^ cs.length = rs.length * (7 ^ cs.length * 7) := by
      rw [Nat.mul_comm 7 rs.length, Nat.mul_assoc, Nat.mul_comm 7]
    omega
def RDif (ds : List PyData) (d : PyData) : Prop := ∃ (p : List Tm) (ps : List Int), ds = [polD p, pwD ps] ∧ ps.length ≤ 3 ∧ (∀ x ∈ ps, 0 ≤ x ∧ x ≤ 6) ∧ (∀ t ∈ p, ∀ n ∈ t.2, 0 ≤ n ∧ n ≤ 1000) ∧ d = .int (difference p ps)
def secI (d : PyData) : Int := match sndD d with
  | .int i => i
  | _ => 0
def rwOf (d : PyData) : List Int × Int := (keyD (fstD d), secI d)
theorem rwOf_is (q : List Int × Int) : rwOf (rwD q) = q := by
  show (keyD (pwD q.1), q.2) = q
  rw [keyD_pw]
def natOf : PyData → Nat
  | .int i => i.toNat
  | _ => 0
section
variable {P : Program} {w : World} {K : PySem.W.Frag} {mg : Str → Option Value} {base : Heap} {k : Nat}
set_option maxHeartbeats 20000000 in
theorem fn_dif (D : Dfn K mg "_law_difference" (topS 37)) (mr : mg "range" = none) (ms : mg "sum" = none) (mi : mg "int" = none) (FC : Fn P w K mg base "_law_choose" 1 ["count", "some"] (spP RCho)) (FW : Fn P w K mg base "_law_worth" 1 ["poly", "numbers"] (spP RWorth)) : Fn P w K mg base "_law_difference" 2 ["poly", "powers"] (spP RDif) :=
  fn_blk (k := 1) D sc37 (fun ds d h => by obtain ⟨p, q, rfl, _⟩ := h; rfl) (fun kV doc pm an cdv ct us hl => by
    match us, hl with
    | [a, b], _ => rfl) fun f cdv A outer s H G hr ds d h => by
    obtain ⟨p, ps, rfl, hl, hx, hp, rfl⟩ := h
    refine bk_par (i := 2) (j := 3) rfl sc37.nd rfl rfl (by decide) rfl rfl (ef_e e_int) (ef_e (e_lst (x1 := 0) (as_cons (e_tup (as_cons (e_tup as_nil (by decide)) (as_cons e_int as_nil)) (by show 2 ≤ 100000; decide)) as_nil) (by show 1 ≤ 100000; decide))) fun d d' hd hd' => ?_
    subst hd
    subst hd'
    refine bk_for (ts := [4]) (fun j ρ μ => ρ = [some (polD p), some (pwD ps), some (.int 0), some (.list (((ps.take j).foldl difStep [([], 1)]).map rwD)), none, none, none, none, none] ∧ ∀ i, μ i = none) PassesOwn.never rfl
      (pg_name (i := 4) sc37.nd rfl (Or.inr rfl)) (it_tup (e_name 1 rfl (.inl rfl) rfl)) ⟨rfl, fun i => by
        unfold mu
        split
        · rfl
        · split <;> rfl⟩ (fun j d ρj μj hd hI => ?_) fun ρ' μ' hI => ?_
    · obtain ⟨rfl, hμ⟩ := hI
      obtain ⟨c, hc, rfl⟩ := get_map hd
      have hcb := hx c (List.mem_of_getElem? hc)
      have hok := dok_fold (ps.take j) 0 [([], 1)] dok_one fun x h => hx x (List.mem_of_mem_take h)
      have hln := difs_len (ps.take j) [([], 1)] fun x h => (hx x (List.mem_of_mem_take h)).2
      have hj3 : (ps.take j).length ≤ 3 := by rw [List.length_take]; omega
      have h7 := pow7 hj3
      rw [List.length_singleton, Nat.one_mul] at hln
      rw [foldl_take difStep [([], 1)] hc]
      generalize hrs : (ps.take j).foldl difStep [([], 1)] = rs at hok hln ⊢
      have hrl : rs.length ≤ 343 := by omega
      have hsl := difStep_len hcb.2 rs
      refine ⟨_, gt_name (by simp), fun t _ => hμ t, ?_⟩
      have hF : ((rs.map rwD).map fun d => PyData.list ((difRow c (rwOf d)).map rwD)) = ((rs.map (difRow c)).map fun l => l.map rwD).map .list := by
        rw [List.map_map, List.map_map, List.map_map]
        refine List.map_congr_left fun q _ => ?_
        show PyData.list ((difRow c (rwOf (rwD q))).map rwD) = _
        rw [rwOf_is]
        rfl
      have hfl : ((rs.map (difRow c)).map fun l => l.map rwD).flatten = (difStep rs c).map rwD := by
        unfold difStep
        rw [List.map_flatten]
      refine bk_set (i := 3) sc37.nd rfl (.inl rfl) (ef_e ((e_sumLL (dss := (rs.map (difRow c)).map fun l => l.map rwD) rfl (by rfl) ms ((e_lc (own := [("row", 5), ("sign_here", 8)]) (g := gTup K 2 (gCons (gName 5) (gCons (gName 8) gNil))) (F := fun d => PyData.list ((difRow c (rwOf d)).map rwD))
        (ρ' := fun d => ((wipeR ([some (polD p), some (pwD ps), some (.int 0), some (.list (rs.map rwD)), none, none, none, none, none].set 4 (some (.int c))) [5, 8]).set 5 (some (fstD d))).set 8 (some (sndD d))) rfl sc37.nd (blkOk_by (own := [("row", 5), ("sign_here", 8)]) (N := difN) (sc := defScope (topS 37)) (by decide +kernel))
        (fun _ _ _ _ _ => pg_tup rfl (pgs_cons (pg_name (i := 5) sc37.nd rfl (Or.inr rfl)) (pgs_cons (pg_name (i := 8) sc37.nd rfl (Or.inr rfl)) pgs_nil))) (it_list (e_name 3 rfl (.inl rfl) rfl)) (fun d hd => ?_) (fun d hd => ?_) (by rw [List.length_map]; omega)).eq (by rw [hF])) (by rw [hfl, List.length_map]; omega)).eq (by rw [hfl]))) fun d hd => ?_
      · obtain ⟨q, hq, rfl⟩ := List.mem_map.mp hd
        exact gt_tup2 (by simp) (by simp)
      · obtain ⟨q, hq, rfl⟩ := List.mem_map.mp hd
        rw [rwOf_is]
        intro s0 H0 C cl fp
        refine E.eq (e_lc (own := [("at", 7)]) (g := gName 7) (F := fun d => rwD (difCell c q (natOf d))) (ρ' := fun d => (wipeR _ [7]).set 7 (some d)) rfl sc37.nd (blkOk_by (own := [("at", 7)]) (N := difN) (sc := { kind := .function, names := [(".0", .local), ("row", .cell), ("sign_here", .cell), ("range", .globalImplicit), ("count", .cell)], isGenerator := false, isCoroutine := false }) (by decide +kernel)) (fun _ _ _ _ _ => pg_name (i := 7) sc37.nd rfl (Or.inl rfl)) (it_range1 (by rfl) mr (e_add (e_name 4 rfl (.inr (.inl rfl)) rfl) e_int)) (fun d _ => gt_name (by simp)) (fun d hd => ?_) (by rw [upto_len]; omega)) ?_
        · unfold upto at hd
          obtain ⟨a, ha, rfl⟩ := List.mem_map.mp hd
          have ha := List.mem_range.mp ha
          have hca := cho_bd hcb.1 hcb.2 (a := a) (by omega)
          have en : natOf (.int (0 + (a : Int))) = a := by show (0 + (a : Int)).toNat = a; omega
          rw [en]
          have ea : (0 + (a : Int)).toNat = a := by omega
          intro s1 H1 C1 cl1 fp1
          refine e_tup (as_cons ((e_catT (e_name 5 rfl (.inr (.inl rfl)) rfl) (e_tup (as_cons (e_name 7 rfl (.inl rfl) rfl) as_nil) (by show 1 ≤ 100000; decide)) (by rw [List.length_map, (hok q hq).l]; show _ + 1 ≤ _; omega)).eq (show _ = pwD (q.1 ++ [(a : Int)]) by show PyData.tuple _ = PyData.tuple _; rw [List.map_append, Int.zero_add]; rfl)) (as_cons (E.eq (e_mul (e_mul (e_name 8 rfl (.inr (.inl rfl)) rfl) (e_call FC hr (by rfl) (as_cons (e_name 4 rfl (.inr (.inl rfl)) rfl) (as_cons (e_name 7 rfl (.inl rfl) rfl) as_nil)) ⟨c, 0 + (a : Int), rfl, hcb.1, by omega, by omega, by omega, rfl⟩) (.inr ⟨?_, ?_⟩)) (j := sgn (c - a)) (e_ifExp (k := decide ((c - (0 + (a : Int))).fmod 2 = 0)) (t_eqI (e_mod (e_intI (by rfl) mi (e_sub (e_name 4 rfl (.inr (.inl rfl)) rfl) (e_name 7 rfl (.inl rfl) rfl))) e_int (by decide)) e_int) (fun hB => e_int.eq ?_) (fun hB => (e_neg e_int).eq ?_)) (.inr ⟨?_, ?_⟩)) ?_) as_nil)) (Nat.le_of_ble_eq_true rfl)
          · rw [ea]; omega
          · rw [ea]; omega
          · have := of_decide_eq_true hB
            rw [Int.zero_add] at this
            unfold sgn
            rw [if_pos this]
          · have := of_decide_eq_false hB
            rw [Int.zero_add] at this
            unfold sgn
            rw [if_neg this]
          · rcases sgn_is (c - a) with s | s <;> rw [s] <;> decide
          · rcases sgn_is (c - a) with s | s <;> rw [s] <;> decide
          · rw [ea]
            rfl
        · have ec : (c + 1).toNat = c.toNat + 1 := by omega
          unfold upto difRow
          rw [List.map_map, List.map_map, ec]
          congr 1
          refine List.map_congr_left fun a _ => ?_
          show rwD (difCell c q (0 + (a : Int)).toNat) = rwD (difCell c q a)
          have ea : (0 + (a : Int)).toNat = a := by omega
          rw [ea]
      · subst hd
        refine bk_forget (ρ' := [some (polD p), some (pwD ps), some (.int 0), some (.list ((difStep rs c).map rwD)), none, none, none, none, none]) (by repeat (first | exact .nil | refine .keep ?_ | refine .drop ?_)) (bk_nil ⟨rfl, fun i => ?_⟩)
        unfold mu
        split
        · rfl
        · exact hμ i
    · obtain ⟨rfl, hμ⟩ := hI
      have e0 : ps.take (ps.map PyData.int).length = ps := by rw [List.length_map, List.take_length]
      rw [e0]
      have hok := dok_fold ps 0 [([], 1)] dok_one hx
      have hok : ∀ q ∈ difs ps, DOk (0 + ps.length) q := hok
      show Bk _ [some (polD p), some (pwD ps), some (.int 0), some (.list ((difs ps).map rwD)), none, none, none, none, none] _ _ _ _
      refine bk_for (ts := [5, 6]) (fun j ρ μ => ρ = [some (polD p), some (pwD ps), some (.int (((difs ps).take j).foldl (fun a q => a + q.2 * worth p q.1) 0)), some (.list ((difs ps).map rwD)), none, none, none, none, none] ∧ ∀ i, μ i = none) PassesOwn.never rfl
        (pg_tup rfl (pgs_cons (pg_name (i := 5) sc37.nd rfl (Or.inl rfl)) (pgs_cons (pg_name (i := 6) sc37.nd rfl (Or.inl rfl)) pgs_nil))) (it_list (e_name 3 rfl (.inl rfl) rfl)) ⟨rfl, hμ⟩ (fun j d ρj μj hd hI => ?_) fun ρ' μ' hI => ?_
      · obtain ⟨rfl, hμ⟩ := hI
        obtain ⟨q, hq, rfl⟩ := get_map hd
        have hQ := hok q (List.mem_of_getElem? hq)
        have hb : -(8000 : Int) ≤ q.2 ∧ q.2 ≤ 8000 := by
          have hb := hQ.b
          have : (20 : Int) ^ (0 + ps.length) ≤ 8000 := by
            rw [Nat.zero_add]
            match ps.length, hl with
            | 0, _ => decide
            | 1, _ => decide
            | 2, _ => decide
            | 3, _ => decide
          omega
        refine ⟨_, gt_tup2 (by simp) (by simp), fun t _ => hμ t, ?_⟩
        refine bk_set (i := 2) sc37.nd rfl (.inl rfl) (ef_e (e_add (e_name 2 rfl (.inl rfl) rfl) (e_mul (e_name 6 rfl (.inl rfl) rfl) (e_call FW hr (by rfl) (as_cons (e_name 0 rfl (.inl rfl) rfl) (as_cons (e_name 5 rfl (.inl rfl) rfl) as_nil)) ⟨p, true, q.1, rfl, fun x hx => by have := hQ.n x hx; exact ⟨by omega, by omega⟩, hp, rfl⟩) (.inl ⟨by omega, by omega⟩)))) fun d hd => ?_
        subst hd
        refine bk_forget (ρ' := [some (polD p), some (pwD ps), some (.int (((difs ps).take j).foldl (fun a q => a + q.2 * worth p q.1) 0 + q.2 * worth p q.1)), some (.list ((difs ps).map rwD)), none, none, none, none, none]) (by repeat (first | exact .nil | refine .keep ?_ | refine .drop ?_)) (bk_nil ⟨?_, fun i => ?_⟩)
        · rw [foldl_take (fun a q => a + q.2 * worth p q.1) 0 hq]
        · unfold mu
          split
          · rfl
          · exact hμ i
      · obtain ⟨rfl, hμ⟩ := hI
        refine bk_ret (ef_e (e_name 2 rfl (.inl rfl) rfl)) fun d hd => ?_
        subst hd
        rw [List.length_map, List.take_length]
        rfl
end
end R1

set_option Elab.async false
set_option linter.all false
set_option maxRecDepth 100000
set_option maxHeartbeats 4000000
/-! K12M1: falling powers: the mathematics, dicts as sums. -/
namespace R1
open PySem PySem.Spec PyProof.Rows L2 Evl
/-! ### sums -/
def ev (m : KI) (φ : List Int → Int) : Int := (m.map fun q => q.2 * φ q.1).sum
theorem ev_nil (φ : List Int → Int) : ev [] φ = 0 := rfl
theorem ev_cons (q : List Int × Int) (m : KI) (φ : List Int → Int) : ev (q :: m) φ = q.2 * φ q.1 + ev m φ := by
  unfold ev
  rw [List.map_cons, List.sum_cons]
theorem ev_append (a b : KI) (φ : List Int → Int) : ev (a ++ b) φ = ev a φ + ev b φ := by
  unfold ev
  rw [List.map_append, List.sum_append]
theorem ev_perm {a b : KI} (h : a.Perm b) (φ : List Int → Int) : ev a φ = ev b φ := by
  induction h with
  | nil => rfl
  | cons x _ ih => rw [ev_cons, ev_cons, ih]
  | swap x y l => rw [ev_cons, ev_cons, ev_cons, ev_cons]; omega
  | trans _ _ h1 h2 => rw [h1, h2]
theorem ev_congr {m : KI} {φ ψ : List Int → Int} (h : ∀ q ∈ m, φ q.1 = ψ q.1) : ev m φ = ev m ψ := by
  induction m with
  | nil => rfl
  | cons q m ih => rw [ev_cons, ev_cons, h q (.head _), ih fun x hx => h x (.tail _ hx)]
theorem ev_filter (m : KI) (φ : List Int → Int) : ev (m.filter fun q => decide (q.2 ≠ 0)) φ = ev m φ := by
  induction m with
  | nil => rfl
  | cons q m ih =>
    rw [List.filter_cons, ev_cons]
    by_cases h : q.2 = 0
    · rw [if_neg (by simp [h]), ih, h, Int.zero_mul, Int.zero_add]
    · rw [if_pos (by simp [h]), ev_cons, ih]
abbrev Nd (m : KI) : Prop := (m.map (·.1)).Nodup
theorem kiGet_none {m : KI} {p : List Int} (h : p ∉ m.map (·.1)) : kiGet m p = 0 := by
  induction m with
  | nil => rfl
  | cons q m ih =>
    rw [List.map_cons, List.mem_cons, not_or] at h
    have : kiGet (q :: m) p = kiGet m p := by simp [kiGet, List.find?_cons, Ne.symm h.1]
    rw [this]
    exact ih h.2
theorem any_iff {m : KI} {p : List Int} : (m.any fun q => decide (q.1 = p)) = true ↔ p ∈ m.map (·.1) := by
  rw [List.any_eq_true, List.mem_map]
  constructor
  · rintro ⟨q, hq, e⟩
    exact ⟨q, hq, of_decide_eq_true e⟩
  · rintro ⟨q, hq, e⟩
    exact ⟨q, hq, decide_eq_true e⟩
theorem ev_put {m : KI} (h : Nd m) {p : List Int} {c : Int} (φ : List Int → Int) (hp : p ∈ m.map (·.1)) : ev (m.map fun q => if q.1 = p then (q.1, c) else q) φ = ev m φ + (c - kiGet m p) * φ p := by
  induction m with
  | nil => exact nomatch hp
  | cons q m ih =>
    have hn : q.1 ∉ m.map (·.1) ∧ Nd m := by
      have h := h
      unfold Nd at h
      rw [List.map_cons, List.nodup_cons] at h
      exact h
    rw [List.map_cons, ev_cons, ev_cons]
    by_cases e : q.1 = p
    · subst e
      have e1 : kiGet (q :: m) q.1 = q.2 := by simp [kiGet, List.find?_cons]
      have e2 : (m.map fun z => if z.1 = q.1 then (z.1, c) else z) = m := by
        conv => rhs; rw [← List.map_id m]
        refine List.map_congr_left fun z hz => ?_
        rw [if_neg fun w => hn.1 (by rw [← w]; exact List.mem_map.mpr ⟨z, hz, rfl⟩)]
        rfl
      rw [if_pos rfl, e2, e1, Int.sub_mul]
      show c * φ q.1 + ev m φ = _
      omega
    · have e1 : kiGet (q :: m) p = kiGet m p := by simp [kiGet, List.find?_cons, e]
      rw [if_neg e, e1, ih hn.2 ((List.mem_cons.mp (by rw [List.map_cons] at hp; exact hp)).resolve_left fun w => e w.symm)]
      omega
theorem ev_add {m : KI} (h : Nd m) (p : List Int) (c : Int) (φ : List Int → Int) : ev (kiAdd m p c) φ = ev m φ + c * φ p := by
  unfold kiAdd kiPut
  by_cases e : (m.any fun q => decide (q.1 = p)) = true
  · rw [if_pos e, ev_put h φ (any_iff.mp e)]
    congr 2
    omega
  · rw [if_neg e, ev_append, ev_cons, ev_nil, kiGet_none fun z => e (any_iff.mpr z), Int.zero_add, Int.add_zero]
theorem nd_add {m : KI} (h : Nd m) (p : List Int) (c : Int) : Nd (kiAdd m p c) := kiPut_keys m p _ h
/-- sums over a row of numbers with their places -/
def sz (l : List Int) (g : Nat → Int) : Int := (l.zipIdx.map fun z => z.1 * g z.2).sum
def cellS (q : List Int × Int) (zs : List (Int × Nat)) (φ : List Int → Int) : Int := (zs.map fun z => q.2 * z.1 * φ (q.1 ++ [(z.2 : Int)])).sum
theorem ev_cells (q : List Int × Int) (φ : List Int → Int) : ∀ (zs : List (Int × Nat)) (l : KI), Nd l → Nd (zs.foldl (cellF q) l) ∧ ev (zs.foldl (cellF q) l) φ = ev l φ + cellS q zs φ
  | [], l, h => ⟨h, by unfold cellS; simp⟩
  | z :: zs, l, h => by
    have h1 : Nd (cellF q l z) ∧ ev (cellF q l z) φ = ev l φ + q.2 * z.1 * φ (q.1 ++ [(z.2 : Int)]) := by
      unfold cellF
      by_cases e : z.1 = 0
      · rw [if_neg fun w => w e, e, Int.mul_zero, Int.zero_mul, Int.add_zero]
        exact ⟨h, rfl⟩
      · rw [if_pos e, ev_add h]
        exact ⟨nd_add h _ _, rfl⟩
    obtain ⟨h2, h3⟩ := ev_cells q φ zs (cellF q l z) h1.1
    refine ⟨h2, ?_⟩
    show ev (zs.foldl (cellF q) (cellF q l z)) φ = _
    rw [h3, h1.2]
    unfold cellS
    rw [List.map_cons, List.sum_cons]
    omega
def stS (c : Int) (g : Nat → Int) : Int := sz (stir c.toNat) g
theorem mul_sum {α : Type} (k : Int) (f : α → Int) : ∀ l : List α, (l.map fun x => k * f x).sum = k * (l.map f).sum
  | [] => by simp
  | x :: l => by rw [List.map_cons, List.map_cons, List.sum_cons, List.sum_cons, mul_sum k f l, Int.mul_add]
theorem cellS_eq (q : List Int × Int) (c : Int) (φ : List Int → Int) : cellS q (stir c.toNat).zipIdx φ = q.2 * stS c fun k => φ (q.1 ++ [(k : Int)]) := by
  unfold cellS stS sz
  rw [← mul_sum]
  congr 1
  refine List.map_congr_left fun z _ => ?_
  rw [Int.mul_assoc]
theorem ev_rows (c : Int) (φ : List Int → Int) : ∀ (rs l : KI), Nd l → Nd (rs.foldl (rowF c) l) ∧ ev (rs.foldl (rowF c) l) φ = ev l φ + ev rs fun q => stS c fun k => φ (q ++ [(k : Int)])
  | [], l, h => ⟨h, by rw [ev_nil, Int.add_zero]; rfl⟩
  | q :: rs, l, h => by
    obtain ⟨h1, h2⟩ := ev_cells q φ (stir c.toNat).zipIdx l h
    obtain ⟨h3, h4⟩ := ev_rows c φ rs (rowF c l q) h1
    refine ⟨h3, ?_⟩
    show ev (rs.foldl (rowF c) (rowF c l q)) φ = _
    rw [h4, ev_cons]
    have : ev (rowF c l q) φ = ev l φ + q.2 * stS c fun k => φ (q.1 ++ [(k : Int)]) := by
      rw [← cellS_eq]
      exact h2
    rw [this]
    omega
/-- what a test sees of rows that are moved along -/
def G : List Int → (List Int → Int) → List Int → Int
  | [], φ => φ
  | c :: cs, φ => fun q => stS c fun k => G cs φ (q ++ [(k : Int)])
theorem ev_fold (φ : List Int → Int) : ∀ (cs : List Int) (rs : KI), Nd rs → Nd (cs.foldl rowsF rs) ∧ ev (cs.foldl rowsF rs) φ = ev rs (G cs φ)
  | [], rs, h => ⟨h, rfl⟩
  | c :: cs, rs, h => by
    obtain ⟨h1, h2⟩ := ev_rows c (G cs φ) rs [] List.Pairwise.nil
    obtain ⟨h3, h4⟩ := ev_fold φ cs (rowsF rs c) h1
    refine ⟨h3, ?_⟩
    show ev (cs.foldl rowsF (rowsF rs c)) φ = _
    rw [h4]
    have h2 : ev (rowsF rs c) (G cs φ) = _ := h2
    rw [h2, ev_nil, Int.zero_add]
    rfl
theorem ev_rowsOf (t : Tm) (φ : List Int → Int) : Nd (rowsOf t) ∧ ev (rowsOf t) φ = t.1 * G t.2 φ [] := by
  obtain ⟨h1, h2⟩ := ev_fold φ t.2 [([], t.1)] (List.Pairwise.cons (fun _ z => nomatch z) List.Pairwise.nil)
  refine ⟨h1, ?_⟩
  have h2 : ev (rowsOf t) φ = _ := h2
  rw [h2, ev_cons, ev_nil, Int.add_zero]
theorem ev_puts (φ : List Int → Int) : ∀ (rs f : KI), Nd f → Nd (rs.foldl putF f) ∧ ev (rs.foldl putF f) φ = ev f φ + ev rs φ
  | [], f, h => ⟨h, by rw [ev_nil, Int.add_zero]; rfl⟩
  | q :: rs, f, h => by
    obtain ⟨h3, h4⟩ := ev_puts φ rs (putF f q) (nd_add h _ _)
    refine ⟨h3, ?_⟩
    show ev (rs.foldl putF (putF f q)) φ = _
    have : ev (putF f q) φ = ev f φ + q.2 * φ q.1 := ev_add h _ _ _
    rw [h4, ev_cons, this]
    omega
/-- a polynomial against a test of rows -/
def evP (p : List Tm) (φ : List Int → Int) : Int := (p.map fun t => t.1 * G t.2 φ []).sum
theorem ev_fallD (φ : List Int → Int) : ∀ (p : List Tm) (f : KI), Nd f → Nd (p.foldl fallF f) ∧ ev (p.foldl fallF f) φ = ev f φ + evP p φ
  | [], f, h => ⟨h, by unfold evP; simp⟩
  | t :: p, f, h => by
    obtain ⟨h1, h2⟩ := ev_puts φ (rowsOf t) f h
    obtain ⟨h3, h4⟩ := ev_fallD φ p (fallF f t) h1
    refine ⟨h3, ?_⟩
    show ev (p.foldl fallF (fallF f t)) φ = _
    have h2 : ev (fallF f t) φ = _ := h2
    rw [h4, h2, (ev_rowsOf t φ).2]
    unfold evP
    rw [List.map_cons, List.sum_cons]
    omega
theorem nd_fallD (p : List Tm) : Nd (fallD p) := (ev_fallD (fun _ => 0) p [] List.Pairwise.nil).1
theorem ev_fall (p : List Tm) (φ : List Int → Int) : ev (fallD p) φ = evP p φ := by
  have := (ev_fallD φ p [] List.Pairwise.nil).2
  rw [ev_nil, Int.zero_add] at this
  exact this
/-- one row -/
def one (q : List Int) (r : List Int) : Int := if r = q then 1 else 0
theorem ev_one {m : KI} (h : Nd m) (q : List Int) : ev m (one q) = kiGet m q := by
  induction m with
  | nil => rfl
  | cons z m ih =>
    have hn : z.1 ∉ m.map (·.1) ∧ Nd m := by
      have h := h
      unfold Nd at h
      rw [List.map_cons, List.nodup_cons] at h
      exact h
    rw [ev_cons, ih hn.2]
    by_cases e : z.1 = q
    · subst e
      have e1 : kiGet (z :: m) z.1 = z.2 := by simp [kiGet, List.find?_cons]
      rw [e1, kiGet_none hn.1]
      unfold one
      rw [if_pos rfl, Int.mul_one, Int.add_zero]
    · have e1 : kiGet (z :: m) q = kiGet m q := by simp [kiGet, List.find?_cons, e]
      rw [e1]
      unfold one
      rw [if_neg e, Int.mul_zero, Int.zero_add]
theorem get_fallD (p : List Tm) (q : List Int) : kiGet (fallD p) q = evP p (one q) := by rw [← ev_one (nd_fallD p), ev_fall]
/-- what the rows of the result add up to, under a test -/
theorem ev_fallT (p : List Tm) (φ : List Int → Int) : ((fall p).map fun t => t.1 * φ t.2).sum = evP p φ := by
  rw [← ev_fall, ← ev_filter (fallD p)]
  have hnd := nd_fallD p
  have hp : ((fall p).map fun t => ((t.2, t.1) : List Int × Int)).Perm ((fallD p).filter fun q => decide (q.2 ≠ 0)) := by
    unfold fall
    rw [List.map_map]
    have h1 := (srtP_perm (((fallD p).filter fun q => decide (q.2 ≠ 0)).map (·.1))).map fun q => (q, kiGet (fallD p) q)
    refine h1.trans ?_
    rw [List.map_map]
    have : (((fallD p).filter fun q => decide (q.2 ≠ 0)).map ((fun q => (q, kiGet (fallD p) q)) ∘ fun x => x.1)) = (fallD p).filter fun q => decide (q.2 ≠ 0) := by
      conv => rhs; rw [← List.map_id ((fallD p).filter fun q => decide (q.2 ≠ 0))]
      refine List.map_congr_left fun q hq => ?_
      show (q.1, kiGet (fallD p) q.1) = q
      rw [kiGet_mem hnd (List.mem_filter.mp hq).1]
    rw [this]
  rw [← ev_perm hp]
  unfold ev
  rw [List.map_map]
  rfl
end R1

set_option Elab.async false
set_option linter.all false
set_option maxRecDepth 100000
set_option maxHeartbeats 4000000
/-! K12M2: falling powers: the mathematics, differences and what they add up to. -/
namespace R1
open PySem PySem.Spec PyProof.Rows L2 Evl
/-! ### monomials -/
def mon : List Int → List Int → Int
  | x :: xs, n :: ns => x ^ n.toNat * mon xs ns
  | _, _ => 1
theorem pwF_fold : ∀ (l : List (Int × Int)) (c : Int), l.foldl pwF c = c * l.foldl pwF 1
  | [], c => by simp
  | q :: l, c => by
    show l.foldl pwF (pwF c q) = c * l.foldl pwF (pwF 1 q)
    rw [pwF_fold l (pwF c q), pwF_fold l (pwF 1 q)]
    unfold pwF
    rw [Int.one_mul, Int.mul_assoc]
theorem fold_mon : ∀ (xs ns : List Int), (xs.zip ns).foldl pwF 1 = mon xs ns
  | [], [] => rfl
  | [], _ :: _ => rfl
  | _ :: _, [] => rfl
  | x :: xs, n :: ns => by
    show (xs.zip ns).foldl pwF (pwF 1 (x, n)) = x ^ n.toNat * mon xs ns
    rw [pwF_fold, fold_mon xs ns]
    unfold pwF
    rw [Int.one_mul]
theorem tmW_mon (t : Tm) (xs : List Int) : tmW t xs = t.1 * mon xs t.2 := by
  unfold tmW
  rw [pwF_fold, fold_mon]
theorem fold_sum {α : Type} (f : α → Int) : ∀ (l : List α) (a : Int), l.foldl (fun a x => a + f x) a = a + (l.map f).sum
  | [], a => by simp
  | x :: l, a => by
    show l.foldl _ (a + f x) = _
    rw [fold_sum f l, List.map_cons, List.sum_cons, Int.add_assoc]
theorem worth_sum (p : List Tm) (xs : List Int) : worth p xs = (p.map fun t => t.1 * mon xs t.2).sum := by
  unfold worth
  rw [fold_sum (fun t => tmW t xs), Int.zero_add]
  congr 1
  exact List.map_congr_left fun t _ => tmW_mon t xs
theorem mon_append : ∀ (xs ns ys ms : List Int), xs.length = ns.length → mon (xs ++ ys) (ns ++ ms) = mon xs ns * mon ys ms
  | [], [], ys, ms, _ => by show mon ys ms = 1 * mon ys ms; rw [Int.one_mul]
  | [], _ :: _, _, _, h => by cases h
  | _ :: _, [], _, _, h => by cases h
  | x :: xs, n :: ns, ys, ms, h => by
    show x ^ n.toNat * mon (xs ++ ys) (ns ++ ms) = x ^ n.toNat * mon xs ns * mon ys ms
    rw [mon_append xs ns ys ms (by simpa using h), Int.mul_assoc]
/-! ### differences -/
def DD : List Int → (List Int → Int) → List Int → Int
  | [], ψ => ψ
  | c :: cs, ψ => fun r => ((List.range (c.toNat + 1)).map fun a => cho c a * sgn (c - a) * DD cs ψ (r ++ [(a : Int)])).sum
theorem ev_map {α : Type} (f : α → List Int × Int) (ψ : List Int → Int) (l : List α) : ev (l.map f) ψ = (l.map fun a => (f a).2 * ψ (f a).1).sum := by
  unfold ev
  rw [List.map_map]
  rfl
theorem ev_flatten (ψ : List Int → Int) : ∀ l : List KI, ev l.flatten ψ = (l.map fun x => ev x ψ).sum
  | [] => rfl
  | x :: l => by rw [List.flatten_cons, ev_append, ev_flatten ψ l, List.map_cons, List.sum_cons]
theorem ev_difStep (rs : RS) (c : Int) (ψ : List Int → Int) : ev (difStep rs c) ψ = ev rs fun r => ((List.range (c.toNat + 1)).map fun a => cho c a * sgn (c - a) * ψ (r ++ [(a : Int)])).sum := by
  unfold difStep
  rw [ev_flatten, List.map_map]
  show (rs.map fun q => ev (difRow c q) ψ).sum = (rs.map fun q => q.2 * _).sum
  congr 1
  refine List.map_congr_left fun q _ => ?_
  unfold difRow
  rw [ev_map, ← mul_sum]
  congr 1
  refine List.map_congr_left fun a _ => ?_
  show q.2 * cho c a * sgn (c - a) * ψ (q.1 ++ [(a : Int)]) = _
  rw [Int.mul_assoc, Int.mul_assoc, Int.mul_assoc]
theorem ev_difs (ψ : List Int → Int) : ∀ (cs : List Int) (rs : RS), ev (cs.foldl difStep rs) ψ = ev rs (DD cs ψ)
  | [], rs => rfl
  | c :: cs, rs => by
    show ev (cs.foldl difStep (difStep rs c)) ψ = _
    rw [ev_difs ψ cs, ev_difStep]
    rfl
def dnum (c n : Int) : Int := ((List.range (c.toNat + 1)).map fun a => cho c a * sgn (c - a) * (a : Int) ^ n.toNat).sum
def dprod : List Int → List Int → Int
  | c :: cs, n :: ns => dnum c n * dprod cs ns
  | _, _ => 1
theorem sum_mul {α : Type} (k : Int) (f : α → Int) (l : List α) : (l.map fun x => f x * k).sum = (l.map f).sum * k := by
  rw [Int.mul_comm, ← mul_sum]
  congr 1
  exact List.map_congr_left fun x _ => Int.mul_comm _ _
theorem DD_mon : ∀ (cs ns ms r : List Int), cs.length = ms.length → r.length = ns.length → DD cs (fun x => mon x (ns ++ ms)) r = mon r ns * dprod cs ms
  | [], ns, [], r, _, _ => by show mon r (ns ++ []) = mon r ns * 1; rw [List.append_nil, Int.mul_one]
  | [], _, _ :: _, _, h, _ => by cases h
  | _ :: _, _, [], _, h, _ => by cases h
  | c :: cs, ns, m :: ms, r, h, hr => by
    show ((List.range (c.toNat + 1)).map fun a => cho c a * sgn (c - a) * DD cs (fun x => mon x (ns ++ m :: ms)) (r ++ [(a : Int)])).sum = mon r ns * (dnum c m * dprod cs ms)
    have e : ns ++ m :: ms = (ns ++ [m]) ++ ms := by simp
    rw [e]
    have h1 : ∀ a : Nat, cho c a * sgn (c - a) * DD cs (fun x => mon x ((ns ++ [m]) ++ ms)) (r ++ [(a : Int)]) = cho c a * sgn (c - a) * (a : Int) ^ m.toNat * (mon r ns * dprod cs ms) := fun a => by
      rw [DD_mon cs (ns ++ [m]) ms (r ++ [(a : Int)]) (by simpa using h) (by rw [List.length_append, List.length_append, hr]; rfl), mon_append r ns [(a : Int)] [m] hr]
      show _ * (mon r ns * ((a : Int) ^ m.toNat * 1) * dprod cs ms) = _
      rw [Int.mul_one]
      simp only [Int.mul_assoc, Int.mul_left_comm, Int.mul_comm]
    rw [List.map_congr_left fun a _ => h1 a, sum_mul]
    show dnum c m * (mon r ns * dprod cs ms) = _
    simp only [Int.mul_assoc, Int.mul_left_comm, Int.mul_comm]
theorem ev_lin (p : List Tm) (f : Tm → List Int → Int) : ∀ rs : KI, ev rs (fun x => (p.map fun t => f t x).sum) = (p.map fun t => ev rs (f t)).sum
  | [] => by
    show (0 : Int) = (p.map fun t => (0 : Int)).sum
    induction p with
    | nil => rfl
    | cons t p ih => rw [List.map_cons, List.sum_cons, ← ih]; rfl
  | q :: rs => by
    rw [ev_cons, ev_lin p f rs]
    have : ∀ t : Tm, ev (q :: rs) (f t) = q.2 * f t q.1 + ev rs (f t) := fun t => ev_cons _ _ _
    rw [List.map_congr_left fun t _ => this t, ← mul_sum]
    clear this
    induction p with
    | nil => rfl
    | cons t p ih => rw [List.map_cons, List.map_cons, List.map_cons, List.sum_cons, List.sum_cons, List.sum_cons, ← ih]; omega
theorem difference_sum (p : List Tm) (row : List Int) (hp : ∀ t ∈ p, t.2.length = row.length) : difference p row = (p.map fun t => t.1 * dprod row t.2).sum := by
  have e : difference p row = ev (difs row) (worth p) := by
    unfold difference ev
    rw [fold_sum (fun q : List Int × Int => q.2 * worth p q.1), Int.zero_add]
  rw [e]
  have e2 : ev (difs row) (worth p) = ev (difs row) (fun x => (p.map fun t => t.1 * mon x t.2).sum) := ev_congr fun q _ => worth_sum p q.1
  rw [e2, ev_lin p fun t x => t.1 * mon x t.2]
  congr 1
  refine List.map_congr_left fun t ht => ?_
  have e3 : ev (difs row) (fun x => t.1 * mon x t.2) = t.1 * ev (difs row) (fun x => mon x t.2) := by
    unfold ev
    rw [← mul_sum]
    congr 1
    exact List.map_congr_left fun q _ => by simp only [Int.mul_assoc, Int.mul_left_comm, Int.mul_comm]
  rw [e3]
  have e4 : ev (difs row) (fun x => mon x t.2) = DD row (fun x => mon x ([] ++ t.2)) [] := by
    unfold difs
    rw [ev_difs, ev_cons, ev_nil, Int.add_zero, Int.one_mul]
    rfl
  rw [e4, DD_mon row [] t.2 [] (hp t ht).symm rfl]
  show t.1 * (1 * dprod row t.2) = _
  rw [Int.one_mul]
/-! ### one row of the result -/
def snum (n k : Int) : Int := (stir n.toNat).getD k.toNat 0
def sprod : List Int → List Int → Int
  | n :: ns, k :: ks => snum n k * sprod ns ks
  | _, _ => 1
theorem sz_zero (l : List Int) (g : Nat → Int) (h : ∀ j, g j = 0) : sz l g = 0 := by
  unfold sz
  rw [List.map_congr_left fun z _ => show z.1 * g z.2 = 0 by rw [h, Int.mul_zero]]
  generalize l.zipIdx = m
  induction m with
  | nil => rfl
  | cons z m ih => rw [List.map_cons, List.sum_cons, ih]; rfl
theorem sz_from (k : Nat) (v : Int) : ∀ (l : List Int) (i : Nat), ((l.zipIdx i).map fun z => z.1 * if z.2 = k then v else 0).sum = if i ≤ k then l.getD (k - i) 0 * v else 0
  | [], i => by
    split
    · simp
    · rfl
  | x :: l, i => by
    rw [List.zipIdx_cons, List.map_cons, List.sum_cons, sz_from k v l (i + 1)]
    by_cases h : i = k
    · subst h
      rw [if_pos rfl, if_neg (by omega), if_pos (Nat.le_refl _), Nat.sub_self]
      simp
    · rw [if_neg h, Int.mul_zero, Int.zero_add]
      by_cases h2 : i ≤ k
      · have e : k - i = (k - (i + 1)) + 1 := by omega
        rw [if_pos (by omega), if_pos h2, e]
        simp
      · rw [if_neg (by omega), if_neg h2]
theorem G_zero (q : List Int) : ∀ (ns r : List Int), (∀ s, r ++ s ≠ q) → G ns (one q) r = 0
  | [], r, h => by
    show one q r = 0
    unfold one
    rw [if_neg fun e => h [] (by rw [List.append_nil]; exact e)]
  | n :: ns, r, h => by
    show stS n (fun k => G ns (one q) (r ++ [(k : Int)])) = 0
    exact sz_zero _ _ fun j => G_zero q ns (r ++ [(j : Int)]) fun s e => h ((j : Int) :: s) (by rw [← e]; simp)
theorem G_one : ∀ (ns ks r : List Int), ns.length = ks.length → (∀ k ∈ ks, 0 ≤ k) → G ns (one (r ++ ks)) r = sprod ns ks
  | [], [], r, _, _ => by
    show one (r ++ []) r = 1
    unfold one
    rw [List.append_nil, if_pos rfl]
  | [], _ :: _, _, h, _ => by cases h
  | _ :: _, [], _, h, _ => by cases h
  | n :: ns, k :: ks, r, h, hk => by
    show stS n (fun j => G ns (one (r ++ k :: ks)) (r ++ [(j : Int)])) = snum n k * sprod ns ks
    have hk0 := hk k (.head _)
    have e : ∀ j : Nat, G ns (one (r ++ k :: ks)) (r ++ [(j : Int)]) = if j = k.toNat then sprod ns ks else 0 := fun j => by
      by_cases hj : j = k.toNat
      · have e1 : (j : Int) = k := by omega
        rw [if_pos hj, e1]
        have e2 : r ++ k :: ks = (r ++ [k]) ++ ks := by simp
        rw [e2]
        exact G_one ns ks (r ++ [k]) (by simpa using h) fun x hx => hk x (.tail _ hx)
      · rw [if_neg hj]
        refine G_zero _ ns _ fun s e => hj ?_
        have e2 : r ++ ((j : Int) :: s) = r ++ (k :: ks) := by simpa using e
        have e3 := List.append_cancel_left e2
        injection e3 with e4 _
        omega
    have e' : (fun j : Nat => G ns (one (r ++ k :: ks)) (r ++ [(j : Int)])) = fun j => if j = k.toNat then sprod ns ks else 0 := funext e
    rw [e']
    unfold stS sz
    rw [sz_from k.toNat (sprod ns ks) (stir n.toNat) 0, if_pos (Nat.zero_le _)]
    rfl
def facP : List Int → Int
  | [] => 1
  | k :: ks => facI k.toNat * facP ks
theorem dnum_dec : ∀ c : Fin 7, ∀ n : Fin 7, dnum (c.val : Int) (n.val : Int) = facI c.val * (stir n.val).getD c.val 0 := by decide +kernel
theorem dnum_is {c n : Int} (c0 : 0 ≤ c) (c6 : c ≤ 6) (n0 : 0 ≤ n) (n6 : n ≤ 6) : dnum c n = facI c.toNat * snum n c := by
  have h := dnum_dec ⟨c.toNat, by omega⟩ ⟨n.toNat, by omega⟩
  have e1 : ((c.toNat : Nat) : Int) = c := by omega
  have e2 : ((n.toNat : Nat) : Int) = n := by omega
  have h : dnum ((c.toNat : Nat) : Int) ((n.toNat : Nat) : Int) = facI c.toNat * (stir n.toNat).getD c.toNat 0 := h
  rw [e1, e2] at h
  exact h
theorem dprod_is : ∀ (cs ns : List Int), cs.length = ns.length → (∀ c ∈ cs, 0 ≤ c ∧ c ≤ 6) → (∀ n ∈ ns, 0 ≤ n ∧ n ≤ 6) → dprod cs ns = facP cs * sprod ns cs
  | [], [], _, _, _ => rfl
  | [], _ :: _, h, _, _ => by cases h
  | _ :: _, [], h, _, _ => by cases h
  | c :: cs, n :: ns, h, hc, hn => by
    show dnum c n * dprod cs ns = facI c.toNat * facP cs * (snum n c * sprod ns cs)
    rw [dnum_is (hc c (.head _)).1 (hc c (.head _)).2 (hn n (.head _)).1 (hn n (.head _)).2, dprod_is cs ns (by simpa using h) (fun x hx => hc x (.tail _ hx)) fun x hx => hn x (.tail _ hx)]
    simp only [Int.mul_assoc, Int.mul_left_comm, Int.mul_comm]
/-- a difference is the products down times a number of the result -/
theorem difference_is (p : List Tm) (row : List Int) (hr : ∀ c ∈ row, 0 ≤ c ∧ c ≤ 6) (hp : ∀ t ∈ p, t.2.length = row.length ∧ ∀ n ∈ t.2, 0 ≤ n ∧ n ≤ 6) : difference p row = facP row * kiGet (fallD p) row := by
  rw [difference_sum p row fun t ht => (hp t ht).1, get_fallD]
  unfold evP
  rw [← mul_sum]
  congr 1
  refine List.map_congr_left fun t ht => ?_
  have e : G t.2 (one row) [] = sprod t.2 row := G_one t.2 row [] (hp t ht).1 fun k hk => (hr k hk).1
  rw [e, dprod_is row t.2 (hp t ht).1.symm hr (hp t ht).2]
  simp only [Int.mul_assoc, Int.mul_left_comm, Int.mul_comm]
/-! ### what falling powers add up to -/
def ff (x : Int) : Nat → Int
  | 0 => 1
  | k + 1 => ff x k * (x - k)
def ffr : List Int → List Int → Int
  | x :: xs, k :: ks => ff x k.toNat * ffr xs ks
  | _, _ => 1
theorem ff_x (x : Int) (k : Nat) : ff x k * x = ff x (k + 1) + k * ff x k := by
  show _ = ff x k * (x - k) + k * ff x k
  rw [Int.mul_sub, Int.mul_comm (ff x k) (k : Int)]
  omega
theorem st_pow (x : Int) : ∀ n : Nat, n ≤ 6 → sz (stir n) (ff x) = x ^ n := by
  have h0 : ff x 0 = 1 := rfl
  have h1 : ff x 0 * x = ff x 1 + 0 * ff x 0 := ff_x x 0
  have h2 : ff x 1 * x = ff x 2 + 1 * ff x 1 := ff_x x 1
  have h3 : ff x 2 * x = ff x 3 + 2 * ff x 2 := ff_x x 2
  have h4 : ff x 3 * x = ff x 4 + 3 * ff x 3 := ff_x x 3
  have h5 : ff x 4 * x = ff x 5 + 4 * ff x 4 := ff_x x 4
  have h6 : ff x 5 * x = ff x 6 + 5 * ff x 5 := ff_x x 5
  have p1 : x ^ 1 = ff x 1 := by rw [Int.pow_one]; rw [h0] at h1; simpa using h1
  have p2 : x ^ 2 = ff x 2 + ff x 1 := by rw [Int.pow_succ, p1]; omega
  have p3 : x ^ 3 = ff x 3 + 3 * ff x 2 + ff x 1 := by rw [Int.pow_succ, p2, Int.add_mul]; omega
  have p4 : x ^ 4 = ff x 4 + 6 * ff x 3 + 7 * ff x 2 + ff x 1 := by rw [Int.pow_succ, p3, Int.add_mul, Int.add_mul, Int.mul_assoc]; omega
  have p5 : x ^ 5 = ff x 5 + 10 * ff x 4 + 25 * ff x 3 + 15 * ff x 2 + ff x 1 := by rw [Int.pow_succ, p4, Int.add_mul, Int.add_mul, Int.add_mul, Int.mul_assoc, Int.mul_assoc]; omega
  have p6 : x ^ 6 = ff x 6 + 15 * ff x 5 + 65 * ff x 4 + 90 * ff x 3 + 31 * ff x 2 + ff x 1 := by rw [Int.pow_succ, p5, Int.add_mul, Int.add_mul, Int.add_mul, Int.add_mul, Int.mul_assoc, Int.mul_assoc, Int.mul_assoc]; omega
  intro n hn
  match n, hn with
  | 0, _ => rw [show stir 0 = [1] from rfl]; simp [sz, h0]
  | 1, _ => rw [show stir 1 = [0, 1] by decide +kernel, p1]; simp [sz]
  | 2, _ => rw [show stir 2 = [0, 1, 1] by decide +kernel, p2]; simp [sz]; omega
  | 3, _ => rw [show stir 3 = [0, 1, 3, 1] by decide +kernel, p3]; simp [sz]; omega
  | 4, _ => rw [show stir 4 = [0, 1, 7, 6, 1] by decide +kernel, p4]; simp [sz]; omega
  | 5, _ => rw [show stir 5 = [0, 1, 15, 25, 10, 1] by decide +kernel, p5]; simp [sz]; omega
  | 6, _ => rw [show stir 6 = [0, 1, 31, 90, 65, 15, 1] by decide +kernel, p6]; simp [sz]; omega
theorem ffr_append : ∀ (xs ks ys ls : List Int), xs.length = ks.length → ffr (xs ++ ys) (ks ++ ls) = ffr xs ks * ffr ys ls
  | [], [], ys, ls, _ => by show ffr ys ls = 1 * ffr ys ls; rw [Int.one_mul]
  | [], _ :: _, _, _, h => by cases h
  | _ :: _, [], _, _, h => by cases h
  | x :: xs, n :: ns, ys, ls, h => by
    show ff x n.toNat * ffr (xs ++ ys) (ns ++ ls) = ff x n.toNat * ffr xs ns * ffr ys ls
    rw [ffr_append xs ns ys ls (by simpa using h), Int.mul_assoc]
theorem sz_mul (l : List Int) (g : Nat → Int) (k : Int) : sz l (fun j => k * g j) = k * sz l g := by
  unfold sz
  rw [← mul_sum]
  congr 1
  exact List.map_congr_left fun z _ => by simp only [Int.mul_assoc, Int.mul_left_comm, Int.mul_comm]
theorem G_ff : ∀ (ns xs ys r : List Int), ns.length = ys.length → r.length = xs.length → (∀ n ∈ ns, 0 ≤ n ∧ n ≤ 6) → G ns (ffr (xs ++ ys)) r = ffr xs r * mon ys ns
  | [], xs, [], r, _, _, _ => by show ffr (xs ++ []) r = ffr xs r * 1; rw [List.append_nil, Int.mul_one]
  | [], _, _ :: _, _, h, _, _ => by cases h
  | _ :: _, _, [], _, h, _, _ => by cases h
  | n :: ns, xs, y :: ys, r, h, hr, hn => by
    show stS n (fun k => G ns (ffr (xs ++ y :: ys)) (r ++ [(k : Int)])) = ffr xs r * (y ^ n.toNat * mon ys ns)
    have e : xs ++ y :: ys = (xs ++ [y]) ++ ys := by simp
    rw [e]
    have e1 : (fun k : Nat => G ns (ffr ((xs ++ [y]) ++ ys)) (r ++ [(k : Int)])) = fun k => (ffr xs r * mon ys ns) * ff y k := funext fun k => by
      rw [G_ff ns (xs ++ [y]) ys (r ++ [(k : Int)]) (by simpa using h) (by rw [List.length_append, List.length_append, hr]; rfl) fun x hx => hn x (.tail _ hx), ffr_append xs r [y] [(k : Int)] hr.symm]
      show ffr xs r * (ff y (k : Int).toNat * 1) * mon ys ns = _
      have : ((k : Int)).toNat = k := by omega
      rw [this, Int.mul_one]
      simp only [Int.mul_assoc, Int.mul_left_comm, Int.mul_comm]
    rw [e1]
    unfold stS
    have hb := hn n (.head _)
    rw [sz_mul, st_pow y n.toNat (by omega)]
    simp only [Int.mul_assoc, Int.mul_left_comm, Int.mul_comm]
/-- the falling powers add up to the polynomial's worth -/
theorem fall_worth (p : List Tm) (xs : List Int) (hp : ∀ t ∈ p, t.2.length = xs.length ∧ ∀ n ∈ t.2, 0 ≤ n ∧ n ≤ 6) : ((fall p).map fun t => t.1 * ffr xs t.2).sum = worth p xs := by
  rw [ev_fallT, worth_sum]
  unfold evP
  congr 1
  refine List.map_congr_left fun t ht => ?_
  have e := G_ff t.2 [] xs [] (hp t ht).1 rfl (hp t ht).2
  rw [List.nil_append] at e
  rw [e]
  show t.1 * (1 * mon xs t.2) = _
  rw [Int.one_mul]
end R1

set_option Elab.async false
set_option linter.all false
set_option maxRecDepth 100000
set_option maxHeartbeats 4000000
/-! K12M3: falling powers: the mathematics, the rows that are due. -/
namespace R1
open PySem PySem.Spec PyProof.Rows L2 Evl
inductive Bx : List Int → List Int → Prop
  | nil : Bx [] []
  | cons {k c ks cs} : 0 ≤ k → k ≤ (c.toNat : Int) → Bx ks cs → Bx (k :: ks) (c :: cs)
inductive LeL : List Int → List Int → Prop
  | nil : LeL [] []
  | cons {n c ns cs} : 0 ≤ n → n ≤ c → LeL ns cs → LeL (n :: ns) (c :: cs)
theorem Bx.mono : ∀ {ks ns cs}, Bx ks ns → LeL ns cs → Bx ks cs
  | _, _, _, .nil, .nil => .nil
  | _, _, _, .cons a b t, .cons c d u => .cons a (by omega) (t.mono u)
theorem Bx.len : ∀ {ks cs}, Bx ks cs → ks.length = cs.length
  | _, _, .nil => rfl
  | _, _, .cons _ _ t => congrArg (· + 1) t.len
theorem LeL.len : ∀ {ks cs}, LeL ks cs → ks.length = cs.length
  | _, _, .nil => rfl
  | _, _, .cons _ _ t => congrArg (· + 1) t.len
theorem Bx.bd : ∀ {ks cs}, Bx ks cs → (∀ c ∈ cs, 0 ≤ c ∧ c ≤ 6) → ∀ k ∈ ks, 0 ≤ k ∧ k ≤ 6
  | _, _, .nil, _, k, h => nomatch h
  | _, _, .cons a b t, hc, k, h => by
    rcases List.mem_cons.mp h with rfl | h
    · have := hc _ (.head _); omega
    · exact t.bd (fun c hc' => hc c (.tail _ hc')) k h
/-! ### the keys of the result -/
theorem keys_cells (q : List Int × Int) : ∀ (zs : List (Int × Nat)) (l : KI) (r : List Int), r ∈ (zs.foldl (cellF q) l).map (·.1) → r ∈ l.map (·.1) ∨ ∃ z ∈ zs, r = q.1 ++ [(z.2 : Int)]
  | [], l, r, h => .inl h
  | z :: zs, l, r, h => by
    rcases keys_cells q zs (cellF q l z) r h with h | ⟨y, hy, e⟩
    · unfold cellF at h
      split at h
      · rcases kiPut_mem h with h | h
        · exact .inl h
        · exact .inr ⟨z, .head _, h⟩
      · exact .inl h
    · exact .inr ⟨y, .tail _ hy, e⟩
theorem keys_rows (c : Int) : ∀ (rs l : KI) (r : List Int), r ∈ (rs.foldl (rowF c) l).map (·.1) → r ∈ l.map (·.1) ∨ ∃ q ∈ rs.map (·.1), ∃ b : Nat, b ≤ c.toNat ∧ r = q ++ [(b : Int)]
  | [], l, r, h => .inl h
  | q :: rs, l, r, h => by
    rcases keys_rows c rs (rowF c l q) r h with h | ⟨y, hy, b, hb, e⟩
    · rcases keys_cells q _ l r h with h | ⟨z, hz, e⟩
      · exact .inl h
      · refine .inr ⟨q.1, by rw [List.map_cons]; exact .head _, z.2, ?_, e⟩
        have := List.snd_lt_of_mem_zipIdx hz
        rw [stir_len] at this
        omega
    · exact .inr ⟨y, by rw [List.map_cons]; exact .tail _ hy, b, hb, e⟩
theorem keys_fold : ∀ (cs : List Int) (rs : KI) (r : List Int), r ∈ (cs.foldl rowsF rs).map (·.1) → ∃ q ∈ rs.map (·.1), ∃ s, Bx s cs ∧ r = q ++ s
  | [], rs, r, h => ⟨r, h, [], .nil, (List.append_nil r).symm⟩
  | c :: cs, rs, r, h => by
    obtain ⟨q, hq, s, hs, rfl⟩ := keys_fold cs (rowsF rs c) r h
    rcases keys_rows c rs [] q hq with h | ⟨y, hy, b, hb, rfl⟩
    · exact nomatch h
    · exact ⟨y, hy, (b : Int) :: s, .cons (by omega) (by omega) hs, by simp⟩
theorem keys_puts : ∀ (rs f : KI) (r : List Int), r ∈ (rs.foldl putF f).map (·.1) → r ∈ f.map (·.1) ∨ r ∈ rs.map (·.1)
  | [], f, r, h => .inl h
  | q :: rs, f, r, h => by
    rcases keys_puts rs (putF f q) r h with h | h
    · rcases kiPut_mem h with h | h
      · exact .inl h
      · exact .inr (by rw [List.map_cons, h]; exact .head _)
    · exact .inr (by rw [List.map_cons]; exact .tail _ h)
theorem keys_fallF : ∀ (p : List Tm) (f : KI) (r : List Int), r ∈ (p.foldl fallF f).map (·.1) → r ∈ f.map (·.1) ∨ ∃ t ∈ p, Bx r t.2
  | [], f, r, h => .inl h
  | t :: p, f, r, h => by
    rcases keys_fallF p (fallF f t) r h with h | ⟨u, hu, e⟩
    · rcases keys_puts (rowsOf t) f r h with h | h
      · exact .inl h
      · obtain ⟨q, hq, s, hs, rfl⟩ := keys_fold t.2 [([], t.1)] r h
        rw [List.mem_singleton.mp hq, List.nil_append]
        exact .inr ⟨t, .head _, hs⟩
    · exact .inr ⟨u, .tail _ hu, e⟩
/-! ### the box -/
def boxRow (top : Int) (r : List Int) : List (List Int) := (List.range (top.toNat + 1)).map fun (a : Nat) => r ++ [(a : Int)]
def boxStep (rs : List (List Int)) (top : Int) : List (List Int) := (rs.map (boxRow top)).flatten
def box (tops : List Int) : List (List Int) := tops.foldl boxStep [[]]
theorem mem_boxF : ∀ (tops : List Int) (rs : List (List Int)) (r : List Int), r ∈ tops.foldl boxStep rs ↔ ∃ q ∈ rs, ∃ s, Bx s tops ∧ r = q ++ s
  | [], rs, r => ⟨fun h => ⟨r, h, [], .nil, (List.append_nil r).symm⟩, fun ⟨q, hq, s, hs, e⟩ => by cases hs; rw [e, List.append_nil]; exact hq⟩
  | t :: tops, rs, r => by
    show r ∈ tops.foldl boxStep (boxStep rs t) ↔ _
    rw [mem_boxF tops]
    constructor
    · rintro ⟨q, hq, s, hs, rfl⟩
      unfold boxStep at hq
      obtain ⟨l, hl, hq⟩ := List.mem_flatten.mp hq
      obtain ⟨y, hy, rfl⟩ := List.mem_map.mp hl
      obtain ⟨a, ha, rfl⟩ := List.mem_map.mp hq
      have := List.mem_range.mp ha
      exact ⟨y, hy, (a : Int) :: s, .cons (by omega) (by omega) hs, by simp⟩
    · rintro ⟨q, hq, s, hs, rfl⟩
      cases hs with
      | cons a b u =>
        rename_i k ks
        refine ⟨q ++ [k], ?_, ks, u, by simp⟩
        unfold boxStep
        refine List.mem_flatten.mpr ⟨_, List.mem_map.mpr ⟨q, hq, rfl⟩, ?_⟩
        refine List.mem_map.mpr ⟨k.toNat, List.mem_range.mpr (by omega), ?_⟩
        have e : ((k.toNat : Nat) : Int) = k := by omega
        rw [e]
theorem mem_box {tops r : List Int} : r ∈ box tops ↔ Bx r tops := by
  unfold box
  rw [mem_boxF]
  constructor
  · rintro ⟨q, hq, s, hs, rfl⟩
    rw [List.mem_singleton.mp hq, List.nil_append]
    exact hs
  · intro h
    exact ⟨[], List.mem_singleton.mpr rfl, r, h, rfl⟩
theorem nd_boxStep {rs : List (List Int)} {n : Nat} (t : Int) (h : rs.Nodup) (hl : ∀ r ∈ rs, r.length = n) : (boxStep rs t).Nodup ∧ ∀ r ∈ boxStep rs t, r.length = n + 1 := by
  unfold boxStep
  refine ⟨List.pairwise_flatten.mpr ⟨fun l hl' => ?_, ?_⟩, fun r hr => ?_⟩
  · obtain ⟨y, hy, rfl⟩ := List.mem_map.mp hl'
    unfold boxRow
    rw [List.pairwise_map]
    refine List.nodup_range.imp fun {a b} hab e => hab ?_
    have := List.append_cancel_left e
    injection this with e1 _
    omega
  · rw [List.pairwise_map]
    refine List.Pairwise.imp_of_mem (fun {y z} hy hz hne x hx w hw e => hne ?_) h
    obtain ⟨a, _, rfl⟩ := List.mem_map.mp hx
    obtain ⟨b, _, rfl⟩ := List.mem_map.mp hw
    exact (List.append_inj e (by rw [hl y hy, hl z hz])).1
  · obtain ⟨l, hl', hq⟩ := List.mem_flatten.mp hr
    obtain ⟨y, hy, rfl⟩ := List.mem_map.mp hl'
    obtain ⟨a, _, rfl⟩ := List.mem_map.mp hq
    rw [List.length_append, hl y hy]
    rfl
theorem nd_boxF : ∀ (tops : List Int) (rs : List (List Int)) (n : Nat), rs.Nodup → (∀ r ∈ rs, r.length = n) → (tops.foldl boxStep rs).Nodup
  | [], rs, n, h, _ => h
  | t :: tops, rs, n, h, hl => by
    obtain ⟨h1, h2⟩ := nd_boxStep t h hl
    exact nd_boxF tops (boxStep rs t) (n + 1) h1 h2
theorem nd_box (tops : List Int) : (box tops).Nodup := nd_boxF tops [[]] 0 (List.Pairwise.cons (fun _ z => nomatch z) List.Pairwise.nil) fun r hr => by rw [List.mem_singleton.mp hr]; rfl
/-! ### what is due -/
theorem facI_pos : ∀ n, 0 < facI n
  | 0 => by decide
  | n + 1 => by show 0 < facI n * (n + 1); exact Int.mul_pos (facI_pos n) (by omega)
theorem facP_pos : ∀ r, 0 < facP r
  | [] => by decide
  | k :: ks => Int.mul_pos (facI_pos _) (facP_pos ks)
structure Hyp (p : List Tm) (tops : List Int) : Prop where
  t : ∀ t ∈ p, LeL t.2 tops ∧ ∀ n ∈ t.2, 0 ≤ n ∧ n ≤ 6
  b : ∀ c ∈ tops, 0 ≤ c ∧ c ≤ 6
theorem dif_box {p : List Tm} {tops r : List Int} (h : Hyp p tops) (hr : Bx r tops) : difference p r = facP r * kiGet (fallD p) r :=
  difference_is p r (hr.bd h.b) fun t ht => ⟨(h.t t ht).1.len.trans hr.len.symm, (h.t t ht).2⟩
theorem dif_mod {p : List Tm} {tops r : List Int} (h : Hyp p tops) (hr : Bx r tops) : (difference p r).fmod (facP r) = 0 := by
  rw [dif_box h hr]
  exact Int.mul_fmod_right _ _
theorem dif_div {p : List Tm} {tops r : List Int} (h : Hyp p tops) (hr : Bx r tops) : (difference p r).fdiv (facP r) = kiGet (fallD p) r := by
  rw [dif_box h hr]
  exact Int.mul_fdiv_cancel_left _ (by have := facP_pos r; omega)
theorem dif_ne {p : List Tm} {tops r : List Int} (h : Hyp p tops) (hr : Bx r tops) : difference p r ≠ 0 ↔ kiGet (fallD p) r ≠ 0 := by
  rw [dif_box h hr]
  have := facP_pos r
  constructor
  · intro a b; exact a (by rw [b, Int.mul_zero])
  · intro a b
    rcases Int.mul_eq_zero.mp b with c | c
    · omega
    · exact a c
def dueR (p : List Tm) (tops : List Int) : List Rk := ((box tops).filter fun r => decide (difference p r ≠ 0)).map fun r => (r.sum, r, [(difference p r).fdiv (facP r)])
def keysN (p : List Tm) : List (List Int) := ((fallD p).filter fun q => decide (q.2 ≠ 0)).map (·.1)
theorem mem_keysN {p : List Tm} {r : List Int} : r ∈ keysN p ↔ kiGet (fallD p) r ≠ 0 := by
  unfold keysN
  constructor
  · intro h
    obtain ⟨q, hq, rfl⟩ := List.mem_map.mp h
    obtain ⟨h1, h2⟩ := List.mem_filter.mp hq
    rw [kiGet_mem (nd_fallD p) h1]
    exact of_decide_eq_true h2
  · intro h
    by_cases e : r ∈ (fallD p).map (·.1)
    · obtain ⟨q, hq, rfl⟩ := List.mem_map.mp e
      rw [kiGet_mem (nd_fallD p) hq] at h
      exact List.mem_map.mpr ⟨q, List.mem_filter.mpr ⟨hq, decide_eq_true h⟩, rfl⟩
    · exact absurd (kiGet_none e) h
theorem nd_keysN (p : List Tm) : (keysN p).Nodup := by
  unfold keysN
  exact List.Pairwise.sublist (List.Sublist.map _ List.filter_sublist) (nd_fallD p)
theorem keysN_perm {p : List Tm} {tops : List Int} (h : Hyp p tops) : (keysN p).Perm ((box tops).filter fun r => decide (difference p r ≠ 0)) := by
  refine (List.perm_ext_iff_of_nodup (nd_keysN p) (List.Pairwise.sublist List.filter_sublist (nd_box tops))).mpr fun r => ?_
  rw [mem_keysN, List.mem_filter, mem_box]
  constructor
  · intro hr
    have hb : Bx r tops := by
      have hk : r ∈ (fallD p).map (·.1) := Decidable.byContradiction fun z => hr (kiGet_none z)
      rcases keys_fallF p [] r hk with z | ⟨t, ht, hb⟩
      · exact nomatch z
      · exact hb.mono (h.t t ht).1
    exact ⟨hb, decide_eq_true ((dif_ne h hb).mpr hr)⟩
  · rintro ⟨hb, hd⟩
    exact (dif_ne h hb).mp (of_decide_eq_true hd)
theorem due_fall {p : List Tm} {tops : List Int} (h : Hyp p tops) : (srtD (dueR p tops)).map (fun k => ((k.2.2.headD 0, k.2.1) : Tm)) = fall p := by
  have e : fall p = (srtP (keysN p)).map fun q => (kiGet (fallD p) q, q) := rfl
  have hs : (srtP (keysN p)).map (fun q => ((q.sum, q, [kiGet (fallD p) q]) : Rk)) = srtD (dueR p tops) := by
    refine srtD_eq ?_ ?_
    · refine ((srtP_perm (keysN p)).trans (keysN_perm h)).map _ |>.trans ?_
      unfold dueR
      refine List.Perm.of_eq (List.map_congr_left fun r hr => ?_)
      have hb := mem_box.mp (List.mem_filter.mp hr).1
      rw [dif_div h hb]
    · have hp := srtD_pw ((keysN p).map rkP)
      rw [← srtP_rk] at hp
      have hn : (srtP (keysN p)).Nodup := (srtP_perm (keysN p)).nodup_iff.mpr (nd_keysN p)
      rw [List.pairwise_map] at hp
      rw [List.pairwise_map]
      refine List.Pairwise.imp₂ (fun {a b} h1 h2 => ?_) hp hn
      unfold rkLt at h1 ⊢
      by_cases e1 : a.sum = b.sum
      · have e1' : (rkP a).1 = (rkP b).1 := e1
        rw [if_pos e1'] at h1
        rw [if_pos e1]
        have e2 : ¬ a = b := h2
        have e2' : ¬ (rkP a).2.1 = (rkP b).2.1 := e2
        rw [if_neg e2'] at h1
        rw [if_neg e2]
        exact h1
      · have e1' : ¬ (rkP a).1 = (rkP b).1 := e1
        rw [if_neg e1'] at h1
        rw [if_neg e1]
        exact h1
  rw [← hs, e, List.map_map]
  rfl
end R1

set_option Elab.async false
set_option linter.all false
set_option maxRecDepth 100000
set_option maxHeartbeats 4000000
/-! K12W13: more rules over frames; polynomials that are drawn are good; _law_pen. -/
namespace R1
open PySem PySem.Spec PyProof.Rows L2 Evl
section
variable {X : Cx} {ρ : Ro} {μ μ1 : Mo} {a b : Expr} {d : PyData} {A B : PyData → Prop} {pos p : Pos} {x : Str} {k : Nat} {ps : List Str} {Rr : List PyData → PyData → Prop} {sp : Sp}
/-- f(e), e draws -/
theorem ef_call1 (F : Fn X.prog X.w X.K X.mg X.base x k ps (spP Rr)) (hr : Room k X.A) (hg : Gl X x) (ha : Ef X ρ μ a A μ1) (h : ∀ d, A d → ∃ d', Rr [d] d' ∧ B d') (hdb : (x == ("__debug__" : Str)) = false := by decide) (he : starEach [a] X.env = (false, eval a X.env) :: starEach [] X.env := by rfl) (hpl : (backTo pos (starEach [] X.env)).any (·.1) = false := by rfl) :
    Ef X ρ μ (.Call (.Name x p) [a] [] pos) B μ1 := fun S I0 H0 I H σ α F1 Q q => by
  refine we_call F hr hg (wa_of (pa_cons pe_we pa_wa he) ?_) hdb he hpl
  refine ha S I0 H0 I H σ α F1 _ fun v d I' H' F2 e2 r2 hA => ?_
  obtain ⟨d', hR, hB⟩ := h d hA
  exact wa_of pa_nil ⟨I', [d], d', F2.e, .cons r2 .nil, hR, fun u I3 H3 n3 r3 => q u d' I3 H3 (F2.step n3) (e2.trans n3.i) r3 hB⟩
/-- f(e, e2), e2 draws -/
theorem ef_call2 (F : Fn X.prog X.w X.K X.mg X.base x k ps (spP Rr)) (hr : Room k X.A) (hg : Gl X x) (ha : E X ρ a d) (hb : Ef X ρ μ b A μ1) (h : ∀ d2, A d2 → ∃ d', Rr [d, d2] d' ∧ B d') (hdb : (x == ("__debug__" : Str)) = false := by decide) (he : starEach [a, b] X.env = (false, eval a X.env) :: starEach [b] X.env := by rfl) (he2 : starEach [b] X.env = (false, eval b X.env) :: starEach [] X.env := by rfl) (hpl : (backTo pos (starEach [b] X.env)).any (·.1) = false := by rfl) :
    Ef X ρ μ (.Call (.Name x p) [a, b] [] pos) B μ1 := fun S I0 H0 I H σ α F1 Q q => by
  refine we_call F hr hg (wa_of (pa_cons pe_we pa_wa he) ?_) hdb he hpl
  refine ha I σ H F1.e F1.v _ fun v I1 H1 n1 r1 => ?_
  refine wa_of (pa_cons pe_we pa_wa he2) ?_
  refine hb S I0 H0 I1 H1 σ α (F1.step n1) _ fun u d2 I' H' F2 e2 r2 hA => ?_
  obtain ⟨d', hR, hB⟩ := h d2 hA
  exact wa_of pa_nil ⟨I', [d, d2], d', F2.e, .cons (r1.up e2) (.cons r2 .nil), hR, fun u I3 H3 n3 r3 => q u d' I3 H3 (F2.step n3) ((n1.i.trans e2).trans n3.i) r3 hB⟩
/-- dict(e), e draws a list of pairs -/
theorem ef_dictOf (hu : X.A.units + 64 < cLine) (hc : X.calm = true) (hg : Gl X "dict") (hm : X.mg "dict" = none) {Pk : List (List Int × PyData) → Prop} (ha : Ef X ρ μ a (fun d => ∃ kvs : List (List Int × PyData), d = .list (kvs.map fun q => .tuple [pwD q.1, q.2]) ∧ Pk kvs) μ1) (hs : starEach [a] X.env = [(false, eval a X.env)] := by rfl) :
    Ef X ρ μ (.Call (.Name "dict" p) [a] [] pos) (fun d => ∃ kvs, d = kvD (kvAll kvs) ∧ Pk kvs) μ1 := fun S I0 H0 I H σ α F1 Q q =>
  we_of (pe_callTy (cr_dictOf hu hc) hg hm (by decide +kernel) (pa1 hs) (by decide) (by decide) hs rfl) (ha S I0 H0 I H σ α F1 _ fun v d I' H' F2 e2 r2 hA => by
    obtain ⟨kvs, rfl, hk⟩ := hA
    cases r2 with
    | lst ea ra =>
      exact ⟨_, _, I', kvs, rfl, SqL.of (F2.e _ _ ea), F2.e, ra, fun p ob ws rw hp => q _ _ _ _ (F2.step (Nw.new (o := .frz ob (.dT ws)) F2.e hp)) (e2.trans (Nw.new (o := .frz ob (.dT ws)) F2.e hp).i) (.dct upd_same (rw.up (Nw.new (o := .frz ob (.dT ws)) F2.e hp).i).ps) ⟨kvs, rfl, hk⟩⟩)
/-- (a, b), b draws -/
theorem ef_tup2 {x1 : Nat} (ha : E X ρ a d) (hb : Ef X ρ μ b A μ1) (he : starEach [a, b] X.env = (false, eval a X.env) :: starEach [b] X.env := by rfl) (he2 : starEach [b] X.env = (false, eval b X.env) :: starEach [] X.env := by rfl) : Ef X ρ μ (.Tuple [a, b] x1 pos) (fun z => ∃ d', z = .tuple [d, d'] ∧ A d') μ1 := fun S I0 H0 I H σ α F1 Q q => by
  refine we_of (pe_tup pa_wa) (wa_of (pa_cons pe_we pa_wa he) ?_)
  refine ha I σ H F1.e F1.v _ fun v I1 H1 n1 r1 => ?_
  refine wa_of (pa_cons pe_we pa_wa he2) ?_
  refine hb S I0 H0 I1 H1 σ α (F1.step n1) _ fun u d2 I' H' F2 e2 r2 hA => ?_
  refine wa_of pa_nil ⟨by show 2 ≤ sizeLine; decide, fun t ht => ?_⟩
  have nn := Nw.new (o := .tup [v, u]) F2.e ht
  exact q _ _ _ _ (F2.step nn) ((n1.i.trans e2).trans nn.i) (.tup upd_same (.cons ((r1.up e2).up nn.i) (.cons (r2.up nn.i) .nil))) ⟨d2, rfl, hA⟩
end
theorem penMo_forget {pn n i : Nat} (h : i ≠ pn) : mu (penMo pn n) i none = penMo pn n := by
  funext j
  unfold mu penMo
  by_cases e : j = i
  · rw [if_pos e, if_neg (by omega)]
  · rw [if_neg e]
theorem mo_eq {μ : Mo} {pn n : Nat} (h : μ pn = some (.pen n)) (h0 : ∀ i, i ≠ pn → μ i = none) : μ = penMo pn n := by
  funext j
  unfold penMo
  by_cases e : j = pn
  · rw [if_pos e, e, h]
  · rw [if_neg e, h0 j e]
/-! ### what is drawn is good -/
theorem polOf_mem {m : KI} (hnd : (m.map (·.1)).Nodup) {t : Tm} (h : t ∈ polOf m) : t.1 ≠ 0 ∧ (t.2, t.1) ∈ m := by
  unfold polOf at h
  obtain ⟨q, hq, rfl⟩ := List.mem_map.mp h
  have hq2 := (srtP_perm _).mem_iff.mp hq
  obtain ⟨z, hz, rfl⟩ := List.mem_map.mp hq2
  obtain ⟨h1, h2⟩ := List.mem_filter.mp hz
  have e := kiGet_mem hnd h1
  refine ⟨?_, ?_⟩
  · show kiGet m z.1 ≠ 0
    rw [e]
    exact of_decide_eq_true h2
  · show (z.1, kiGet m z.1) ∈ m
    rw [e]
    exact h1
theorem polOf_len (m : KI) : (polOf m).length ≤ m.length := by
  unfold polOf
  rw [List.length_map, (srtP_perm _).length_eq, List.length_map]
  exact List.length_filter_le _ _
theorem polOf_nd {m : KI} (hnd : (m.map (·.1)).Nodup) : ((polOf m).map (·.2)).Nodup := by
  have e : (polOf m).map (·.2) = srtP ((m.filter fun q => decide (q.2 ≠ 0)).map (·.1)) := by
    unfold polOf
    rw [List.map_map]
    exact List.map_id _
  rw [e]
  exact (srtP_perm _).nodup_iff.mpr (List.Pairwise.sublist (List.Sublist.map _ List.filter_sublist) hnd)
theorem polOf_desc {m : KI} (hnd : (m.map (·.1)).Nodup) : (polOf m).Pairwise fun a b => rkLt (rkP b.2) (rkP a.2) = true := by
  have hn : (srtP ((m.filter fun q => decide (q.2 ≠ 0)).map (·.1))).Nodup := (srtP_perm _).nodup_iff.mpr (List.Pairwise.sublist (List.Sublist.map _ List.filter_sublist) hnd)
  unfold polOf
  rw [List.pairwise_map]
  have hp := srtD_pw (((m.filter fun q => decide (q.2 ≠ 0)).map (·.1)).map rkP)
  rw [← srtP_rk, List.pairwise_map] at hp
  refine List.Pairwise.imp₂ (fun {a b} h1 h2 => ?_) hp hn
  cases h : rkLt (rkP b) (rkP a) with
  | true => rfl
  | false =>
    exfalso
    have h2 : ¬ a = b := h2
    have e := rkLt_tri _ _ h1 h
    exact h2 (congrArg (fun k : Rk => k.2.1) e)
structure Pok (w : Nat) (p : List Tm) : Prop where
  g : Good (w : Int) p
  s : ∀ t ∈ p, TmS t
  l : p.length ≤ 5
  w : w ≤ 3
theorem pok_of {w : Nat} {m : KI} (hw : w ≤ 3) (nd : (m.map (·.1)).Nodup) (l : ∀ q ∈ m.map (·.1), q.length = w) (n : ∀ q ∈ m.map (·.1), ∀ x ∈ q, 0 ≤ x ∧ x ≤ 6) (len : m.length ≤ 5) : Pok w (polOf m) := by
  have hl := polOf_len m
  have key : ∀ t ∈ polOf m, t.2 ∈ m.map (·.1) := fun t ht => List.mem_map.mpr ⟨_, (polOf_mem nd ht).2, rfl⟩
  refine ⟨⟨fun t ht => ⟨(polOf_mem nd ht).1, by rw [l _ (key t ht)], fun x hx => by have := n _ (key t ht) x hx; omega⟩, polOf_desc nd, by omega, by omega, by omega⟩, fun t ht => ⟨by rw [l _ (key t ht)]; exact hw, n _ (key t ht)⟩, by omega, hw⟩
theorem kvAll_go : ∀ (m acc : List (List Int × PyData)), ((acc ++ m).map (·.1)).Nodup → m.foldl (fun a q => kvPut a q.1 q.2) acc = acc ++ m
  | [], acc, _ => (List.append_nil acc).symm
  | q :: m, acc, h => by
    have hq : kvGet acc q.1 = none := by
      cases e : kvGet acc q.1 with
      | none => rfl
      | some d =>
        exfalso
        have hm : q.1 ∈ acc.map (·.1) := kvGet_mem.mp (by rw [e]; rfl)
        rw [List.map_append, List.nodup_append] at h
        exact h.2.2 q.1 hm q.1 (by rw [List.map_cons]; exact .head _) rfl
    have e1 : kvPut acc q.1 q.2 = acc ++ [q] := by
      unfold kvPut
      rw [kvGet_any, hq]
      rfl
    show m.foldl _ (kvPut acc q.1 q.2) = _
    rw [e1, kvAll_go m (acc ++ [q]) (by rw [List.append_assoc]; exact h), List.append_assoc]
    rfl
theorem kvAll_nd {m : List (List Int × PyData)} (h : (m.map (·.1)).Nodup) : kvAll m = m := by
  have := kvAll_go m [] (by rw [List.nil_append]; exact h)
  rwa [List.nil_append] at this
/-! ### the pen -/
theorem sc28 : FnScope ["script", "cell"] ["script"] (defScope (topS 28)) := ⟨rfl, rfl, rfl, by decide +kernel, rfl, by decide +kernel, by decide +kernel⟩
section
variable {X : Cx} {ρ : Ro} {tg iter elt : Expr} {ds : List PyData} {scope : Scope} {own : List (Str × Nat)} {pos : Pos} {g : TG} {F : PyData → PyData} {ρ' : PyData → Ro}
theorem tlcAt {I : Hp} {σ : L2.St} {H : Hp} (itA : ∀ R : It → Hp → Prop, (∀ J I' H', Nw I H I' H' → ItOk J I' GT ds → R J H') → WI X tg iter σ H R)
    (gt : ∀ d, d ∈ ds → Gt g (own.map (·.2)) (wipeR ρ (own.map (·.2))) d (ρ' d)) (he : ∀ d, d ∈ ds → Eb X scope (ρ' d) elt (F d)) (hl : ds.length < 100000)
    (hx : Ex I H) (vs : VS I σ ρ) (Q : VK) (k : ∀ v I' H', Nw I H I' H' → Rp I' v (.list (ds.map F)) → Q v H') : tLc (WI X tg iter) g tYes (WEb X scope elt) (own.map (·.2)) σ H Q := by
  refine itA _ fun J I1 H1 n1 ok1 D hD => ?_
  have hD0 : I1 D = none := fresh_back n1.j hD
  refine ⟨fun i m H' => m = ds.length - i ∧ i ≤ ds.length ∧ LcP I1 H1 D (fun _ => true) F ds i H', ⟨ds.length, rfl, Nat.zero_le _, I1, [], Ex.refl _, n1.j.trans (Ex.new hD), hD0, upd_same, Ex.new hD, fun a e _ => e, .nil⟩, ?_⟩
  rintro i m H2 ⟨rfl, hi, I2, acc, a1, a2, a3, a4, a5, a6, a7⟩
  by_cases hlt : i < ds.length
  · refine .inr ⟨ok1.go i I2 H2 a1 a2 trivial hlt, LcP I1 H1 D (fun _ => true) F ds (i + 1), fun H' p' => ⟨ds.length - (i + 1), by omega, rfl, hlt, p'⟩, fun x H3 y => ?_⟩
    obtain ⟨I3, d, n3, hd, rd⟩ := ok1.yld i I2 H2 x H3 a1 a2 trivial hlt y
    have hm : d ∈ ds := List.mem_of_getElem? hd
    refine (gt d hm).run I3 (L2.wipe σ (own.map (·.2))) H3 x n3.j (((vs.up n1.i).up (a1.trans n3.i)).wipe _) rd _ ?_
    intro σ2 vs2 ag hl2
    refine ⟨wipe_same ag hl2, ?_⟩
    have D3 := n3.keep a4 a3
    unfold tYes
    dsimp only
    rw [if_pos rfl]
    intro s0 H0 C cl fp
    refine he d hm s0 H0 C cl fp I3 σ2 H3 n3.j vs2 _ fun v5 I5 H5 n5 r5 => ?_
    have D5 := n5.keep D3.1 D3.2
    refine ⟨acc, D5.1, lcp_len (I := I1) (H := H1) (H' := H2) (D := D) a7 hl, I5, acc ++ [v5], (a1.trans n3.i).trans n5.i, n5.j.mut D5.2, D5.2, upd_same, ((a5.trans n3.h).trans n5.h).mut hD, fun a e z => ?_, ?_⟩
    · exact n5.k a (n3.k a (a6 a e z) (z.up a5)) (z.up (a5.trans n3.h))
    · rw [take_filter hd, if_pos rfl]
      exact (a7.up (n3.i.trans n5.i)).snoc r5
  · have e : i = ds.length := by omega
    subst e
    have nw : Nw I1 H1 (upd I2 D (.lst acc)) H2 := by
      refine ⟨a1.trans (Ex.new a3), fun a o q => ?_, a5, fun a e z => ?_⟩
      · by_cases h : a = D
        · subst h; rw [upd_same] at q; rw [a4]; exact q
        · rw [upd_ne h] at q; exact a2 a o q
      · rw [upd_ne (z.ne hD)]
        exact a6 a e z
    refine .inl ⟨ok1.stop I2 H2 a1 a2 trivial, k _ _ _ (n1.trans nw) ?_⟩
    rw [List.take_length, List.filter_eq_self.mpr fun _ _ => rfl] at a7
    exact .lst upd_same (a7.up (Ex.new a3))
end
def spPen (K : PySem.W.Frag) : Sp := fun vs H Q _ => ∃ (a : Addr) (ns : List Int), vs = [.ref a] ∧ SqL K H a (ns.map V.int) ∧ ns.length ≤ 63 ∧
  ∀ (I' H' : Hp) (p c : Addr) (cs : List Int), Nw (fun _ => none) H I' H' → I' c = some (.lst (cs.map V.int)) → H' p = none → Q (.ref p) (upd H' p (.lst [.ref c, .int 0, .int 0]))
section
variable {P : Program} {w : World} {K : PySem.W.Frag} {mg : Str → Option Value} {base : Heap} {k : Nat}
theorem fn_pen (D : Dfn K mg "_law_pen" (topS 28)) (mi : mg "int" = none) : Fn P w K mg base "_law_pen" 1 ["script"] (spPen K) :=
  fn_mk (k := 0) D sc28 (fun vs H Q E h => by obtain ⟨a, ns, rfl, _⟩ := h; rfl) (fun kV doc pm an cdv ct us hl => by
    match us, hl with
    | [a], _ => rfl) fun f cdv A outer s H G hr vs Q h => by
    obtain ⟨a, ns, rfl, hS, hl, q⟩ := h
    have vs0 : VS (fun _ => none) (L2.start ["script", "cell"] [V.ref a]) [none, none] := ⟨rfl, fun i d e => by
      rcases i with _ | _ | i
      · simp at e
      · simp at e
      · simp at e⟩
    refine ws_ret (we_of (pe_lst pa_wa) (wa_of (pa_cons pe_we pa_wa rfl) ?_))
    obtain ⟨cs, hcs⟩ : ∃ cs : List Int, cutV (ns.map V.int) none (some 63) = cs.map V.int := by
      unfold cutV
      refine ⟨((ns.drop (HT.sIx (ns.map V.int).length 0 none)).take (HT.sIx (ns.map V.int).length (ns.map V.int).length (some 63) - HT.sIx (ns.map V.int).length 0 none)), ?_⟩
      rw [List.map_take, List.map_drop]
    have hcl : cs.length ≤ 63 := by
      have := cutV_length (ns.map V.int) none (some 63)
      rw [hcs, List.length_map, List.length_map] at this
      omega
    refine we_of (pe_lc (wi := WI _ _ _) (g := gName 1) (tt := tYes) (te := WEb _ _ _) (own := [("cell", 1)]) rfl sc28.nd pi_wi (blkOk_by (own := [("cell", 1)]) (N := ["script", "cell"]) (sc := defScope (topS 28)) (by decide +kernel)) (fun _ _ _ _ _ => pg_name (i := 1) sc28.nd rfl (Or.inl rfl)) (fun s H C cl fp => pts_nil) (fun s H C cl fp => ⟨fun pins s' σ H' Q I h => h s H C cl fp pins s' I⟩) (by intro _; rfl)) ?_
    refine tlcAt (ρ := [none, none]) (I := fun _ => none) (ds := cs.map .int) (F := fun d => d) (ρ' := fun d => (wipeR _ [1]).set 1 (some d)) (fun R k pins s i => (pi_list pe_we).run pins s _ H R i ?_) (fun d _ => gt_name (by simp)) (fun d hd => ?_) (by rw [List.length_map]; omega) (fun a o z => nomatch z) vs0 _ fun v I1 H1 n1 r1 => ?_
    · refine we_of (pe_slice sl_list pe_we po_none (po_some pe_int)) ?_
      refine we_of (pe_var (i := 0) rfl (.inl rfl) (by decide) (by decide)) ⟨.ref a, rfl, 63, rfl, a, _, rfl, hS, fun c hc => ?_⟩
      rw [hcs]
      have nn : Nw (fun _ => none) H (upd (fun _ => none) c (.lst (cs.map V.int))) (upd H c (.lst (cs.map V.int))) := Nw.new (fun a o z => nomatch z) hc
      exact ⟨c, rfl, ⟨_, SqL.of upd_same⟩, k _ _ _ nn (itok_list upd_same (rpAll_ints cs))⟩
    · obtain ⟨i, hi, rfl⟩ := List.mem_map.mp hd
      intro s0 H0 C cl fp
      exact e_intI (by rfl) mi (e_name 1 rfl (.inl rfl) rfl)
    · rw [List.map_id'] at r1
      cases r1 with
      | lst ea ra =>
        rw [ra.ints] at ea
        refine wa_of (pa_cons pe_int (pa_cons pe_int pa_nil rfl) rfl) ?_
        exact ⟨by show 3 ≤ sizeLine; decide, fun p hp => q I1 H1 p _ cs n1 ea hp⟩
end
end R1

set_option Elab.async false
set_option linter.all false
set_option maxRecDepth 100000
set_option maxHeartbeats 4000000
/-! K12W14: the law: the walk. -/
namespace R1
open PySem PySem.Spec PyProof.Rows L2 Evl
abbrev lawN : List Str := ["script", "pen", "turn", "width", "poly", "told", "tops", "rows", "top", "due", "row", "whole", "down", "count", "numbers", "total_here", "number", "part", "one", "step", "coefficient", "powers", "at", "degree"]
theorem sc40 : FnScope lawN ["script"] (defScope (topS 40)) := ⟨rfl, rfl, rfl, by decide +kernel, rfl, by decide +kernel, by decide +kernel⟩
/-- what may change: the state of draws alone -/
abbrev PM (n : Nat) : Mo := penMo 1 n
theorem pm_set {n i : Nat} (h : i ≠ 1) : mu (PM n) i none = PM n := penMo_forget h
theorem pm_draw {n m : Nat} : mu (PM n) 1 (some (.pen m)) = PM m := penMo_mu
theorem pm_at {n : Nat} : PM n 1 = some (.pen n) := penMo_same
theorem pm_none {n i : Nat} (h : i ≠ 1) : PM n i = none := if_neg h
def spLaw (K : PySem.W.Frag) : Sp := fun vs H Q _ => ∃ (a : Addr) (ns : List Int), vs = [.ref a] ∧ SqL K H a (ns.map V.int) ∧ ns.length ≤ 63 ∧ ∀ H', Q (.bl true) H'
def topAt (p : List Tm) (i : Nat) : Int := ((p.map fun t : Tm => t.2.getD i 0) ++ [0]).foldl max 0
def topsOf (p : List Tm) (w : Nat) : List Int := (List.range w).map (topAt p)
structure LawFns (P : Program) (w : World) (K : PySem.W.Frag) (mg : Str → Option Value) (base : Heap) : Prop where
  pen : Fn P w K mg base "_law_pen" 1 ["script"] (spPen K)
  draw : Fn P w K mg base "_law_draw" 1 ["pen", "many"] (spD 1 PreMany RMany)
  pick : Fn P w K mg base "_law_pick" 2 ["pen", "some"] (spD 1 PrePick RPick)
  number : Fn P w K mg base "_law_number" 3 ["pen"] (spD 3 (fun ds => ds = []) RNum)
  drawn : Fn P w K mg base "_law_drawn" 4 ["pen", "width", "degree", "terms"] (spD 41 PreDrawn RDrawn)
  told : Fn P w K mg base "_law_told_otherwise" 2 ["pen", "poly"] (spD 100 PreTold RTold)
  poly : Fn P w K mg base "_law_poly" 1 ["found"] (spP RPolOf)
  worth : Fn P w K mg base "_law_worth" 1 ["poly", "numbers"] (spP RWorth)
  dif : Fn P w K mg base "_law_difference" 2 ["poly", "powers"] (spP RDif)
  down : Fn P w K mg base "_law_down" 1 ["count"] (spP RDown)
  falling : Fn P w K mg base "falling" 7 ["width", "poly"] (spP RFalling)
  whole : Fn P w K mg base "whole_worth" 7 ["width", "poly", "numbers"] (spP RWhole)
  dwhole : Dfn K mg "whole_worth" (topS 25)
structure LawBlt (mg : Str → Option Value) : Prop where
  max : mg "max" = none
  range : mg "range" = none
  sum : mg "sum" = none
  sorted : mg "sorted" = none
  tuple : mg "tuple" = none
  dict : mg "dict" = none
  int : mg "int" = none
  zip : mg "zip" = none
/-- the rest of the body behind its first i statements -/
abbrev lawBody : List Stmt := defBody (topS 40)
def turnBody : List Stmt := match lawBody with
  | _ :: .For _ _ b _ _ :: _ => b
  | _ => []
section
variable {P : Program} {w : World} {K : PySem.W.Frag} {mg : Str → Option Value} {base : Heap} {k : Nat}
variable {f : Addr} {cdv : Value} {A : Around} {outer : List Env} {s : Shared} {H : Hp} {G : XK}
abbrev lawX (P : Program) (w : World) (K : PySem.W.Frag) (mg : Str → Option Value) (base : Heap) (f : Addr) (cdv : Value) (A : Around) (outer : List Env) (s : Shared) (H : Hp) (G : XK) : Cx := cxB P w K mg base lawN "law" (topS 40) f cdv A outer s H G
abbrev ρ0 : Ro := [none, none, none, none, none, none, none, none, none, none, none, none, none, none, none, none, none, none, none, none, none, none, none, none]
abbrev Rlaw (d : PyData) (_ : Mo) : Prop := d = .bool true
/-- from the drawn polynomial on -/
theorem turn_draw (F : LawFns P w K mg base) (B : LawBlt mg) (hr : Room 7 (lawX P w K mg base f cdv A outer s H G).A) {n j : Nat} (hn : n + 300 ≤ 1048576)
    {N : Ro → Mo → Prop}
    (next : ∀ (wd : Nat) (p : List Tm), Pok wd p → Bk (lawX P w K mg base f cdv A outer s H G) (((ρ0.set 2 (some (.int (0 + (j : Int))))).set 3 (some (.int wd))).set 4 (some (polD p))) (PM (n + 100)) (turnBody.drop 3) N Rlaw) :
    Bk (lawX P w K mg base f cdv A outer s H G) (ρ0.set 2 (some (.int (0 + (j : Int))))) (PM n) turnBody N Rlaw := by
  have hu : (lawX P w K mg base f cdv A outer s H G).A.units + 64 < cLine := hr.units
  refine bk_set (i := 3) sc40.nd rfl (.inl rfl) (ef_draw (i := 1) F.draw (hr.mono (by decide)) (by rfl) pm_at rfl (.inr (.inl rfl)) (by show n + 1 ≤ 1048576; omega) (as_cons e_int as_nil) ⟨_, rfl, by decide, by decide⟩) fun d hd => ?_
  obtain ⟨m, wd, e, rfl, w0, w1⟩ := hd
  injection e with e
  injection e with e
  subst e
  rw [pm_draw, pm_set (by decide)]
  refine bk_set (i := 4) sc40.nd rfl (.inr rfl) (ef_draw (i := 1) F.drawn (hr.mono (by decide)) (by rfl) pm_at rfl (.inr (.inl rfl)) (by show n + 1 + 41 ≤ 1048576; omega)
    (as_cons (e_name 3 rfl (.inl rfl) rfl) (as_cons (d := .int (if wd < 2 then 6 else if wd < 3 then 4 else 3)) (e_ifExp (k := decide (wd < 2)) (t_lt (e_name 3 rfl (.inl rfl) rfl) e_int) (fun h => e_int.eq (by rw [if_pos (of_decide_eq_true h)])) fun h => (e_ifExp (k := decide (wd < 3)) (t_lt (e_name 3 rfl (.inl rfl) rfl) e_int) (fun h2 => e_int.eq (by rw [if_neg (of_decide_eq_false h), if_pos (of_decide_eq_true h2)])) fun h2 => e_int.eq (by rw [if_neg (of_decide_eq_false h), if_neg (of_decide_eq_false h2)]))) (as_cons e_int as_nil))) ⟨wd, _, 5, rfl, w0, by omega, by split; omega; split <;> omega, by split; omega; split <;> omega, by decide, by decide⟩) fun d hd => ?_
  obtain ⟨wd2, dg, tm, m0, e, hk, rfl⟩ := hd
  injection e with e
  injection e with e
  subst e
  rw [pm_draw, pm_set (by decide)]
  have hw3 : wd.toNat ≤ 3 := by omega
  have hlen0 : (polOf m0).length ≤ 5 := Nat.le_trans (polOf_len m0) hk.len
  have hl : ((polOf m0).map tmD).length = (polOf m0).length := List.length_map _
  have hcoef : ∀ t ∈ polOf m0, -50 ≤ t.1 ∧ t.1 ≤ 50 := fun t ht => hk.v _ (polOf_mem hk.nd ht).2
  refine bk_set (i := 4) sc40.nd rfl (.inr rfl) (ef_call1 (A := fun d => ∃ kvs : List (List Int × PyData), d = kvD (kvAll kvs) ∧ ∃ m1 : KI, kvs = kiD m1 ∧ m1.map (·.1) = (polOf m0).map (·.2)) (B := fun d => ∃ m1 : KI, m1.map (·.1) = (polOf m0).map (·.2) ∧ d = polD (polOf m1)) F.poly (hr.mono (by decide)) (by rfl)
    (ef_dictOf hu rfl (by rfl) B.dict (ef_mono (ef_lc (pn := 1) (cost := 3) (n := n + 1 + 41) (own := [("coefficient", 20), ("powers", 21)]) (g := gTup K 2 (gCons (gName 20) (gCons (gName 21) gNil))) (Rel := fun d e => ∀ t, d = tmD t → -50 ≤ t.1 → t.1 ≤ 50 → ∃ i : Int, e = .tuple [pwD t.2, .int i])
        (ρ' := fun d => ((wipeR (((ρ0.set 2 (some (.int (0 + (j : Int))))).set 3 (some (.int wd))).set 4 (some (polD (polOf m0)))) [20, 21]).set 20 (some (fstD d))).set 21 (some (sndD d))) rfl sc40.nd (blkOk_by (own := [("coefficient", 20), ("powers", 21)]) (N := lawN) (sc := defScope (topS 40)) (by decide +kernel))
        (fun _ _ _ _ _ => pg_tup rfl (pgs_cons (pg_name (i := 20) sc40.nd rfl (Or.inl rfl)) (pgs_cons (pg_name (i := 21) sc40.nd rfl (Or.inl rfl)) pgs_nil))) (it_tup (e_name 4 rfl (.inr (.inl rfl)) rfl)) (fun d hd => ?_) (by decide) (fun d m hd hm => ?_) (by rw [hl]; omega)) fun d hd => ?_)) fun d hd => ?_) fun d hd => ?_
  · obtain ⟨t, ht, rfl⟩ := List.mem_map.mp hd
    exact gt_tup2 (by simp) (by simp)
  · obtain ⟨t, ht, rfl⟩ := List.mem_map.mp hd
    have hc := hcoef t ht
    rw [hl] at hm
    intro s0 H0 C cl fp
    have e2 : mu (penMo 1 m) 1 (some (.pen (m + 3))) = penMo 1 (m + 3) := penMo_mu
    rw [← e2]
    refine ef_mono (ef_tup2 (A := fun d => ∃ i : Int, d = PyData.int i) (d := pwD t.2) (e_name 21 rfl (.inl rfl) rfl) (ef_mono (ef_mul (P := fun k => k = t.1) (P' := fun _ => True) (ef_int (e_name 20 rfl (.inl rfl) rfl)) (ef_mono (ef_draw (i := 1) (n := m) F.number (hr.mono (by decide)) (by rfl) penMo_same rfl (.inr (.inl rfl)) (by show m + 3 ≤ 1048576; omega) as_nil rfl) fun d hd => ?_) (fun i j hi _ => .inl ⟨by omega, by omega⟩)) fun d hd => ?_)) fun d hd => ?_
    · obtain ⟨i, rfl, _⟩ := hd
      exact ⟨i, rfl, trivial⟩
    · obtain ⟨k, rfl, _⟩ := hd
      exact ⟨_, rfl⟩
    · obtain ⟨d', rfl, i, rfl⟩ := hd
      intro t' e _ _
      have : t.2 = t'.2 := by
        injection e with e
        injection e with e4 e5
        injection e5 with e7 _
        injection e7 with e8
        exact ints_inj e8
      rw [← this]
      exact ⟨i, rfl⟩
  · obtain ⟨es, rfl, hr2⟩ := hd
    have go : ∀ (p : List Tm) (es : List PyData), (∀ t ∈ p, -50 ≤ t.1 ∧ t.1 ≤ 50) → AllR (fun d e => ∀ t, d = tmD t → -50 ≤ t.1 → t.1 ≤ 50 → ∃ i : Int, e = .tuple [pwD t.2, .int i]) (p.map tmD) es → ∃ m1 : KI, es = (kiD m1).map (fun q => .tuple [pwD q.1, q.2]) ∧ m1.map (·.1) = p.map (·.2) := by
      intro p
      induction p with
      | nil => intro es _ h; cases h; exact ⟨[], rfl, rfl⟩
      | cons t p ih =>
        intro es hb h
        cases h with
        | cons a b =>
          obtain ⟨i, rfl⟩ := a t rfl (hb t (.head _)).1 (hb t (.head _)).2
          obtain ⟨m1, e1, e2⟩ := ih _ (fun x hx => hb x (.tail _ hx)) b
          exact ⟨(t.2, i) :: m1, by rw [e1]; rfl, by rw [List.map_cons, List.map_cons, e2]⟩
    obtain ⟨m1, e1, e2⟩ := go _ _ hcoef hr2
    exact ⟨kiD m1, by rw [e1], m1, rfl, e2⟩
  · obtain ⟨kvs, rfl, m1, rfl, hm1⟩ := hd
    have hnd : (m1.map (·.1)).Nodup := by rw [hm1]; exact polOf_nd hk.nd
    have hnd2 : ((kiD m1).map (·.1)).Nodup := by
      have : (kiD m1).map (·.1) = m1.map (·.1) := by unfold kiD; rw [List.map_map]; rfl
      rw [this]; exact hnd
    have hlen1 : m1.length ≤ 5 := by
      have := congrArg List.length hm1
      rw [List.length_map, List.length_map] at this
      omega
    rw [kvAll_nd hnd2]
    exact ⟨polD (polOf m1), ⟨m1, rfl, by omega, hnd, rfl⟩, m1, hm1, rfl⟩
  · obtain ⟨m1, hm1, rfl⟩ := hd
    have hnd : (m1.map (·.1)).Nodup := by rw [hm1]; exact polOf_nd hk.nd
    have hlen1 : m1.length ≤ 5 := by
      have := congrArg List.length hm1
      rw [List.length_map, List.length_map] at this
      omega
    have hmem : ∀ q ∈ m1.map (·.1), q ∈ m0.map (·.1) := fun q hq => by
      rw [hm1] at hq
      obtain ⟨t, ht, rfl⟩ := List.mem_map.mp hq
      exact List.mem_map.mpr ⟨_, (polOf_mem hk.nd ht).2, rfl⟩
    have ok : Pok wd.toNat (polOf m1) := pok_of hw3 hnd (fun q hq => hk.l q (hmem q hq)) (fun q hq => hk.n q (hmem q hq)) hlen1
    rw [pm_set (by decide)]
    have ew : ((wd.toNat : Nat) : Int) = wd := by omega
    refine bk_raise (i := 1) (m := n + 100) pm_at (by rw [hl]; omega) ?_
    rw [pm_draw]
    have nx := next wd.toNat (polOf m1) ok
    rw [ew] at nx
    exact nx
end
end R1

set_option Elab.async false
set_option linter.all false
set_option maxRecDepth 100000
set_option maxHeartbeats 4000000
/-! K12W15: the law: told, tops, rows. -/
namespace R1
open PySem PySem.Spec PyProof.Rows L2 Evl
theorem fmax_ge : ∀ (l : List Int) (a : Int), a ≤ l.foldl max a ∧ (∀ x ∈ l, x ≤ l.foldl max a) ∧ (l.foldl max a = a ∨ l.foldl max a ∈ l)
  | [], a => ⟨Int.le_refl _, fun _ h => (nomatch h), .inl rfl⟩
  | x :: l, a => by
    obtain ⟨h1, h2, h3⟩ := fmax_ge l (max a x)
    refine ⟨?_, fun y hy => ?_, ?_⟩
    · show a ≤ l.foldl max (max a x); omega
    · show y ≤ l.foldl max (max a x)
      rcases List.mem_cons.mp hy with rfl | hy
      · omega
      · exact h2 y hy
    · show l.foldl max (max a x) = a ∨ l.foldl max (max a x) ∈ x :: l
      rcases h3 with h3 | h3
      · rw [h3]
        by_cases h : a ≤ x
        · right; rw [Int.max_eq_right h]; exact .head _
        · left; exact Int.max_eq_left (by omega)
      · right; exact .tail _ h3
theorem tmD_inj : ∀ {p p' : List Tm}, p.map tmD = p'.map tmD → p = p'
  | [], [], _ => rfl
  | [], _ :: _, h => by cases h
  | _ :: _, [], h => by cases h
  | t :: p, a :: b, h => by
    rw [List.map_cons, List.map_cons] at h
    injection h with h1 h2
    injection h1 with h1
    injection h1 with e4 e5
    injection e4 with e6
    injection e5 with e7 _
    injection e7 with e8
    rw [tmD_inj h2, Prod.ext e6 (ints_inj e8)]
theorem topAt_is (p : List Tm) (i : Nat) {m : Int} (h1 : m ∈ (p.map fun t : Tm => t.2.getD i 0) ++ [0]) (h2 : ∀ y, y ∈ (p.map fun t : Tm => t.2.getD i 0) ++ [0] → y ≤ m) : m = topAt p i := by
  obtain ⟨a, b, c⟩ := fmax_ge ((p.map fun t : Tm => t.2.getD i 0) ++ [0]) 0
  have h0 := h2 0 (List.mem_append_right _ (.head _))
  unfold topAt
  have h3 := b m h1
  rcases c with c | c
  · rw [c] at h3 ⊢; omega
  · have := h2 _ c; omega
theorem topAt_ge (p : List Tm) (i : Nat) {t : Tm} (ht : t ∈ p) : t.2.getD i 0 ≤ topAt p i := (fmax_ge _ 0).2.1 _ (List.mem_append_left _ (List.mem_map.mpr ⟨t, ht, rfl⟩))
theorem topAt_bd {p : List Tm} (h : ∀ t ∈ p, ∀ n ∈ t.2, 0 ≤ n ∧ n ≤ 6) (i : Nat) : 0 ≤ topAt p i ∧ topAt p i ≤ 6 := by
  obtain ⟨a, b, c⟩ := fmax_ge ((p.map fun t : Tm => t.2.getD i 0) ++ [0]) 0
  unfold topAt
  refine ⟨a, ?_⟩
  rcases c with c | c
  · rw [c]; decide
  · rcases List.mem_append.mp c with c | c
    · obtain ⟨t, ht, e⟩ := List.mem_map.mp c
      rw [← e, List.getD_eq_getElem?_getD]
      cases q : t.2[i]? with
      | none => decide
      | some n => exact (h t ht n (List.mem_of_getElem? q)).2
    · rw [List.mem_singleton.mp c]; decide
theorem leL_tops : ∀ (ns : List Int) (g : Nat → Int) (i : Nat), (∀ n ∈ ns, 0 ≤ n) → (∀ j, j < ns.length → ns.getD j 0 ≤ g (i + j)) → LeL ns ((List.range' i ns.length).map g)
  | [], g, i, _, _ => .nil
  | n :: ns, g, i, h0, h => by
    show LeL (n :: ns) (g i :: (List.range' (i + 1) ns.length).map g)
    refine .cons (h0 n (.head _)) (h 0 (by simp)) (leL_tops ns g (i + 1) (fun x hx => h0 x (.tail _ hx)) fun j hj => ?_)
    have := h (j + 1) (by simpa using hj)
    rw [show i + 1 + j = i + (j + 1) by omega]
    exact this
theorem hyp_of {w : Nat} {p : List Tm} (ok : Pok w p) : Hyp p (topsOf p w) := by
  refine ⟨fun t ht => ⟨?_, (ok.s t ht).n⟩, fun c hc => ?_⟩
  · have hl : t.2.length = w := by have := (ok.g.t t ht).2.1; omega
    unfold topsOf
    rw [List.range_eq_range', ← hl]
    refine leL_tops t.2 (topAt p) 0 (fun n hn => ((ok.s t ht).n n hn).1) fun j hj => ?_
    rw [Nat.zero_add]
    exact topAt_ge p j ht
  · unfold topsOf at hc
    obtain ⟨i, _, rfl⟩ := List.mem_map.mp hc
    exact topAt_bd (fun t ht => (ok.s t ht).n) i
theorem topsOf_len (p : List Tm) (w : Nat) : (topsOf p w).length = w := by unfold topsOf; rw [List.length_map, List.length_range]
theorem boxStep_len {c : Int} (h6 : c ≤ 6) (rs : List (List Int)) : (boxStep rs c).length ≤ 7 * rs.length := by
  have := flat_len (n := 7) (rs.map (boxRow c)) fun x hx => by
    obtain ⟨z, hz, rfl⟩ := List.mem_map.mp hx
    unfold boxRow
    rw [List.length_map, List.length_range]
    omega
  rwa [List.length_map] at this
theorem boxF_len : ∀ (cs : List Int) (rs : List (List Int)), (∀ c ∈ cs, c ≤ 6) → (cs.foldl boxStep rs).length ≤ rs.length * 7 ^ cs.length
  | [], rs, _ => by simp
  | c :: cs, rs, h => by
    have h1 := boxF_len cs (boxStep rs c) fun x hx => h x (.tail _ hx)
    have h2 := boxStep_len (h c (.head _)) rs
    have h3 : (boxStep rs c).length * 7 ^ cs.length ≤ 7 * rs.length * 7 ^ cs.length := Nat.mul_le_mul_right _ h2
    show (cs.foldl boxStep (boxStep rs c)).length ≤ _
    rw [List.length_cons, Nat.pow_succ]
    have h4 : 7 * rs.length * 7 ^ cs.length = rs.length * (7 ^ cs.length * 7) := by
      rw [Nat.mul_comm 7 rs.length, Nat.mul_assoc, Nat.mul_comm 7]
    omega
section
variable {P : Program} {w : World} {K : PySem.W.Frag} {mg : Str → Option Value} {base : Heap} {k : Nat}
variable {f : Addr} {cdv : Value} {A : Around} {outer : List Env} {s : Shared} {H : Hp} {G : XK}
theorem turn_told (F : LawFns P w K mg base) (B : LawBlt mg) (hr : Room 7 (lawX P w K mg base f cdv A outer s H G).A) {n j wd : Nat} {p : List Tm} (ok : Pok wd p) (hn : n + 300 ≤ 1048576) {N : Ro → Mo → Prop}
    (next : Bk (lawX P w K mg base f cdv A outer s H G) (((((ρ0.set 2 (some (.int (0 + (j : Int))))).set 3 (some (.int wd))).set 4 (some (polD p))).set 5 (some (polD (fall p)))).set 6 (some (.list ((topsOf p wd).map .int)))) (PM (n + 200)) (turnBody.drop 5) N Rlaw) :
    Bk (lawX P w K mg base f cdv A outer s H G) (((ρ0.set 2 (some (.int (0 + (j : Int))))).set 3 (some (.int wd))).set 4 (some (polD p))) (PM (n + 100)) (turnBody.drop 3) N Rlaw := by
  have hu : (lawX P w K mg base f cdv A outer s H G).A.units + 64 < cLine := hr.units
  have hw := ok.w
  refine bk_set (i := 5) sc40.nd rfl (.inl rfl) (ef_call2 (A := fun d => ∃ es, d = .list es ∧ Tms p es) (B := fun d => d = polD (fall p)) F.falling hr (by rfl) (e_name 3 rfl (.inl rfl) rfl) (ef_mono (ef_draw (i := 1) F.told (hr.mono (by decide)) (by rfl) pm_at rfl (.inr (.inl rfl)) (by show n + 100 + 100 ≤ 1048576; omega) (as_cons (e_name 4 rfl (.inr (.inl rfl)) rfl) as_nil) ⟨p, rfl, by have := ok.l; omega⟩) fun d hd => ?_) fun d hd => ?_) fun d hd => ?_
  · obtain ⟨p', es, e, rfl, ht⟩ := hd
    have : p.map tmD = p'.map tmD := by
      injection e with e
      injection e with e
    have e2 : p = p' := tmD_inj this
    rw [e2]
    exact ⟨es, rfl, ht⟩
  · obtain ⟨es, rfl, ht⟩ := hd
    exact ⟨_, ⟨(wd : Int), p, false, es, rfl, ht, ok.g, ok.s, by have := ok.l; omega, rfl⟩, rfl⟩
  · subst hd
    rw [pm_draw, pm_set (by decide)]
    have hFt : (upto 0 ((wd : Int)).toNat).map (fun d => PyData.int (topAt p (natOf d))) = (topsOf p wd).map .int := by
      unfold upto topsOf
      rw [List.map_map, List.map_map]
      have e : ((wd : Int)).toNat = wd := by omega
      rw [e]
      refine List.map_congr_left fun a _ => ?_
      show PyData.int (topAt p (0 + (a : Int)).toNat) = PyData.int (topAt p a)
      rw [show (0 + (a : Int)).toNat = a by omega]
    refine bk_setLc (i := 6) (own := [("at", 22)]) (g := gName 22) (ds := upto 0 ((wd : Int)).toNat) (F := fun d => .int (topAt p (natOf d))) (ρ' := fun d => (wipeR _ [22]).set 22 (some d)) rfl sc40.nd rfl rfl (sw_true rfl rfl rfl (by decide +kernel)) (blkOk_by (own := [("at", 22)]) (N := lawN) (sc := defScope (topS 40)) (by decide +kernel)) (fun _ _ _ _ _ => pg_name (i := 22) sc40.nd rfl (Or.inr rfl)) (it_range1 (by rfl) B.range (e_name 3 rfl (.inl rfl) rfl)) (fun d _ => gt_name (by simp)) (fun d hd => ?_) (by rw [upto_len]; omega) ?_
    · unfold upto at hd
      obtain ⟨a, ha, rfl⟩ := List.mem_map.mp hd
      have ha := List.mem_range.mp ha
      have en : natOf (.int (0 + (a : Int))) = a := by show (0 + (a : Int)).toNat = a; omega
      rw [en]
      intro s0 H0 C cl fp
      refine e_maxL (ns := (p.map fun t : Tm => t.2.getD a 0) ++ [0]) rfl (by rfl) B.max ((e_catL (ds := (p.map fun t : Tm => t.2.getD a 0).map .int) ((e_lc (own := [("coefficient", 20), ("powers", 21)]) (g := gTup K 2 (gCons (gName 20) (gCons (gName 21) gNil))) (F := fun d => .int ((keyD (sndD d)).getD a 0))
        (ρ' := fun d => ((wipeR ((wipeR ((((ρ0.set 2 (some (.int (0 + (j : Int))))).set 3 (some (.int wd))).set 4 (some (polD p))).set 5 (some (polD (fall p)))) [22]).set 22 (some (.int (0 + (a : Int))))) [20, 21]).set 20 (some (fstD d))).set 21 (some (sndD d))) rfl sc40.nd (blkOk_by (own := [("coefficient", 20), ("powers", 21)]) (N := lawN) (sc := { kind := .function, names := [(".0", .local), ("at", .cell), ("max", .globalImplicit), ("poly", .cell)], isGenerator := false, isCoroutine := false }) (by decide +kernel))
        (fun _ _ _ _ _ => pg_tup rfl (pgs_cons (pg_name (i := 20) sc40.nd rfl (Or.inl rfl)) (pgs_cons (pg_name (i := 21) sc40.nd rfl (Or.inl rfl)) pgs_nil))) (it_tup (e_name 4 rfl (.inr (.inl rfl)) rfl)) (fun d hd => ?_) (fun d hd => ?_) ?_).eq ?_) (e_lst (x1 := 0) (as_cons e_int as_nil) (by show 1 ≤ 100000; decide)) ?_).eq ?_) (by simp) (fun m' h1 h2 => topAt_is p a h1 h2)
      · obtain ⟨t, ht, rfl⟩ := List.mem_map.mp hd
        exact gt_tup2 (by simp) (by simp)
      · obtain ⟨t, ht, rfl⟩ := List.mem_map.mp hd
        have ek : keyD (sndD (tmD t)) = t.2 := keyD_pw t.2
        rw [ek]
        have hal : a < t.2.length := by have := (ok.g.t t ht).2.1; omega
        intro s1 H1 C1 cl1 fp1
        exact e_ix (k := true) (e_name 21 rfl (.inl rfl) rfl) (e_name 22 rfl (.inr (.inl rfl)) rfl) (by rw [Int.zero_add]; exact atI_nat (map_getD hal))
      · rw [List.length_map]; have := ok.l; omega
      · rw [List.map_map, List.map_map]
        congr 1
        refine List.map_congr_left fun t _ => ?_
        show PyData.int ((keyD (sndD (tmD t))).getD a 0) = _
        have ek : keyD (sndD (tmD t)) = t.2 := keyD_pw t.2
        rw [ek]
        rfl
      · rw [List.length_map, List.length_map]; have := ok.l; show _ + 1 ≤ _; omega
      · rw [List.map_append]
        rfl
    · rw [pm_set (by decide), hFt]
      exact next
end
end R1

set_option Elab.async false
set_option linter.all false
set_option maxRecDepth 100000
set_option maxHeartbeats 4000000
/-! K12W16: the law: rows, what is due. -/
namespace R1
open PySem PySem.Spec PyProof.Rows L2 Evl
theorem eqvAll_refl_ints (p : List Int) : PyData.eqvAll (p.map .int) (p.map .int) = true := by rw [eqvAll_ints]; exact decide_eq_true rfl
theorem eqv_tmD (t : Tm) : PyData.eqv (tmD t) (tmD t) = true := by
  show (PyData.eqv (.int t.1) (.int t.1) && (PyData.eqv (pwD t.2) (pwD t.2) && true)) = true
  have h1 : PyData.eqv (.int t.1) (.int t.1) = true := by show (t.1 == t.1) = true; exact beq_self_eq_true _
  have h2 : PyData.eqv (pwD t.2) (pwD t.2) = true := eqvAll_refl_ints t.2
  rw [h1, h2]
  rfl
theorem eqvAll_tms : ∀ p : List Tm, PyData.eqvAll (p.map tmD) (p.map tmD) = true
  | [] => rfl
  | t :: p => by
    show (PyData.eqv (tmD t) (tmD t) && PyData.eqvAll (p.map tmD) (p.map tmD)) = true
    rw [eqv_tmD, eqvAll_tms p]
    rfl
theorem eqv_polD (p : List Tm) : PyData.eqv (polD p) (polD p) = true := eqvAll_tms p
theorem canLay_tms : ∀ p : List Tm, PyData.canLayAll0 (p.map tmD) = true
  | [] => rfl
  | t :: p => by
    show (PyData.canLay0 (tmD t) && PyData.canLayAll0 (p.map tmD)) = true
    have h : PyData.canLay0 (tmD t) = true := by
      show (true && (PyData.canLay0 (pwD t.2) && true)) = true
      have : PyData.canLay0 (pwD t.2) = true := canLay_ints t.2
      rw [this]
      rfl
    rw [h, canLay_tms p]
    rfl
theorem depth_tms : ∀ p : List Tm, PyData.depthAll (p.map tmD) ≤ 2
  | [] => by decide
  | t :: p => by
    show max (PyData.depth (tmD t)) (PyData.depthAll (p.map tmD)) ≤ 2
    have h1 := depth_tms p
    have h2 : PyData.depth (tmD t) ≤ 2 := by
      show max (PyData.depth (.int t.1)) (max (PyData.depth (pwD t.2)) 0) + 1 ≤ 2
      have e1 : PyData.depth (.int t.1) = 0 := rfl
      have e2 : PyData.depth (pwD t.2) = 1 := by show PyData.depthAll (t.2.map .int) + 1 = 1; rw [depth_ints]
      rw [e1, e2]
      decide
    omega
theorem shaped_polD (p : List Tm) : SeqAt.shaped (polD p) = true := by
  unfold SeqAt.shaped
  have h1 : PyData.canLay0 (polD p) = true := canLay_tms p
  have h2 : PyData.depth (polD p) ≤ 64 := by
    show PyData.depthAll (p.map tmD) + 1 ≤ 64
    have := depth_tms p
    omega
  rw [h1, decide_eq_true h2]
  rfl
/-- what is due at a row -/
def dueK (p : List Tm) (r : List Int) : Rk := (r.sum, r, [(difference p r).fdiv (facP r)])
theorem dueR_is (p : List Tm) (tops : List Int) : dueR p tops = ((box tops).filter fun r => decide (difference p r ≠ 0)).map (dueK p) := rfl
theorem facP_fold : ∀ (r : List Int) (a : Int), r.foldl (fun a c => a * facI c.toNat) a = a * facP r
  | [], a => by show a = a * 1; rw [Int.mul_one]
  | c :: r, a => by
    show r.foldl _ (a * facI c.toNat) = a * (facI c.toNat * facP r)
    rw [facP_fold r, Int.mul_assoc]
theorem facI_le : ∀ n : Fin 7, facI n.val ≤ 720 := by decide +kernel
theorem facI_le6 {c : Int} (h : 0 ≤ c ∧ c ≤ 6) : facI c.toNat ≤ 720 := facI_le ⟨c.toNat, by omega⟩
theorem facP_le : ∀ (r : List Int), r.length ≤ 3 → (∀ c ∈ r, 0 ≤ c ∧ c ≤ 6) → facP r ≤ 373248000
  | [], _, _ => by decide
  | [a], _, h => by
    show facI a.toNat * 1 ≤ _
    have := facI_le6 (h a (by simp)); omega
  | [a, b], _, h => by
    show facI a.toNat * (facI b.toNat * 1) ≤ _
    have h1 := facI_le6 (h a (by simp)); have h2 := facI_le6 (h b (by simp))
    have p1 := facI_pos a.toNat; have p2 := facI_pos b.toNat
    rw [Int.mul_one]
    have := Int.mul_le_mul h1 h2 (by omega) (by omega)
    omega
  | [a, b, c], _, h => by
    show facI a.toNat * (facI b.toNat * (facI c.toNat * 1)) ≤ _
    have h1 := facI_le6 (h a (by simp)); have h2 := facI_le6 (h b (by simp)); have h3 := facI_le6 (h c (by simp))
    have p1 := facI_pos a.toNat; have p2 := facI_pos b.toNat; have p3 := facI_pos c.toNat
    rw [Int.mul_one]
    have q := Int.mul_le_mul h2 h3 (by omega) (by omega)
    have q0 : 0 ≤ facI b.toNat * facI c.toNat := Int.mul_nonneg (by omega) (by omega)
    have := Int.mul_le_mul h1 q q0 (by omega)
    omega
  | _ :: _ :: _ :: _ :: _, h, _ => by simp at h
section
variable {P : Program} {w : World} {K : PySem.W.Frag} {mg : Str → Option Value} {base : Heap} {k : Nat}
variable {f : Addr} {cdv : Value} {A : Around} {outer : List Env} {s : Shared} {H : Hp} {G : XK}
/-- what stands before the rows -/
abbrev ρT (j wd : Nat) (p : List Tm) : Ro := ((((ρ0.set 2 (some (.int (0 + (j : Int))))).set 3 (some (.int wd))).set 4 (some (polD p))).set 5 (some (polD (fall p)))).set 6 (some (.list ((topsOf p wd).map .int)))
theorem turn_rows (F : LawFns P w K mg base) (B : LawBlt mg) (hr : Room 7 (lawX P w K mg base f cdv A outer s H G).A) {n j wd : Nat} {p : List Tm} (ok : Pok wd p) {N : Ro → Mo → Prop}
    (next : Bk (lawX P w K mg base f cdv A outer s H G) ((ρT j wd p).set 7 (some (.list ((box (topsOf p wd)).map pwD)))) (PM n) (turnBody.drop 7) N Rlaw) :
    Bk (lawX P w K mg base f cdv A outer s H G) (ρT j wd p) (PM n) (turnBody.drop 5) N Rlaw := by
  have hu : (lawX P w K mg base f cdv A outer s H G).A.units + 64 < cLine := hr.units
  have hw := ok.w
  have hh := hyp_of ok
  refine bk_set (i := 7) sc40.nd rfl (.inl rfl) (ef_e (e_lst (x1 := 0) (as_cons (e_tup as_nil (by decide)) as_nil) (by show 1 ≤ 100000; decide))) fun d hd => ?_
  subst hd
  rw [pm_set (by decide)]
  refine bk_for (ts := [8]) (fun i ρ μ => ρ = (ρT j wd p).set 7 (some (.list ((((topsOf p wd).take i).foldl boxStep [[]]).map pwD))) ∧ μ = PM n) PassesOwn.never rfl
    (pg_name (i := 8) sc40.nd rfl (Or.inr rfl)) (it_list (e_name 6 rfl (.inl rfl) rfl)) ⟨rfl, rfl⟩ (fun i d ρi μi hd hI => ?_) fun ρ' μ' hI => ?_
  · obtain ⟨rfl, rfl⟩ := hI
    obtain ⟨c, hc, rfl⟩ := get_map hd
    have hcb := hh.b c (List.mem_of_getElem? hc)
    have hln := boxF_len ((topsOf p wd).take i) [[]] fun x h => (hh.b x (List.mem_of_mem_take h)).2
    have hi3 : ((topsOf p wd).take i).length ≤ 3 := by rw [List.length_take, topsOf_len]; omega
    have h7 := pow7 hi3
    rw [List.length_singleton, Nat.one_mul] at hln
    have hrl2 : ∀ r ∈ ((topsOf p wd).take i).foldl boxStep [[]], r.length ≤ 3 := fun r hr => by
      obtain ⟨q, hq, s, hs, rfl⟩ := (mem_boxF _ _ _).mp hr
      rw [List.mem_singleton.mp hq, List.nil_append, hs.len]
      exact hi3
    rw [foldl_take boxStep [[]] hc]
    generalize hrs : ((topsOf p wd).take i).foldl boxStep [[]] = rs at hln hrl2 ⊢
    have hrl : rs.length ≤ 343 := by omega
    have hsl := boxStep_len hcb.2 rs
    refine ⟨_, gt_name (by simp), fun t ht => pm_none (by simp at ht; omega), ?_⟩
    have hF : ((rs.map pwD).map fun d => PyData.list ((boxRow c (keyD d)).map pwD)) = ((rs.map (boxRow c)).map fun l => l.map pwD).map .list := by
      rw [List.map_map, List.map_map, List.map_map]
      refine List.map_congr_left fun q _ => ?_
      show PyData.list ((boxRow c (keyD (pwD q))).map pwD) = _
      rw [keyD_pw]
      rfl
    have hfl : ((rs.map (boxRow c)).map fun l => l.map pwD).flatten = (boxStep rs c).map pwD := by
      unfold boxStep
      rw [List.map_flatten]
    refine bk_set (i := 7) sc40.nd rfl (.inl rfl) (ef_e ((e_sumLL (dss := (rs.map (boxRow c)).map fun l => l.map pwD) rfl (by rfl) B.sum ((e_lc (own := [("row", 10)]) (g := gName 10) (F := fun d => PyData.list ((boxRow c (keyD d)).map pwD))
      (ρ' := fun d => (wipeR (((ρT j wd p).set 7 (some (.list (rs.map pwD)))).set 8 (some (.int c))) [10]).set 10 (some d)) rfl sc40.nd (blkOk_by (own := [("row", 10)]) (N := lawN) (sc := defScope (topS 40)) (by decide +kernel))
      (fun _ _ _ _ _ => pg_name (i := 10) sc40.nd rfl (Or.inr rfl)) (it_list (e_name 7 rfl (.inl rfl) rfl)) (fun d hd => gt_name (by simp)) (fun d hd => ?_) (by rw [List.length_map]; omega)).eq (by rw [hF])) (by rw [hfl, List.length_map]; omega)).eq (by rw [hfl]))) fun d hd => ?_
    · obtain ⟨q, hq, rfl⟩ := List.mem_map.mp hd
      rw [keyD_pw]
      have hql := hrl2 q hq
      intro s0 H0 C cl fp
      refine E.eq (e_lc (own := [("count", 13)]) (g := gName 13) (F := fun d => pwD (q ++ [((natOf d : Nat) : Int)])) (ρ' := fun d => (wipeR ((wipeR (((ρT j wd p).set 7 (some (.list (rs.map pwD)))).set 8 (some (.int c))) [10]).set 10 (some (pwD q))) [13]).set 13 (some d)) rfl sc40.nd (blkOk_by (own := [("count", 13)]) (N := lawN) (sc := { kind := .function, names := [(".0", .local), ("row", .cell), ("range", .globalImplicit), ("top", .cell)], isGenerator := false, isCoroutine := false }) (by decide +kernel)) (fun _ _ _ _ _ => pg_name (i := 13) sc40.nd rfl (Or.inl rfl)) (it_range1 (by rfl) B.range (e_add (e_name 8 rfl (.inr (.inl rfl)) rfl) e_int)) (fun d _ => gt_name (by simp)) (fun d hd => ?_) (by rw [upto_len]; omega)) ?_
      · unfold upto at hd
        obtain ⟨a, ha, rfl⟩ := List.mem_map.mp hd
        have en : natOf (.int (0 + (a : Int))) = a := by show (0 + (a : Int)).toNat = a; omega
        rw [en]
        intro s1 H1 C1 cl1 fp1
        exact (e_catT (e_name 10 rfl (.inr (.inl rfl)) rfl) (e_tup (as_cons (e_name 13 rfl (.inl rfl) rfl) as_nil) (by show 1 ≤ 100000; decide)) (by rw [List.length_map]; show _ + 1 ≤ _; omega)).eq (show _ = pwD (q ++ [(a : Int)]) by show PyData.tuple _ = PyData.tuple _; rw [List.map_append, Int.zero_add]; rfl)
      · have ec : (c + 1).toNat = c.toNat + 1 := by omega
        unfold upto boxRow
        rw [List.map_map, List.map_map, ec]
        congr 1
        refine List.map_congr_left fun a _ => ?_
        show pwD (q ++ [(((0 + (a : Int)).toNat : Nat) : Int)]) = pwD (q ++ [(a : Int)])
        rw [show (0 + (a : Int)).toNat = a by omega]
    · subst hd
      rw [pm_set (by decide)]
      refine bk_forget (ρ' := (ρT j wd p).set 7 (some (.list ((boxStep rs c).map pwD)))) (by repeat (first | exact .nil | refine .keep ?_ | refine .drop ?_)) (bk_nil ⟨rfl, rfl⟩)
  · obtain ⟨rfl, rfl⟩ := hI
    have e0 : (topsOf p wd).take ((topsOf p wd).map PyData.int).length = topsOf p wd := by rw [List.length_map, List.take_length]
    rw [e0]
    exact next
end
end R1

set_option Elab.async false
set_option linter.all false
set_option maxRecDepth 100000
set_option maxHeartbeats 4000000
/-! K12W17: the law: what is due, told is that. -/
namespace R1
open PySem PySem.Spec PyProof.Rows L2 Evl
def dueA (p : List Tm) (rs : List (List Int)) : List Rk := (rs.filter fun r => decide (difference p r ≠ 0)).map (dueK p)
theorem dueA_snoc (p : List Tm) {rs : List (List Int)} {i : Nat} {r : List Int} (h : rs[i]? = some r) : dueA p (rs.take (i + 1)) = dueA p (rs.take i) ++ (if difference p r ≠ 0 then [dueK p r] else []) := by
  unfold dueA
  rw [List.take_add_one, h, List.filter_append, List.map_append]
  congr 1
  show ([r].filter _).map _ = _
  by_cases e : difference p r = 0
  · simp [List.filter_cons, e]
  · simp [List.filter_cons, e]
theorem dueA_len (p : List Tm) (rs : List (List Int)) : (dueA p rs).length ≤ rs.length := by
  unfold dueA
  rw [List.length_map]
  exact List.length_filter_le _ _
/-- a rank with one number behind -/
def rk3 (d : PyData) : Tm := match d with
  | .tuple [_, b, .int n] => (n, keyD b)
  | _ => (0, [])
section
variable {P : Program} {w : World} {K : PySem.W.Frag} {mg : Str → Option Value} {base : Heap} {k : Nat}
variable {f : Addr} {cdv : Value} {A : Around} {outer : List Env} {s : Shared} {H : Hp} {G : XK}
set_option maxHeartbeats 20000000 in
theorem turn_due (F : LawFns P w K mg base) (B : LawBlt mg) (hr : Room 7 (lawX P w K mg base f cdv A outer s H G).A) {n j wd : Nat} {p : List Tm} (ok : Pok wd p) {N : Ro → Mo → Prop}
    (next : Bk (lawX P w K mg base f cdv A outer s H G) (ρT j wd p) (PM n) (turnBody.drop 10) N Rlaw) :
    Bk (lawX P w K mg base f cdv A outer s H G) ((ρT j wd p).set 7 (some (.list ((box (topsOf p wd)).map pwD)))) (PM n) (turnBody.drop 7) N Rlaw := by
  have hu : (lawX P w K mg base f cdv A outer s H G).A.units + 64 < cLine := hr.units
  have hu70 : (lawX P w K mg base f cdv A outer s H G).A.units + 70 < cLine := by
    have : (lawX P w K mg base f cdv A outer s H G).A.units + 16 * 7 + 200 < cLine := hr.un
    omega
  have hw := ok.w
  have hh := hyp_of ok
  have hbl := boxF_len (topsOf p wd) [[]] fun x h => (hh.b x h).2
  have h7 := pow7 (n := (topsOf p wd).length) (by rw [topsOf_len]; exact hw)
  rw [List.length_singleton, Nat.one_mul] at hbl
  have hbl : (box (topsOf p wd)).length ≤ 343 := Nat.le_trans hbl h7
  refine bk_own (i := 9) sc40.nd rfl (.inl rfl) (en_lst as_nil (by show 0 ≤ 100000; decide)) rfl (by show 9 < 24; decide) ?_
  refine bk_for (ts := [10]) (fun i ρ μ => ρ = (ρT j wd p).set 7 (some (.list ((box (topsOf p wd)).map pwD))) ∧ μ 9 = some (.lst ((dueA p ((box (topsOf p wd)).take i)).map rkD)) ∧ μ 1 = some (.pen n) ∧ ∀ t, t ≠ 1 → t ≠ 9 → μ t = none) PassesOwn.never rfl
    (pg_name (i := 10) sc40.nd rfl (Or.inl rfl)) (it_list (e_name 7 rfl (.inl rfl) rfl)) ⟨rfl, mu_same, by rw [mu_ne (by decide)]; exact pm_at, fun t h1 h9 => by rw [mu_ne h9]; exact pm_none h1⟩ (fun i d ρi μi hd hI => ?_) fun ρ' μ' hI => ?_
  · obtain ⟨rfl, hm9, hm1, hμ⟩ := hI
    obtain ⟨r, hr', rfl⟩ := get_map hd
    have hi : i < (box (topsOf p wd)).length := (List.getElem?_eq_some_iff.mp hr').1
    have hb := mem_box.mp (List.mem_of_getElem? hr')
    have hrb := hb.bd hh.b
    have hrl : r.length ≤ 3 := by rw [hb.len, topsOf_len]; exact hw
    have hpp := facP_pos r
    have hpl := facP_le r hrl hrb
    rw [dueA_snoc p hr']
    have hdl := dueA_len p ((box (topsOf p wd)).take i)
    rw [List.length_take] at hdl
    generalize hdd : dueA p ((box (topsOf p wd)).take i) = dd at hm9 hdl ⊢
    refine ⟨_, gt_name (by simp), fun t ht => hμ t (by simp at ht; omega) (by simp at ht; omega), ?_⟩
    refine bk_par (i := 11) (j := 12) rfl sc40.nd rfl rfl (by decide) rfl rfl (ef_e (e_call F.dif (hr.mono (by decide)) (by rfl) (as_cons (e_name 4 rfl (.inr (.inl rfl)) rfl) (as_cons (e_name 10 rfl (.inl rfl) rfl) as_nil)) ⟨p, r, rfl, hrl, hrb, fun t ht m hm => by have := (ok.s t ht).n m hm; omega, rfl⟩)) (ef_e e_int) fun d d' hd hd' => ?_
    subst hd
    subst hd'
    have q9 : mu (mu μi 11 none) 12 none 9 = some (.lst (dd.map rkD)) := by rw [mu_ne (by decide), mu_ne (by decide)]; exact hm9
    have q1 : mu (mu μi 11 none) 12 none 1 = some (.pen n) := by rw [mu_ne (by decide), mu_ne (by decide)]; exact hm1
    have qn : ∀ t, t ≠ 1 → t ≠ 9 → mu (mu μi 11 none) 12 none t = none := fun t h1 h9 => by
      unfold mu
      split
      · rfl
      · split
        · rfl
        · exact hμ t h1 h9
    generalize mu (mu μi 11 none) 12 none = μ2 at q9 q1 qn ⊢
    refine bk_for (ts := [13]) (fun c ρ μ => ρ = (((((ρT j wd p).set 7 (some (.list ((box (topsOf p wd)).map pwD)))).set 10 (some (pwD r))).set 11 (some (.int (difference p r)))).set 12 (some (.int ((r.take c).foldl (fun a c => a * facI c.toNat) 1)))) ∧ μ 9 = some (.lst (dd.map rkD)) ∧ μ 1 = some (.pen n) ∧ ∀ t, t ≠ 1 → t ≠ 9 → μ t = none) PassesOwn.never rfl
      (pg_name (i := 13) sc40.nd rfl (Or.inl rfl)) (it_tup (e_name 10 rfl (.inl rfl) rfl)) ⟨rfl, q9, q1, qn⟩ (fun c d ρc μc hd hI => ?_) fun ρ' μ' hI => ?_
    · obtain ⟨rfl, p9, p1, pn⟩ := hI
      obtain ⟨x, hx, rfl⟩ := get_map hd
      have hxb := hrb x (List.mem_of_getElem? hx)
      have hf1 := facI_le6 hxb
      have hf0 := facI_pos x.toNat
      refine ⟨_, gt_name (by simp), fun t ht => pn t (by simp at ht; omega) (by simp at ht; omega), ?_⟩
      refine bk_set (i := 12) sc40.nd rfl (.inl rfl) (ef_e (e_mul (e_name 12 rfl (.inl rfl) rfl) (e_call F.down (hr.mono (by decide)) (by rfl) (as_cons (e_name 13 rfl (.inl rfl) rfl) as_nil) ⟨x, rfl, hxb.1, by omega, rfl⟩) (.inr ⟨by omega, by omega⟩))) fun d hd => ?_
      subst hd
      rw [foldl_take (fun a c => a * facI c.toNat) 1 hx]
      refine bk_forget (ρ' := (((((ρT j wd p).set 7 (some (.list ((box (topsOf p wd)).map pwD)))).set 10 (some (pwD r))).set 11 (some (.int (difference p r)))).set 12 (some (.int ((r.take c).foldl (fun a c => a * facI c.toNat) 1 * facI x.toNat))))) (by repeat (first | exact .nil | refine .keep ?_ | refine .drop ?_)) (bk_nil ⟨rfl, by rw [mu_ne (by decide)]; exact p9, by rw [mu_ne (by decide)]; exact p1, fun t h1 h9 => ?_⟩)
      unfold mu
      split
      · rfl
      · exact pn t h1 h9
    · obtain ⟨rfl, p9, p1, pn⟩ := hI
      have ef : (r.take (r.map PyData.int).length).foldl (fun a c => a * facI c.toNat) 1 = facP r := by
        rw [List.length_map, List.take_length, facP_fold, Int.one_mul]
      rw [ef]
      refine bk_if1 (B := fun z => z = false) (tf_t ((t_neI (e_mod (e_intI (by rfl) B.int (e_name 11 rfl (.inl rfl) rfl)) (e_name 12 rfl (.inl rfl) rfl) (by omega)) e_int).eq (by rw [dif_mod hh hb]; rfl))) (fun z => nomatch z) fun _ => ?_
      refine bk_if (tf_t (t_neI (e_name 11 rfl (.inl rfl) rfl) e_int)) (fun hB => ?_) fun hB => ?_
      · have hne : difference p r ≠ 0 := fun z => by rw [z] at hB; cases hB
        refine bk_append (i := 9) (ds := dd.map rkD) p9 rfl (.inl rfl) (ef_e (e_tup (as_cons (e_sumT rfl (by rfl) B.sum (e_name 10 rfl (.inl rfl) rfl)) (as_cons (e_name 10 rfl (.inl rfl) rfl) (as_cons (e_fdiv (e_name 11 rfl (.inl rfl) rfl) (e_name 12 rfl (.inl rfl) rfl) ⟨by omega, by omega⟩) as_nil))) (by show 3 ≤ 100000; decide))) p9 (by rw [List.length_map]; omega) fun d hd => ?_
        subst hd
        refine bk_nil ?_
        refine bk_forget (ρ' := (ρT j wd p).set 7 (some (.list ((box (topsOf p wd)).map pwD)))) (by repeat (first | exact .nil | refine .keep ?_ | refine .drop ?_)) (bk_nil ⟨rfl, ?_, by rw [mu_ne (by decide)]; exact p1, fun t h1 h9 => by rw [mu_ne h9]; exact pn t h1 h9⟩)
        rw [mu_same, if_pos hne, List.map_append]
        rfl
      · have he : difference p r = 0 := by
          by_cases h : difference p r = 0
          · exact h
          · rw [decide_eq_false h] at hB; cases hB
        refine bk_nil ?_
        refine bk_forget (ρ' := (ρT j wd p).set 7 (some (.list ((box (topsOf p wd)).map pwD)))) (by repeat (first | exact .nil | refine .keep ?_ | refine .drop ?_)) (bk_nil ⟨rfl, ?_, p1, pn⟩)
        rw [p9, if_neg (fun z => z he), List.append_nil]
  · obtain ⟨rfl, hm9, hm1, hμ⟩ := hI
    have e0 : (box (topsOf p wd)).take ((box (topsOf p wd)).map pwD).length = box (topsOf p wd) := by rw [List.length_map, List.take_length]
    rw [e0] at hm9
    have hm9 : μ' 9 = some (.lst ((dueR p (topsOf p wd)).map rkD)) := hm9
    have hdl : (dueR p (topsOf p wd)).length ≤ 343 := Nat.le_trans (dueA_len p (box (topsOf p wd))) hbl
    have hdf := due_fall hh
    have h3 : ∀ x ∈ srtD (dueR p (topsOf p wd)), ∃ r m, x = (r.sum, r, [m]) := fun x hx => by
      have hx2 := (srtD_perm _).mem_iff.mp hx
      obtain ⟨r, _, rfl⟩ := List.mem_map.mp hx2
      exact ⟨r, _, rfl⟩
    refine bk_freeze (i := 9) hm9 ?_
    have eμ : mu μ' 9 none = PM n := mo_eq (by rw [mu_ne (by decide)]; exact hm1) fun t h1 => by
      unfold mu
      split
      · rfl
      · exact hμ t h1 (by assumption)
    rw [eμ]
    have hsl : (srtD (dueR p (topsOf p wd))).length ≤ 343 := by rw [(srtD_perm _).length_eq]; exact hdl
    generalize hsd : srtD (dueR p (topsOf p wd)) = sd at hdf h3 hsl
    have hFm : (sd.map rkD).map (fun d => tmD (rk3 d)) = (fall p).map tmD := by
      rw [← hdf, List.map_map, List.map_map]
      refine List.map_congr_left fun x hx => ?_
      obtain ⟨r, m, rfl⟩ := h3 x hx
      show tmD (m, keyD (pwD r)) = tmD (m, r)
      rw [keyD_pw]
    refine bk_if1 (B := fun z => z = false) (tf_t ((t_neD hu (e_name 5 rfl (.inl rfl) rfl) ((e_tupOf (k := false) (by rfl) B.tuple (e_lc (own := [("degree", 23), ("row", 10), ("number", 16)]) (g := gTup K 3 (gCons (gName 23) (gCons (gName 10) (gCons (gName 16) gNil)))) (ds := sd.map rkD) (F := fun d => tmD (rk3 d))
      (ρ' := fun d => match d with | .tuple [a, b, c] => (((wipeR ((((ρT j wd p).set 7 (some (.list ((box (topsOf p wd)).map pwD)))).set 9 (some (.list ((dueR p (topsOf p wd)).map rkD))))) [23, 10, 16]).set 23 (some a)).set 10 (some b)).set 16 (some c) | _ => []) rfl sc40.nd (blkOk_by (own := [("degree", 23), ("row", 10), ("number", 16)]) (N := lawN) (sc := defScope (topS 40)) (by decide +kernel))
      (fun _ _ _ _ _ => pg_tup rfl (pgs_cons (pg_name (i := 23) sc40.nd rfl (Or.inl rfl)) (pgs_cons (pg_name (i := 10) sc40.nd rfl (Or.inl rfl)) (pgs_cons (pg_name (i := 16) sc40.nd rfl (Or.inl rfl)) pgs_nil)))) (it_list ((e_sortRk (ks := dueR p (topsOf p wd)) hu70 (by rfl) B.sorted (e_name 9 rfl (.inl rfl) rfl)).eq (by rw [hsd]))) (fun d hd => ?_) (fun d hd => ?_) (by rw [List.length_map]; omega))).eq (show _ = polD (fall p) by show PyData.tuple _ = PyData.tuple _; rw [hFm])) (shaped_polD _) (shaped_polD _)).eq (by rw [eqv_polD]; rfl))) (fun z => nomatch z) fun _ => ?_
    · obtain ⟨x, hx, rfl⟩ := List.mem_map.mp hd
      obtain ⟨r, m, rfl⟩ := h3 x hx
      exact gt_tup3 (by simp) (by simp) (by simp)
    · obtain ⟨x, hx, rfl⟩ := List.mem_map.mp hd
      obtain ⟨r, m, rfl⟩ := h3 x hx
      have er : tmD (rk3 (rkD (r.sum, r, [m]))) = tmD (m, r) := by show tmD (m, keyD (pwD r)) = _; rw [keyD_pw]
      rw [er]
      intro s0 H0 C cl fp
      exact e_tup (as_cons (e_name 16 rfl (.inl rfl) rfl) (as_cons (e_name 10 rfl (.inl rfl) rfl) as_nil)) (by show 2 ≤ 100000; decide)
    · refine bk_forget (ρ' := ρT j wd p) (by repeat (first | exact .nil | refine .keep ?_ | refine .drop ?_)) next
end
end R1

set_option Elab.async false
set_option linter.all false
set_option maxRecDepth 100000
set_option maxHeartbeats 4000000
/-! K12W18: the law: numbers, what all adds up to. -/
namespace R1
open PySem PySem.Spec PyProof.Rows L2 Evl
section
variable {X : Cx} {ρ : Ro} {μ : Mo} {tg iter elt : Expr} {ds : List PyData} {scope : Scope} {own : List (Str × Nat)} {pos : Pos} {g : TG} {ρ' : PyData → Ro} {Rel : PyData → PyData → Prop} {n cost pn : Nat}
theorem tlcF (it : IT X ρ tg iter ds)
    (gt : ∀ d, d ∈ ds → Gt g (own.map (·.2)) (wipeR ρ (own.map (·.2))) d (ρ' d)) (hpn : pn ∉ own.map (·.2)) (he : ∀ d m, d ∈ ds → m + cost ≤ n + ds.length * cost → Efb X scope (ρ' d) (penMo pn m) elt (Rel d) (penMo pn (m + cost))) (hl : ds.length < 100000)
    {S : Addr → Prop} {I0 H0 I H : Hp} {σ : L2.St} {α : Nat → Addr} (F : Fr S I0 H0 I H σ ρ (penMo pn n) α) (Q : VK) (k : ∀ v d I' H', Fr S I0 H0 I' H' σ ρ (penMo pn (n + ds.length * cost)) α → Ex I I' → Rp I' v d → (∃ es, d = .list es ∧ AllR Rel ds es) → Q v H') : tLc (WI X tg iter) g tYes (WEb X scope elt) (own.map (·.2)) σ H Q := by
  refine it I σ H F.e F.v _ fun J I1 H1 n1 ok1 D hD => ?_
  have F1 := F.step n1
  obtain ⟨hsl, hm1, hi1, _, _⟩ := F1.m pn _ penMo_same
  have hD0 : I1 D = none := fresh_back n1.j hD
  have hDp : D ≠ α pn := fun z => by
    obtain ⟨c, cs, e, _⟩ := hm1
    rw [← z, hD] at e
    cases e
  have hsw : (L2.wipe σ (own.map (·.2)))[pn]? = some (some (.ref (α pn))) := by
    rw [wipe_get, if_neg fun z => hpn z.1]
    exact hsl
  refine ⟨fun i m H' => m = ds.length - i ∧ i ≤ ds.length ∧ ∃ I2 acc es, Nx (fun b => b = α pn) I1 H1 I2 H' ∧ MdAt I2 H' (α pn) (.pen (n + i * cost)) ∧ I2 (α pn) = none ∧ I2 D = none ∧ H' D = some (.lst acc) ∧ RpAll I2 acc es ∧ AllR Rel (ds.take i) es, ⟨ds.length, rfl, Nat.zero_le _, I1, [], [], ?_⟩, ?_⟩
  · refine ⟨(Nw.own (o := .lst []) n1.j hD).nx, ?_, hi1, hD0, upd_same, .nil, .nil⟩
    rw [Nat.zero_mul]
    exact (hm1.keep hi1 (Nw.own (o := .lst []) n1.j hD)).1
  · rintro i m H2 ⟨rfl, hi, I2, acc, es, x2, m2, z2, d2, a2, r2, q2⟩
    by_cases hlt : i < ds.length
    · refine .inr ⟨ok1.go i I2 H2 x2.i x2.j trivial hlt, fun H' => ∃ I2 acc es, Nx (fun b => b = α pn) I1 H1 I2 H' ∧ MdAt I2 H' (α pn) (.pen (n + (i + 1) * cost)) ∧ I2 (α pn) = none ∧ I2 D = none ∧ H' D = some (.lst acc) ∧ RpAll I2 acc es ∧ AllR Rel (ds.take (i + 1)) es,
        fun H' p' => ⟨ds.length - (i + 1), by omega, rfl, hlt, p'⟩, fun x H3 y => ?_⟩
      obtain ⟨I3, d, n3, hd, rd⟩ := ok1.yld i I2 H2 x H3 x2.i x2.j trivial hlt y
      have hmem : d ∈ ds := List.mem_of_getElem? hd
      refine (gt d hmem).run I3 (L2.wipe σ (own.map (·.2))) H3 x n3.j (((F.v.up n1.i).up (x2.i.trans n3.i)).wipe _) rd _ ?_
      intro σ2 vs2 ag hl2
      refine ⟨wipe_same ag hl2, ?_⟩
      have D3 := n3.keep a2 d2
      have P3 := m2.keep z2 n3
      unfold tYes
      dsimp only
      rw [if_pos rfl]
      intro s0 H0' C cl fp
      have hle : n + i * cost + cost ≤ n + ds.length * cost := by
        have : (i + 1) * cost ≤ ds.length * cost := Nat.mul_le_mul_right _ hlt
        rw [Nat.succ_mul] at this
        omega
      have G := fr_pen (ρ := ρ' d) (pn := pn) n3.j vs2 (by rw [ag pn hpn]; exact hsw) P3.1 P3.2
      refine he d (n + i * cost) hmem hle s0 H0' C cl fp _ I3 H3 I3 H3 σ2 _ G _ fun v5 e5 I5 H5 G5 x5 r5 rel5 => ?_
      have D5h : H5 D = some (.lst acc) := G5.x.h D _ hDp D3.1
      have D5i : I5 D = none := G5.x.k D D3.2 ⟨_, D3.1, by intro _ w; cases w⟩
      obtain ⟨_, p5, i5, _, _⟩ := G5.m pn _ penMo_same
      have hlen : acc.length < sizeLine := by
        rw [r2.length, q2.length, List.length_take]
        exact sz_lt (by omega)
      refine ⟨acc, D5h, hlen, I5, acc ++ [v5], es ++ [e5], ?_, ?_, i5, D5i, upd_same, (r2.up (n3.i.trans x5)).snoc r5, ?_⟩
      · have x35 := (x2.trans n3.nx).trans G5.x
        refine ⟨x35.i, ex_mut x35.j D5i, fun a o ns e => ?_, fun a e => ?_, fun a e => ?_, x35.k⟩
        · have ha : a ≠ D := fun w => by rw [w, hD] at e; cases e
          rw [upd_ne ha]
          exact x35.h a o ns e
        · have ha : a ≠ D := fun w => e (by rw [w]; exact hD)
          rw [upd_ne ha]
          exact x35.s a e
        · have ha : a ≠ D := e.ne hD
          obtain ⟨o, w, t⟩ := x35.t a e
          exact ⟨o, by rw [upd_ne ha]; exact w, t⟩
      · obtain ⟨c, cs, u, w⟩ := p5
        rw [Nat.succ_mul, ← Nat.add_assoc]
        exact ⟨c, cs, by rw [upd_ne hDp.symm]; exact u, w⟩
      · rw [List.take_add_one, hd]
        exact q2.snoc rel5
    · have e : i = ds.length := by omega
      subst e
      rw [List.take_length] at q2
      have nw : Nx (fun b => b = α pn) I1 H1 (upd I2 D (.lst acc)) H2 := by
        refine ⟨x2.i.trans (Ex.new d2), fun a o q => ?_, x2.h, x2.s, x2.t, fun a e z => ?_⟩
        · by_cases h : a = D
          · subst h; rw [upd_same] at q; rw [a2]; exact q
          · rw [upd_ne h] at q; exact x2.j a o q
        · rw [upd_ne (z.ne hD)]
          exact x2.k a e z
      refine .inl ⟨ok1.stop I2 H2 x2.i x2.j trivial, ?_⟩
      have F2 := F1.drawn (m := n + ds.length * cost) penMo_same nw ?_ (by rw [upd_ne hDp.symm]; exact z2)
      · rw [penMo_mu] at F2
        exact k _ _ _ H2 F2 (n1.i.trans nw.i) (.lst upd_same (r2.up (Ex.new d2))) ⟨es, rfl, q2⟩
      · obtain ⟨c, cs, u, w⟩ := m2
        exact ⟨c, cs, u, Ex.new d2 _ _ w⟩
theorem bk_setLcF {i : Nat} {y : Str} {py spos : Pos} {rest : List Stmt} {N : Ro → Mo → Prop} {R : PyData → Mo → Prop} (hc : X.calm = true) (hN : X.N.Nodup) (hy : X.N[i]? = some y) (hyl : X.env.scope.names.lookup y = some .local) (hsw : swapsWith (.ListComp elt [⟨tg, iter, [], 0⟩] scope pos) (some (.Name y py)) spos.line X.env = pure true)
    (ok : BlkOk X.N X.env.scope scope own) (hg : PGb X scope tg g) (it : IT X ρ tg iter ds)
    (gt : ∀ d, d ∈ ds → Gt g (own.map (·.2)) (wipeR ρ (own.map (·.2))) d (ρ' d)) (hpn : pn ∉ own.map (·.2)) (he : ∀ d m, d ∈ ds → m + cost ≤ n + ds.length * cost → Efb X scope (ρ' d) (penMo pn m) elt (Rel d) (penMo pn (m + cost))) (hl : ds.length < 100000)
    (k : ∀ es, AllR Rel ds es → Bk X (ρ.set i (some (.list es))) (mu (penMo pn (n + ds.length * cost)) i none) rest N R) (hs : ∀ x, foldedSetIterable iter X.env x = pure x := by intro _; rfl) : Bk X ρ (penMo pn n) (.Assign [.Name y py] (.ListComp elt [⟨tg, iter, [], 0⟩] scope pos) spos :: rest) N R := fun S I0 H0 I H σ α D G qn qr =>
  ws_cons (ps_setLc (wi := WI X tg iter) (g := g) (tt := tYes) (te := WEb X scope elt) hc hN hy hyl hsw pi_wi ok hg (fun s H C cl fp => pts_nil) (fun s H C cl fp => ⟨fun pins s' σ H' Q I h => h s H C cl fp pins s' I⟩) hs)
    (tlcF it gt hpn he hl G _ fun v d I1 H1 F1 e1 r1 ⟨es, e, h⟩ => by
      subst e
      exact k es h S I0 H0 I1 H1 _ α D (F1.set r1) qn qr)
end
end R1

set_option Elab.async false
set_option linter.all false
set_option maxRecDepth 100000
set_option maxHeartbeats 4000000
/-! K12W19: the law: numbers, what all adds up to. -/
namespace R1
open PySem PySem.Spec PyProof.Rows L2 Evl
def ffF (c : Int) (q : Int × Int) : Int := c * ff q.1 q.2.toNat
theorem ffF_fold : ∀ (xs ks : List Int) (c : Int), (xs.zip ks).foldl ffF c = c * ffr xs ks
  | [], [], c => by show c = c * 1; rw [Int.mul_one]
  | [], _ :: _, c => by show c = c * 1; rw [Int.mul_one]
  | _ :: _, [], c => by show c = c * 1; rw [Int.mul_one]
  | x :: xs, k :: ks, c => by
    show (xs.zip ks).foldl ffF (c * ff x k.toNat) = c * (ff x k.toNat * ffr xs ks)
    rw [ffF_fold xs ks, Int.mul_assoc]
theorem keys_fallD {p : List Tm} {q : List Int} (h : q ∈ (fallD p).map (·.1)) : ∃ t ∈ p, Bx q t.2 := by
  rcases keys_fallF p [] q h with h | h
  · exact nomatch h
  · exact h
theorem fall_keys {p : List Tm} {t : Tm} (h : t ∈ fall p) : ∃ t' ∈ p, Bx t.2 t'.2 := by
  have e : fall p = (srtP (keysN p)).map fun q => (kiGet (fallD p) q, q) := rfl
  rw [e] at h
  obtain ⟨q, hq, rfl⟩ := List.mem_map.mp h
  have hq2 := (srtP_perm _).mem_iff.mp hq
  unfold keysN at hq2
  obtain ⟨z, hz, rfl⟩ := List.mem_map.mp hq2
  exact keys_fallD (List.mem_map.mpr ⟨z, (List.mem_filter.mp hz).1, rfl⟩)
theorem fall_row {wd : Nat} {p : List Tm} (ok : Pok wd p) {t : Tm} (h : t ∈ fall p) : t.2.length = wd ∧ ∀ n ∈ t.2, 0 ≤ n ∧ n ≤ 6 := by
  obtain ⟨t', ht', hb⟩ := fall_keys h
  refine ⟨?_, hb.bd (ok.s t' ht').n⟩
  rw [hb.len]
  have := (ok.g.t t' ht').2.1
  omega
theorem fold_sum2 (p : List Tm) (xs : List Int) : p.foldl (fun a t => a + (xs.zip t.2).foldl ffF t.1) 0 = (p.map fun t => t.1 * ffr xs t.2).sum := by
  rw [fold_sum, Int.zero_add]
  congr 1
  exact List.map_congr_left fun t _ => ffF_fold _ _ _
section
variable {P : Program} {w : World} {K : PySem.W.Frag} {mg : Str → Option Value} {base : Heap} {k : Nat}
variable {f : Addr} {cdv : Value} {A : Around} {outer : List Env} {s : Shared} {H : Hp} {G : XK}
set_option maxHeartbeats 20000000 in
theorem turn_rest (F : LawFns P w K mg base) (B : LawBlt mg) (hr : Room 7 (lawX P w K mg base f cdv A outer s H G).A) {n j wd : Nat} {p : List Tm} (ok : Pok wd p) (hn : n + 50 ≤ 1048576) {N : Ro → Mo → Prop}
    (next : N ρ0 (PM (n + 10))) :
    Bk (lawX P w K mg base f cdv A outer s H G) (ρT j wd p) (PM n) (turnBody.drop 10) N Rlaw := by
  have hu : (lawX P w K mg base f cdv A outer s H G).A.units + 64 < cLine := hr.units
  have hw := ok.w
  have hl : (upto 0 ((wd : Int)).toNat).length = wd := by rw [upto_len]; omega
  refine bk_setLcF (i := 14) (pn := 1) (cost := 1) (n := n) (own := [("at", 22)]) (g := gName 22) (ds := upto 0 ((wd : Int)).toNat) (Rel := fun _ e => ∃ x : Int, e = .int x ∧ -(10 ^ 12) ≤ x ∧ x ≤ 10 ^ 12) (ρ' := fun d => (wipeR (ρT j wd p) [22]).set 22 (some d)) rfl sc40.nd rfl rfl (sw_true rfl rfl rfl (by decide +kernel)) (blkOk_by (own := [("at", 22)]) (N := lawN) (sc := defScope (topS 40)) (by decide +kernel)) (fun _ _ _ _ _ => pg_name (i := 22) sc40.nd rfl (Or.inl rfl)) (it_range1 (by rfl) B.range (e_name 3 rfl (.inl rfl) rfl)) (fun d _ => gt_name (by simp)) (by decide) (fun d m hd hm => ?_) (by rw [hl]; omega) fun es hes => ?_
  · rw [hl] at hm
    intro s0 H0 C cl fp
    have e2 : mu (penMo 1 m) 1 (some (.pen (m + 1))) = penMo 1 (m + 1) := penMo_mu
    rw [← e2]
    refine ef_mono (ef_draw (i := 1) (n := m) F.pick (hr.mono (by decide)) (by rfl) penMo_same rfl (.inr (.inl rfl)) (by show m + 1 ≤ 1048576; omega) (as_cons (e_lst (x1 := 0) (as_cons e_int (as_cons e_int (as_cons e_int (as_cons e_int (as_cons (e_neg e_int) (as_cons (e_neg e_int) (as_cons e_int (as_cons (e_pow e_int e_int ⟨by decide, by decide, by decide⟩) as_nil)))))))) (by show 8 ≤ 100000; decide)) as_nil) ⟨_, rfl, by show 1 ≤ 8; decide, by show 8 ≤ 1000; decide⟩) fun d hd => ?_
    obtain ⟨es, e, hm⟩ := hd
    injection e with e
    injection e with e
    subst e
    simp only [List.mem_cons, List.not_mem_nil, or_false] at hm
    rcases hm with rfl | rfl | rfl | rfl | rfl | rfl | rfl | rfl <;> exact ⟨_, rfl, by decide, by decide⟩
  · have go : ∀ (ds es : List PyData), AllR (fun _ e => ∃ x : Int, e = .int x ∧ -(10 ^ 12) ≤ x ∧ x ≤ 10 ^ 12) ds es → ∃ xs : List Int, es = xs.map .int ∧ xs.length = ds.length ∧ ∀ x ∈ xs, -(10 ^ 12) ≤ x ∧ x ≤ 10 ^ 12 := by
      intro ds
      induction ds with
      | nil => intro es h; cases h; exact ⟨[], rfl, rfl, fun _ h => nomatch h⟩
      | cons d ds ih =>
        intro es h
        cases h with
        | cons a b =>
          obtain ⟨x, rfl, h1, h2⟩ := a
          obtain ⟨xs, rfl, h3, h4⟩ := ih _ b
          exact ⟨x :: xs, rfl, by rw [List.length_cons, List.length_cons, h3], fun y hy => by
            rcases List.mem_cons.mp hy with rfl | hy
            · exact ⟨h1, h2⟩
            · exact h4 y hy⟩
    obtain ⟨xs, rfl, hxl, hxb⟩ := go _ _ hes
    rw [hl] at hxl ⊢
    rw [Nat.mul_one, pm_set (by decide)]
    have e12 : (10 : Int) ^ 12 = 1000000000000 := by decide
    rw [e12] at hxb
    refine bk_raise (i := 1) (m := n + 10) pm_at (by omega) ?_
    rw [pm_draw]
    refine bk_set (i := 15) sc40.nd rfl (.inl rfl) (ef_e e_int) fun d hd => ?_
    subst hd
    rw [pm_set (by decide)]
    refine bk_for (ts := [16, 10]) (fun i ρ μ => ρ = ((ρT j wd p).set 14 (some (.list (xs.map .int)))).set 15 (some (.int (((fall p).take i).foldl (fun a t => a + (xs.zip t.2).foldl ffF t.1) 0))) ∧ μ = PM (n + 10)) PassesOwn.never rfl
      (pg_tup rfl (pgs_cons (pg_name (i := 16) sc40.nd rfl (Or.inl rfl)) (pgs_cons (pg_name (i := 10) sc40.nd rfl (Or.inl rfl)) pgs_nil))) (it_tup (e_name 5 rfl (.inl rfl) rfl)) ⟨rfl, rfl⟩ (fun i d ρi μi hd hI => ?_) fun ρ' μ' hI => ?_
    · obtain ⟨rfl, rfl⟩ := hI
      obtain ⟨t, ht, rfl⟩ := get_map hd
      obtain ⟨htl, htb⟩ := fall_row ok (List.mem_of_getElem? ht)
      refine ⟨_, gt_tup2 (by simp) (by simp), fun t ht => pm_none (by simp at ht; omega), ?_⟩
      refine bk_set (i := 17) sc40.nd rfl (.inl rfl) (ef_e (e_name 16 rfl (.inl rfl) rfl)) fun d hd => ?_
      subst hd
      rw [pm_set (by decide)]
      refine bk_for (ts := [18, 13]) (fun c ρ μ => ρ = ((((((ρT j wd p).set 14 (some (.list (xs.map .int)))).set 15 (some (.int (((fall p).take i).foldl (fun a t => a + (xs.zip t.2).foldl ffF t.1) 0)))).set 16 (some (.int t.1))).set 10 (some (pwD t.2))).set 17 (some (.int (((xs.zip t.2).take c).foldl ffF t.1)))) ∧ μ = PM (n + 10)) PassesOwn.never rfl
        (pg_tup rfl (pgs_cons (pg_name (i := 18) sc40.nd rfl (Or.inl rfl)) (pgs_cons (pg_name (i := 13) sc40.nd rfl (Or.inl rfl)) pgs_nil))) (it_zip (k := false) (l := true) (by rfl) B.zip (e_name 14 rfl (.inl rfl) rfl) (e_name 10 rfl (.inl rfl) rfl)) ⟨rfl, rfl⟩ (fun c d ρc μc hd hI => ?_) fun ρ' μ' hI => ?_
      · obtain ⟨rfl, rfl⟩ := hI
        rw [pairs_ints] at hd
        obtain ⟨q, hq, rfl⟩ := get_map hd
        have hqm : q ∈ xs.zip t.2 := List.mem_of_getElem? hq
        have hx := hxb q.1 (List.of_mem_zip hqm).1
        have hn6 := htb q.2 (List.of_mem_zip hqm).2
        refine ⟨_, gt_tup2 (by simp) (by simp), fun t ht => pm_none (by simp at ht; omega), ?_⟩
        refine bk_for (ts := [19]) (fun m ρ μ => ρ = ((((((((ρT j wd p).set 14 (some (.list (xs.map .int)))).set 15 (some (.int (((fall p).take i).foldl (fun a t => a + (xs.zip t.2).foldl ffF t.1) 0)))).set 16 (some (.int t.1))).set 10 (some (pwD t.2))).set 17 (some (.int (((xs.zip t.2).take c).foldl ffF t.1 * ff q.1 m)))).set 18 (some (.int q.1))).set 13 (some (.int q.2))) ∧ μ = PM (n + 10)) PassesOwn.never rfl
          (pg_name (i := 19) sc40.nd rfl (Or.inl rfl)) (it_range1 (by rfl) B.range (e_name 13 rfl (.inl rfl) rfl) (by omega) (by omega)) ⟨by show _ = ((((((((ρT j wd p).set 14 (some (.list (xs.map .int)))).set 15 _).set 16 _).set 10 _).set 17 (some (.int (_ * 1)))).set 18 _).set 13 _); rw [Int.mul_one], rfl⟩ (fun m d ρm μm hd hI => ?_) fun ρ' μ' hI => ?_
        · obtain ⟨rfl, rfl⟩ := hI
          have hm : m < q.2.toNat := by
            have := (List.getElem?_eq_some_iff.mp hd).1
            rwa [upto_len] at this
          rw [upto_get hm] at hd
          injection hd with hd
          subst hd
          refine ⟨_, gt_name (by simp), fun t ht => pm_none (by simp at ht; omega), ?_⟩
          refine bk_set (i := 17) sc40.nd rfl (.inl rfl) (ef_e (e_mul (e_name 17 rfl (.inl rfl) rfl) (e_sub (e_name 18 rfl (.inl rfl) rfl) (e_name 19 rfl (.inl rfl) rfl)) (.inr ⟨by omega, by omega⟩))) fun d hd => ?_
          subst hd
          rw [pm_set (by decide)]
          refine bk_forget (ρ' := ((((((((ρT j wd p).set 14 (some (.list (xs.map .int)))).set 15 (some (.int (((fall p).take i).foldl (fun a t => a + (xs.zip t.2).foldl ffF t.1) 0)))).set 16 (some (.int t.1))).set 10 (some (pwD t.2))).set 17 (some (.int (((xs.zip t.2).take c).foldl ffF t.1 * ff q.1 m * (q.1 - (0 + (m : Int))))))).set 18 (some (.int q.1))).set 13 (some (.int q.2)))) (by repeat (first | exact .nil | refine .keep ?_ | refine .drop ?_)) (bk_nil ⟨?_, rfl⟩)
          show _ = ((((((((ρT j wd p).set 14 (some (.list (xs.map .int)))).set 15 _).set 16 _).set 10 _).set 17 (some (.int (_ * (ff q.1 m * (q.1 - (m : Int))))))).set 18 _).set 13 _)
          rw [Int.zero_add, Int.mul_assoc]
        · obtain ⟨rfl, rfl⟩ := hI
          refine bk_forget (ρ' := ((((((ρT j wd p).set 14 (some (.list (xs.map .int)))).set 15 (some (.int (((fall p).take i).foldl (fun a t => a + (xs.zip t.2).foldl ffF t.1) 0)))).set 16 (some (.int t.1))).set 10 (some (pwD t.2))).set 17 (some (.int (((xs.zip t.2).take c).foldl ffF t.1 * ff q.1 (upto 0 q.2.toNat).length))))) (by repeat (first | exact .nil | refine .keep ?_ | refine .drop ?_)) (bk_nil ⟨?_, rfl⟩)
          rw [foldl_take ffF t.1 hq, upto_len]
          rfl
      · obtain ⟨rfl, rfl⟩ := hI
        refine bk_set (i := 15) sc40.nd rfl (.inl rfl) (ef_e (e_add (e_name 15 rfl (.inl rfl) rfl) (e_name 17 rfl (.inl rfl) rfl))) fun d hd => ?_
        subst hd
        rw [pm_set (by decide)]
        refine bk_forget (ρ' := ((ρT j wd p).set 14 (some (.list (xs.map .int)))).set 15 (some (.int (((fall p).take i).foldl (fun a t => a + (xs.zip t.2).foldl ffF t.1) 0 + ((xs.zip t.2).take (pairs (xs.map .int) (t.2.map .int)).length).foldl ffF t.1)))) (by repeat (first | exact .nil | refine .keep ?_ | refine .drop ?_)) (bk_nil ⟨?_, rfl⟩)
        rw [foldl_take (fun a t => a + (xs.zip t.2).foldl ffF t.1) 0 ht, pairs_ints, List.length_map, List.take_length]
    · obtain ⟨rfl, rfl⟩ := hI
      have et : ((fall p).take ((fall p).map tmD).length).foldl (fun a t => a + (xs.zip t.2).foldl ffF t.1) 0 = worth p xs := by
        rw [List.length_map, List.take_length, fold_sum2]
        exact fall_worth p xs fun t ht => ⟨by have := (ok.g.t t ht).2.1; omega, (ok.s t ht).n⟩
      rw [et]
      have hxw : (xs.length : Int) = (wd : Int) := by omega
      have hx18 : ∀ x ∈ xs, -(10 ^ 18) ≤ x ∧ x ≤ 10 ^ 18 := fun x hx => by
        have := hxb x hx
        have e18 : (10 : Int) ^ 18 = 1000000000000000000 := by decide
        rw [e18]
        omega
      have e1 : ∀ (a : Int), (!decide (a = a)) = false := fun a => by rw [decide_eq_true rfl]; rfl
      refine bk_if1 (B := fun z => z = false) (tf_t ((
        tw_or (k := false) (l := false) (((t_neI (e_name 15 rfl (.inl rfl) rfl) (e_call F.worth (hr.mono (by decide)) (by rfl) (as_cons (e_name 4 rfl (.inr (.inl rfl)) rfl) (as_cons (e_name 14 rfl (.inl rfl) rfl) as_nil)) ⟨p, false, xs, rfl, fun x hx => by have := hxb x hx; exact ⟨by omega, by omega⟩, fun t ht m hm => by have := (ok.s t ht).n m hm; omega, rfl⟩))).eq (e1 _)) fun _ =>
        tw_or (k := false) (l := false) ((t_neI (e_call F.whole hr (by rfl) (as_cons (e_name 3 rfl (.inl rfl) rfl) (as_cons (e_name 4 rfl (.inr (.inl rfl)) rfl) (as_cons (e_name 14 rfl (.inl rfl) rfl) as_nil))) ⟨(wd : Int), p, true, p.map tmD, false, xs, rfl, tms_pol p, ok.g, hxw, hx18, rfl⟩) (e_name 15 rfl (.inl rfl) rfl)).eq (e1 _)) fun _ =>
        tw_or1 ((t_neI (e_callKw3 F.dwhole F.whole hr (by rfl) rfl (fun _ _ _ _ _ _ _ _ _ => rfl) (e_name 4 rfl (.inr (.inl rfl)) rfl) (e_tupOf (k := false) (by rfl) B.tuple (e_name 14 rfl (.inl rfl) rfl)) (e_name 3 rfl (.inl rfl) rfl) ⟨(wd : Int), p, true, p.map tmD, true, xs, rfl, tms_pol p, ok.g, hxw, hx18, rfl⟩) (e_name 15 rfl (.inl rfl) rfl)).eq (e1 _))).t)) (fun z => nomatch z) fun _ => ?_
      refine bk_forget (ρ' := ρ0) (by repeat (first | exact .nil | refine .keep ?_ | refine .drop ?_)) (bk_nil next)
end
end R1

set_option Elab.async false
set_option linter.all false
set_option maxRecDepth 100000
set_option maxHeartbeats 4000000
/-! K12W20: the law. -/
namespace R1
open PySem PySem.Spec PyProof.Rows L2 Evl
theorem fall_nil : fall [] = [] := by
  have e := (srtP_eq (ps := keysN []) (ns := []) (by decide) (by decide)).symm
  have e2 : fall [] = (srtP (keysN [])).map fun q => (kiGet (fallD []) q, q) := rfl
  rw [e2, e]
  rfl
theorem fall_three : fall [(1, [3])] = [(1, [3]), (3, [2]), (1, [1])] := by
  have e := (srtP_eq (ps := keysN [(1, [3])]) (ns := [[3], [2], [1]]) (by decide +kernel) (by decide +kernel)).symm
  have e2 : fall [(1, [3])] = (srtP (keysN [(1, [3])])).map fun q => (kiGet (fallD [(1, [3])]) q, q) := rfl
  rw [e2, e]
  decide +kernel
theorem good_nil : Good 0 [] := ⟨fun _ h => (nomatch h), .nil, by decide, by decide, by decide⟩
theorem good_three : Good 1 [(1, [3])] := ⟨fun t h => by
  rw [List.mem_singleton.mp h]
  exact ⟨by decide, rfl, fun x hx => by rw [List.mem_singleton.mp hx]; decide⟩, List.pairwise_singleton _ _, by decide, by decide, by decide⟩
section
variable {P : Program} {w : World} {K : PySem.W.Frag} {mg : Str → Option Value} {base : Heap} {k : Nat}
theorem fn_law (D : Dfn K mg "law" (topS 40)) (F : LawFns P w K mg base) (B : LawBlt mg) : Fn P w K mg base "law" 8 ["script"] (spLaw K) :=
  fn_mk (k := 7) D sc40 (fun vs H Q E h => by obtain ⟨a, ns, rfl, _⟩ := h; rfl) (fun kV doc pm an cdv ct us hl => by
    match us, hl with
    | [a], _ => rfl) fun f cdv A outer s H G hr vs Q h => by
    obtain ⟨a, ns, rfl, hS, hl, q⟩ := h
    have hr' : Room 7 (lawX P w K mg base f cdv A outer s H G).A := hr
    have hu : (lawX P w K mg base f cdv A outer s H G).A.units + 64 < cLine := hr'.units
    refine ws_set (i := 1) sc40.nd rfl (.inr rfl) (we_call F.pen (hr'.mono (by decide)) (by rfl) (wa_of (pa_cons pe_we pa_nil rfl) (we_of (pe_var (i := 0) rfl (.inl rfl) (by decide) (by decide)) ⟨.ref a, rfl, a, ns, rfl, hS, hl, fun I1 H1 p c cs n1 hc hp => ?_⟩)))
    have hx : Ex I1 (upd H1 p (.lst [.ref c, .int 0, .int 0])) := n1.j.trans (Ex.new hp)
    have hi : I1 p = none := fresh_back n1.j hp
    have F0 : Fr (fun a => a = p) I1 (upd H1 p (.lst [.ref c, .int 0, .int 0])) I1 (upd H1 p (.lst [.ref c, .int 0, .int 0])) ((L2.start lawN [V.ref a]).set 1 (some (.ref p))) ρ0 (fun j => if j = 1 then some (.opn [.list (cs.map .int), .int 0, .int 0]) else none) (fun _ => p) := by
      refine ⟨Nx.refl hx, ⟨rfl, fun i d e => ?_⟩, fun i md e => ?_, fun i j a b _ => ?_⟩
      · exfalso
        have : ∀ (l : List (Option PyData)) (i : Nat), (∀ x ∈ l, x = none) → l[i]? ≠ some (some d) := fun l i h z => by
          have := h _ (List.mem_of_getElem? z)
          cases this
        exact this ρ0 i (by simp) e
      · by_cases h1 : i = 1
        · subst h1
          rw [if_pos rfl] at e
          cases e
          exact ⟨rfl, ⟨_, upd_same, .cons (.lst hc (rpAll_ints cs)) (.cons (.int _) (.cons (.int _) .nil))⟩, hi, fun z => (nomatch z), fun _ => rfl⟩
        · rw [if_neg h1] at e
          cases e
      · by_cases h1 : i = 1
        · by_cases h2 : j = 1
          · rw [h1, h2]
          · exact absurd (if_neg h2) b
        · exact absurd (if_neg h1) a
    have hb : Bk (lawX P w K mg base f cdv A outer s H G) ρ0 (fun j => if j = 1 then some (.opn [.list (cs.map .int), .int 0, .int 0]) else none) (lawBody.drop 1) (fun _ _ => False) Rlaw := by
      refine bk_close (i := 1) (n := 0) (if_pos rfl) (by decide) (by decide) ?_
      have e0 : mu (fun j => if j = 1 then some (MD.opn [.list (cs.map .int), .int 0, .int 0]) else none) 1 (some (.pen 0)) = PM 0 := mo_eq mu_same fun i h => by
        rw [mu_ne h]
        exact if_neg h
      rw [e0]
      refine bk_for (ts := [2]) (fun j ρ μ => ρ = ρ0 ∧ μ = PM (210 * j)) PassesOwn.never rfl (pg_name (i := 2) sc40.nd rfl (Or.inl rfl)) (it_range1 (n := 4) (by rfl) B.range e_int) ⟨rfl, rfl⟩ (fun j d ρj μj hd hI => ?_) fun ρ' μ' hI => ?_
      · obtain ⟨rfl, rfl⟩ := hI
        have hj : j < 4 := by
          have := (List.getElem?_eq_some_iff.mp hd).1
          rwa [upto_len] at this
        rw [upto_get (by exact hj)] at hd
        injection hd with hd
        subst hd
        refine ⟨_, gt_name (by simp), fun t ht => pm_none (by simp at ht; omega), ?_⟩
        exact turn_draw F B hr' (n := 210 * j) (by omega) fun wd p ok => turn_told F B hr' ok (by omega) (turn_rows F B hr' ok (turn_due F B hr' ok (turn_rest F B hr' ok (by omega) ⟨rfl, by rw [Nat.mul_succ]⟩)))
      · obtain ⟨rfl, rfl⟩ := hI
        refine bk_ret (ef_e (e_and (k := true) (l := true) ?_ fun _ => e_one ?_)) fun d hd => hd
        · refine (e_eqD (d := polD (fall [])) hu ?_ (e_tup as_nil (by show 0 ≤ 100000; decide)) (shaped_polD _) rfl).eq (by rw [fall_nil]; rfl)
          exact e_call F.falling hr' (by rfl) (as_cons e_int (as_cons (e_tup as_nil (by show 0 ≤ 100000; decide)) as_nil)) ⟨0, [], true, [], rfl, .nil, good_nil, fun _ h => (nomatch h), by decide, rfl⟩
        · refine (e_eqD (d := polD (fall [(1, [3])])) (d' := polD [(1, [3]), (3, [2]), (1, [1])]) hu ?_ ?_ (shaped_polD _) (shaped_polD _)).eq (by rw [fall_three, eqv_polD])
          · exact e_call F.falling hr' (by rfl) (as_cons e_int (as_cons (e_lst (x1 := 0) (as_cons (e_tup (as_cons e_int (as_cons (e_lst (x1 := 0) (as_cons e_int as_nil) (by show 1 ≤ 100000; decide)) as_nil)) (by show 2 ≤ 100000; decide)) as_nil) (by show 1 ≤ 100000; decide)) as_nil)) ⟨1, [(1, [3])], false, [.tuple [.int 1, .list [.int 3]]], rfl, .cons ⟨true, false, rfl⟩ .nil, good_three, fun t h => by rw [List.mem_singleton.mp h]; exact ⟨by decide, fun x hx => by rw [List.mem_singleton.mp hx]; decide⟩, by decide, rfl⟩
          · exact e_tup (as_cons (e_tup (as_cons e_int (as_cons (e_tup (as_cons e_int as_nil) (by show 1 ≤ 100000; decide)) as_nil)) (by show 2 ≤ 100000; decide)) (as_cons (e_tup (as_cons e_int (as_cons (e_tup (as_cons e_int as_nil) (by show 1 ≤ 100000; decide)) as_nil)) (by show 2 ≤ 100000; decide)) (as_cons (e_tup (as_cons e_int (as_cons (e_tup (as_cons e_int as_nil) (by show 1 ≤ 100000; decide)) as_nil)) (by show 2 ≤ 100000; decide)) as_nil))) (by show 3 ≤ 100000; decide)
    refine hb _ _ _ _ _ _ _ _ F0 (fun _ _ _ _ _ _ _ z => z.elim) fun v d I' H' σ' ρ' μ' α' F' r hd => ?_
    have hd : d = .bool true := hd
    subst hd
    cases r
    exact q _
end
end R1

set_option Elab.async false
set_option linter.all false
set_option maxRecDepth 100000
set_option maxHeartbeats 4000000
/-! K12F: what the top has written; the law's own head. -/
namespace R1
open PySem PySem.Spec PyProof.Rows L2 Evl
theorem dfn_of {K : PySem.W.Frag} {h : Heap} {mg : Str → Option Value} (X : K.In h) (G : h.Ns mainGlobals mg) {x : Str} {st : Stmt} {f : Addr} {oc : Value} {od an : Option Addr} {osl : Array (Option Value)} {kV doc pm cdv ct : Value} (a : PySem.W.nsIn K mainGlobals x = some (some (.ref f))) (l : K.lookup f = some ⟨oc, od, .func (PySem.W.fnOf x x (defArgs st) (defBody st) (defScope st) .none kV doc pm an cdv ct), osl⟩) (c : PySem.W.codeIn K cdv x = true) (k : PySem.W.keepIn K (.ref f) = true) : Dfn K mg x st := ⟨f, _, PySem.W.mg_of X G a, fun_mk l c k⟩
theorem all_k12 {l : PySem.W.OpenLaw} {w : World} {K : PySem.W.Frag} {h : Heap} {mg : Str → Option Value} {fa : Addr} (X : K.In h) (G : h.Ns mainGlobals mg) (hfa : mg "law" = some (.ref fa))
    {f0 : Addr} {od0 an0 : Option Addr} {sl0 : Array (Option Value)} {oc0 kV0 dc0 pm0 cd0 ct0 : Value}
    (a0 : PySem.W.nsIn K mainGlobals "is_integer" = some (some (.ref f0))) (l0 : K.lookup f0 = some ⟨oc0, od0, .func (PySem.W.fnOf "is_integer" "is_integer" (defArgs (topS 2)) (defBody (topS 2)) (defScope (topS 2)) .none kV0 dc0 pm0 an0 cd0 ct0), sl0⟩) (c0 : PySem.W.codeIn K cd0 "is_integer" = true) (k0 : PySem.W.keepIn K (.ref f0) = true)
    {f1 : Addr} {od1 an1 : Option Addr} {sl1 : Array (Option Value)} {oc1 kV1 dc1 pm1 cd1 ct1 : Value}
    (a1 : PySem.W.nsIn K mainGlobals "is_within" = some (some (.ref f1))) (l1 : K.lookup f1 = some ⟨oc1, od1, .func (PySem.W.fnOf "is_within" "is_within" (defArgs (topS 3)) (defBody (topS 3)) (defScope (topS 3)) .none kV1 dc1 pm1 an1 cd1 ct1), sl1⟩) (c1 : PySem.W.codeIn K cd1 "is_within" = true) (k1 : PySem.W.keepIn K (.ref f1) = true)
    {f2 : Addr} {od2 an2 : Option Addr} {sl2 : Array (Option Value)} {oc2 kV2 dc2 pm2 cd2 ct2 : Value}
    (a2 : PySem.W.nsIn K mainGlobals "is_listed" = some (some (.ref f2))) (l2 : K.lookup f2 = some ⟨oc2, od2, .func (PySem.W.fnOf "is_listed" "is_listed" (defArgs (topS 4)) (defBody (topS 4)) (defScope (topS 4)) .none kV2 dc2 pm2 an2 cd2 ct2), sl2⟩) (c2 : PySem.W.codeIn K cd2 "is_listed" = true) (k2 : PySem.W.keepIn K (.ref f2) = true)
    {f3 : Addr} {od3 an3 : Option Addr} {sl3 : Array (Option Value)} {oc3 kV3 dc3 pm3 cd3 ct3 : Value}
    (a3 : PySem.W.nsIn K mainGlobals "is_row" = some (some (.ref f3))) (l3 : K.lookup f3 = some ⟨oc3, od3, .func (PySem.W.fnOf "is_row" "is_row" (defArgs (topS 5)) (defBody (topS 5)) (defScope (topS 5)) .none kV3 dc3 pm3 an3 cd3 ct3), sl3⟩) (c3 : PySem.W.codeIn K cd3 "is_row" = true) (k3 : PySem.W.keepIn K (.ref f3) = true)
    {f4 : Addr} {od4 an4 : Option Addr} {sl4 : Array (Option Value)} {oc4 kV4 dc4 pm4 cd4 ct4 : Value}
    (a4 : PySem.W.nsIn K mainGlobals "is_numbers" = some (some (.ref f4))) (l4 : K.lookup f4 = some ⟨oc4, od4, .func (PySem.W.fnOf "is_numbers" "is_numbers" (defArgs (topS 6)) (defBody (topS 6)) (defScope (topS 6)) .none kV4 dc4 pm4 an4 cd4 ct4), sl4⟩) (c4 : PySem.W.codeIn K cd4 "is_numbers" = true) (k4 : PySem.W.keepIn K (.ref f4) = true)
    {f5 : Addr} {od5 an5 : Option Addr} {sl5 : Array (Option Value)} {oc5 kV5 dc5 pm5 cd5 ct5 : Value}
    (a5 : PySem.W.nsIn K mainGlobals "rank_of" = some (some (.ref f5))) (l5 : K.lookup f5 = some ⟨oc5, od5, .func (PySem.W.fnOf "rank_of" "rank_of" (defArgs (topS 14)) (defBody (topS 14)) (defScope (topS 14)) .none kV5 dc5 pm5 an5 cd5 ct5), sl5⟩) (c5 : PySem.W.codeIn K cd5 "rank_of" = true) (k5 : PySem.W.keepIn K (.ref f5) = true)
    {f6 : Addr} {od6 an6 : Option Addr} {sl6 : Array (Option Value)} {oc6 kV6 dc6 pm6 cd6 ct6 : Value}
    (a6 : PySem.W.nsIn K mainGlobals "is_powers" = some (some (.ref f6))) (l6 : K.lookup f6 = some ⟨oc6, od6, .func (PySem.W.fnOf "is_powers" "is_powers" (defArgs (topS 15)) (defBody (topS 15)) (defScope (topS 15)) .none kV6 dc6 pm6 an6 cd6 ct6), sl6⟩) (c6 : PySem.W.codeIn K cd6 "is_powers" = true) (k6 : PySem.W.keepIn K (.ref f6) = true)
    {f7 : Addr} {od7 an7 : Option Addr} {sl7 : Array (Option Value)} {oc7 kV7 dc7 pm7 cd7 ct7 : Value}
    (a7 : PySem.W.nsIn K mainGlobals "is_term" = some (some (.ref f7))) (l7 : K.lookup f7 = some ⟨oc7, od7, .func (PySem.W.fnOf "is_term" "is_term" (defArgs (topS 16)) (defBody (topS 16)) (defScope (topS 16)) .none kV7 dc7 pm7 an7 cd7 ct7), sl7⟩) (c7 : PySem.W.codeIn K cd7 "is_term" = true) (k7 : PySem.W.keepIn K (.ref f7) = true)
    {f8 : Addr} {od8 an8 : Option Addr} {sl8 : Array (Option Value)} {oc8 kV8 dc8 pm8 cd8 ct8 : Value}
    (a8 : PySem.W.nsIn K mainGlobals "is_poly" = some (some (.ref f8))) (l8 : K.lookup f8 = some ⟨oc8, od8, .func (PySem.W.fnOf "is_poly" "is_poly" (defArgs (topS 17)) (defBody (topS 17)) (defScope (topS 17)) .none kV8 dc8 pm8 an8 cd8 ct8), sl8⟩) (c8 : PySem.W.codeIn K cd8 "is_poly" = true) (k8 : PySem.W.keepIn K (.ref f8) = true)
    {f9 : Addr} {od9 an9 : Option Addr} {sl9 : Array (Option Value)} {oc9 kV9 dc9 pm9 cd9 ct9 : Value}
    (a9 : PySem.W.nsIn K mainGlobals "as_poly" = some (some (.ref f9))) (l9 : K.lookup f9 = some ⟨oc9, od9, .func (PySem.W.fnOf "as_poly" "as_poly" (defArgs (topS 18)) (defBody (topS 18)) (defScope (topS 18)) .none kV9 dc9 pm9 an9 cd9 ct9), sl9⟩) (c9 : PySem.W.codeIn K cd9 "as_poly" = true) (k9 : PySem.W.keepIn K (.ref f9) = true)
    {f10 : Addr} {od10 an10 : Option Addr} {sl10 : Array (Option Value)} {oc10 kV10 dc10 pm10 cd10 ct10 : Value}
    (a10 : PySem.W.nsIn K mainGlobals "need_polys" = some (some (.ref f10))) (l10 : K.lookup f10 = some ⟨oc10, od10, .func (PySem.W.fnOf "need_polys" "need_polys" (defArgs (topS 19)) (defBody (topS 19)) (defScope (topS 19)) .none kV10 dc10 pm10 an10 cd10 ct10), sl10⟩) (c10 : PySem.W.codeIn K cd10 "need_polys" = true) (k10 : PySem.W.keepIn K (.ref f10) = true)
    {f11 : Addr} {od11 an11 : Option Addr} {sl11 : Array (Option Value)} {oc11 kV11 dc11 pm11 cd11 ct11 : Value}
    (a11 : PySem.W.nsIn K mainGlobals "need_width" = some (some (.ref f11))) (l11 : K.lookup f11 = some ⟨oc11, od11, .func (PySem.W.fnOf "need_width" "need_width" (defArgs (topS 20)) (defBody (topS 20)) (defScope (topS 20)) .none kV11 dc11 pm11 an11 cd11 ct11), sl11⟩) (c11 : PySem.W.codeIn K cd11 "need_width" = true) (k11 : PySem.W.keepIn K (.ref f11) = true)
    {f12 : Addr} {od12 an12 : Option Addr} {sl12 : Array (Option Value)} {oc12 kV12 dc12 pm12 cd12 ct12 : Value}
    (a12 : PySem.W.nsIn K mainGlobals "parts_of" = some (some (.ref f12))) (l12 : K.lookup f12 = some ⟨oc12, od12, .func (PySem.W.fnOf "parts_of" "parts_of" (defArgs (topS 22)) (defBody (topS 22)) (defScope (topS 22)) .none kV12 dc12 pm12 an12 cd12 ct12), sl12⟩) (c12 : PySem.W.codeIn K cd12 "parts_of" = true) (k12 : PySem.W.keepIn K (.ref f12) = true)
    {f13 : Addr} {od13 an13 : Option Addr} {sl13 : Array (Option Value)} {oc13 kV13 dc13 pm13 cd13 ct13 : Value}
    (a13 : PySem.W.nsIn K mainGlobals "falling_of" = some (some (.ref f13))) (l13 : K.lookup f13 = some ⟨oc13, od13, .func (PySem.W.fnOf "falling_of" "falling_of" (defArgs (topS 23)) (defBody (topS 23)) (defScope (topS 23)) .none kV13 dc13 pm13 an13 cd13 ct13), sl13⟩) (c13 : PySem.W.codeIn K cd13 "falling_of" = true) (k13 : PySem.W.keepIn K (.ref f13) = true)
    {f14 : Addr} {od14 an14 : Option Addr} {sl14 : Array (Option Value)} {oc14 kV14 dc14 pm14 cd14 ct14 : Value}
    (a14 : PySem.W.nsIn K mainGlobals "falling" = some (some (.ref f14))) (l14 : K.lookup f14 = some ⟨oc14, od14, .func (PySem.W.fnOf "falling" "falling" (defArgs (topS 24)) (defBody (topS 24)) (defScope (topS 24)) .none kV14 dc14 pm14 an14 cd14 ct14), sl14⟩) (c14 : PySem.W.codeIn K cd14 "falling" = true) (k14 : PySem.W.keepIn K (.ref f14) = true)
    {f15 : Addr} {od15 an15 : Option Addr} {sl15 : Array (Option Value)} {oc15 kV15 dc15 pm15 cd15 ct15 : Value}
    (a15 : PySem.W.nsIn K mainGlobals "whole_worth" = some (some (.ref f15))) (l15 : K.lookup f15 = some ⟨oc15, od15, .func (PySem.W.fnOf "whole_worth" "whole_worth" (defArgs (topS 25)) (defBody (topS 25)) (defScope (topS 25)) .none kV15 dc15 pm15 an15 cd15 ct15), sl15⟩) (c15 : PySem.W.codeIn K cd15 "whole_worth" = true) (k15 : PySem.W.keepIn K (.ref f15) = true)
    {f16 : Addr} {od16 an16 : Option Addr} {sl16 : Array (Option Value)} {oc16 kV16 dc16 pm16 cd16 ct16 : Value}
    (a16 : PySem.W.nsIn K mainGlobals "worth_at" = some (some (.ref f16))) (l16 : K.lookup f16 = some ⟨oc16, od16, .func (PySem.W.fnOf "worth_at" "worth_at" (defArgs (topS 26)) (defBody (topS 26)) (defScope (topS 26)) .none kV16 dc16 pm16 an16 cd16 ct16), sl16⟩) (c16 : PySem.W.codeIn K cd16 "worth_at" = true) (k16 : PySem.W.keepIn K (.ref f16) = true)
    {f17 : Addr} {od17 an17 : Option Addr} {sl17 : Array (Option Value)} {oc17 kV17 dc17 pm17 cd17 ct17 : Value}
    (a17 : PySem.W.nsIn K mainGlobals "_law_pen" = some (some (.ref f17))) (l17 : K.lookup f17 = some ⟨oc17, od17, .func (PySem.W.fnOf "_law_pen" "_law_pen" (defArgs (topS 28)) (defBody (topS 28)) (defScope (topS 28)) .none kV17 dc17 pm17 an17 cd17 ct17), sl17⟩) (c17 : PySem.W.codeIn K cd17 "_law_pen" = true) (k17 : PySem.W.keepIn K (.ref f17) = true)
    {f18 : Addr} {od18 an18 : Option Addr} {sl18 : Array (Option Value)} {oc18 kV18 dc18 pm18 cd18 ct18 : Value}
    (a18 : PySem.W.nsIn K mainGlobals "_law_draw" = some (some (.ref f18))) (l18 : K.lookup f18 = some ⟨oc18, od18, .func (PySem.W.fnOf "_law_draw" "_law_draw" (defArgs (topS 29)) (defBody (topS 29)) (defScope (topS 29)) .none kV18 dc18 pm18 an18 cd18 ct18), sl18⟩) (c18 : PySem.W.codeIn K cd18 "_law_draw" = true) (k18 : PySem.W.keepIn K (.ref f18) = true)
    {f19 : Addr} {od19 an19 : Option Addr} {sl19 : Array (Option Value)} {oc19 kV19 dc19 pm19 cd19 ct19 : Value}
    (a19 : PySem.W.nsIn K mainGlobals "_law_pick" = some (some (.ref f19))) (l19 : K.lookup f19 = some ⟨oc19, od19, .func (PySem.W.fnOf "_law_pick" "_law_pick" (defArgs (topS 30)) (defBody (topS 30)) (defScope (topS 30)) .none kV19 dc19 pm19 an19 cd19 ct19), sl19⟩) (c19 : PySem.W.codeIn K cd19 "_law_pick" = true) (k19 : PySem.W.keepIn K (.ref f19) = true)
    {f20 : Addr} {od20 an20 : Option Addr} {sl20 : Array (Option Value)} {oc20 kV20 dc20 pm20 cd20 ct20 : Value}
    (a20 : PySem.W.nsIn K mainGlobals "_law_poly" = some (some (.ref f20))) (l20 : K.lookup f20 = some ⟨oc20, od20, .func (PySem.W.fnOf "_law_poly" "_law_poly" (defArgs (topS 31)) (defBody (topS 31)) (defScope (topS 31)) .none kV20 dc20 pm20 an20 cd20 ct20), sl20⟩) (c20 : PySem.W.codeIn K cd20 "_law_poly" = true) (k20 : PySem.W.keepIn K (.ref f20) = true)
    {f21 : Addr} {od21 an21 : Option Addr} {sl21 : Array (Option Value)} {oc21 kV21 dc21 pm21 cd21 ct21 : Value}
    (a21 : PySem.W.nsIn K mainGlobals "_law_worth" = some (some (.ref f21))) (l21 : K.lookup f21 = some ⟨oc21, od21, .func (PySem.W.fnOf "_law_worth" "_law_worth" (defArgs (topS 32)) (defBody (topS 32)) (defScope (topS 32)) .none kV21 dc21 pm21 an21 cd21 ct21), sl21⟩) (c21 : PySem.W.codeIn K cd21 "_law_worth" = true) (k21 : PySem.W.keepIn K (.ref f21) = true)
    {f22 : Addr} {od22 an22 : Option Addr} {sl22 : Array (Option Value)} {oc22 kV22 dc22 pm22 cd22 ct22 : Value}
    (a22 : PySem.W.nsIn K mainGlobals "_law_number" = some (some (.ref f22))) (l22 : K.lookup f22 = some ⟨oc22, od22, .func (PySem.W.fnOf "_law_number" "_law_number" (defArgs (topS 33)) (defBody (topS 33)) (defScope (topS 33)) .none kV22 dc22 pm22 an22 cd22 ct22), sl22⟩) (c22 : PySem.W.codeIn K cd22 "_law_number" = true) (k22 : PySem.W.keepIn K (.ref f22) = true)
    {f23 : Addr} {od23 an23 : Option Addr} {sl23 : Array (Option Value)} {oc23 kV23 dc23 pm23 cd23 ct23 : Value}
    (a23 : PySem.W.nsIn K mainGlobals "_law_small" = some (some (.ref f23))) (l23 : K.lookup f23 = some ⟨oc23, od23, .func (PySem.W.fnOf "_law_small" "_law_small" (defArgs (topS 34)) (defBody (topS 34)) (defScope (topS 34)) .none kV23 dc23 pm23 an23 cd23 ct23), sl23⟩) (c23 : PySem.W.codeIn K cd23 "_law_small" = true) (k23 : PySem.W.keepIn K (.ref f23) = true)
    {f24 : Addr} {od24 an24 : Option Addr} {sl24 : Array (Option Value)} {oc24 kV24 dc24 pm24 cd24 ct24 : Value}
    (a24 : PySem.W.nsIn K mainGlobals "_law_drawn" = some (some (.ref f24))) (l24 : K.lookup f24 = some ⟨oc24, od24, .func (PySem.W.fnOf "_law_drawn" "_law_drawn" (defArgs (topS 35)) (defBody (topS 35)) (defScope (topS 35)) .none kV24 dc24 pm24 an24 cd24 ct24), sl24⟩) (c24 : PySem.W.codeIn K cd24 "_law_drawn" = true) (k24 : PySem.W.keepIn K (.ref f24) = true)
    {f25 : Addr} {od25 an25 : Option Addr} {sl25 : Array (Option Value)} {oc25 kV25 dc25 pm25 cd25 ct25 : Value}
    (a25 : PySem.W.nsIn K mainGlobals "_law_told_otherwise" = some (some (.ref f25))) (l25 : K.lookup f25 = some ⟨oc25, od25, .func (PySem.W.fnOf "_law_told_otherwise" "_law_told_otherwise" (defArgs (topS 36)) (defBody (topS 36)) (defScope (topS 36)) .none kV25 dc25 pm25 an25 cd25 ct25), sl25⟩) (c25 : PySem.W.codeIn K cd25 "_law_told_otherwise" = true) (k25 : PySem.W.keepIn K (.ref f25) = true)
    {f26 : Addr} {od26 an26 : Option Addr} {sl26 : Array (Option Value)} {oc26 kV26 dc26 pm26 cd26 ct26 : Value}
    (a26 : PySem.W.nsIn K mainGlobals "_law_difference" = some (some (.ref f26))) (l26 : K.lookup f26 = some ⟨oc26, od26, .func (PySem.W.fnOf "_law_difference" "_law_difference" (defArgs (topS 37)) (defBody (topS 37)) (defScope (topS 37)) .none kV26 dc26 pm26 an26 cd26 ct26), sl26⟩) (c26 : PySem.W.codeIn K cd26 "_law_difference" = true) (k26 : PySem.W.keepIn K (.ref f26) = true)
    {f27 : Addr} {od27 an27 : Option Addr} {sl27 : Array (Option Value)} {oc27 kV27 dc27 pm27 cd27 ct27 : Value}
    (a27 : PySem.W.nsIn K mainGlobals "_law_choose" = some (some (.ref f27))) (l27 : K.lookup f27 = some ⟨oc27, od27, .func (PySem.W.fnOf "_law_choose" "_law_choose" (defArgs (topS 38)) (defBody (topS 38)) (defScope (topS 38)) .none kV27 dc27 pm27 an27 cd27 ct27), sl27⟩) (c27 : PySem.W.codeIn K cd27 "_law_choose" = true) (k27 : PySem.W.keepIn K (.ref f27) = true)
    {f28 : Addr} {od28 an28 : Option Addr} {sl28 : Array (Option Value)} {oc28 kV28 dc28 pm28 cd28 ct28 : Value}
    (a28 : PySem.W.nsIn K mainGlobals "_law_down" = some (some (.ref f28))) (l28 : K.lookup f28 = some ⟨oc28, od28, .func (PySem.W.fnOf "_law_down" "_law_down" (defArgs (topS 39)) (defBody (topS 39)) (defScope (topS 39)) .none kV28 dc28 pm28 an28 cd28 ct28), sl28⟩) (c28 : PySem.W.codeIn K cd28 "_law_down" = true) (k28 : PySem.W.keepIn K (.ref f28) = true)
    {f29 : Addr} {od29 an29 : Option Addr} {sl29 : Array (Option Value)} {oc29 kV29 dc29 pm29 cd29 ct29 : Value}
    (a29 : PySem.W.nsIn K mainGlobals "law" = some (some (.ref f29))) (l29 : K.lookup f29 = some ⟨oc29, od29, .func (PySem.W.fnOf "law" "law" (defArgs (topS 40)) (defBody (topS 40)) (defScope (topS 40)) .none kV29 dc29 pm29 an29 cd29 ct29), sl29⟩) (c29 : PySem.W.codeIn K cd29 "law" = true) (k29 : PySem.W.keepIn K (.ref f29) = true)
    {u0 : Tok} (m0 : PySem.W.nsIn K mainGlobals "MOST_NUMBER" = some (some (.int (10 ^ 60) u0)))
    {u1 : Tok} (m1 : PySem.W.nsIn K mainGlobals "MOST_WIDTH" = some (some (.int (16) u1)))
    {u2 : Tok} (m2 : PySem.W.nsIn K mainGlobals "MOST_POWER" = some (some (.int (1000) u2)))
    (z0 : PySem.W.nsIn K mainGlobals "isinstance" = some none)
    (z1 : PySem.W.nsIn K mainGlobals "int" = some none)
    (z2 : PySem.W.nsIn K mainGlobals "bool" = some none)
    (z3 : PySem.W.nsIn K mainGlobals "list" = some none)
    (z4 : PySem.W.nsIn K mainGlobals "tuple" = some none)
    (z5 : PySem.W.nsIn K mainGlobals "len" = some none)
    (z6 : PySem.W.nsIn K mainGlobals "all" = some none)
    (z7 : PySem.W.nsIn K mainGlobals "zip" = some none)
    (z8 : PySem.W.nsIn K mainGlobals "sum" = some none)
    (z9 : PySem.W.nsIn K mainGlobals "sorted" = some none)
    (z10 : PySem.W.nsIn K mainGlobals "range" = some none)
    (z11 : PySem.W.nsIn K mainGlobals "enumerate" = some none)
    (z12 : PySem.W.nsIn K mainGlobals "dict" = some none)
    (z13 : PySem.W.nsIn K mainGlobals "abs" = some none)
    (z14 : PySem.W.nsIn K mainGlobals "max" = some none)
    : ∃ fd : FuncData, (∀ (s : Shared) (v : Value), BindsTo s fd ⟨[v], []⟩ [("script", v)]) ∧ ∀ base : Heap, K.In base → base.Ns mainGlobals mg → FnOk l.prog w K mg base CX0 8 fa fd ["script"] (spLaw K) := by
  have e := hfa.symm.trans (PySem.W.mg_of X G a29)
  cases e
  refine ⟨PySem.W.fnOf "law" "law" (defArgs (topS 40)) (defBody (topS 40)) (defScope (topS 40)) .none kV29 dc29 pm29 an29 cd29 ct29, fun s v => .of_eq rfl, fun base _ _ => ?_⟩
  have D_is_integer := dfn_of (st := topS 2) X G a0 l0 c0 k0
  have D_is_within := dfn_of (st := topS 3) X G a1 l1 c1 k1
  have D_is_listed := dfn_of (st := topS 4) X G a2 l2 c2 k2
  have D_is_row := dfn_of (st := topS 5) X G a3 l3 c3 k3
  have D_is_numbers := dfn_of (st := topS 6) X G a4 l4 c4 k4
  have D_rank_of := dfn_of (st := topS 14) X G a5 l5 c5 k5
  have D_is_powers := dfn_of (st := topS 15) X G a6 l6 c6 k6
  have D_is_term := dfn_of (st := topS 16) X G a7 l7 c7 k7
  have D_is_poly := dfn_of (st := topS 17) X G a8 l8 c8 k8
  have D_as_poly := dfn_of (st := topS 18) X G a9 l9 c9 k9
  have D_need_polys := dfn_of (st := topS 19) X G a10 l10 c10 k10
  have D_need_width := dfn_of (st := topS 20) X G a11 l11 c11 k11
  have D_parts_of := dfn_of (st := topS 22) X G a12 l12 c12 k12
  have D_falling_of := dfn_of (st := topS 23) X G a13 l13 c13 k13
  have D_falling := dfn_of (st := topS 24) X G a14 l14 c14 k14
  have D_whole_worth := dfn_of (st := topS 25) X G a15 l15 c15 k15
  have D_worth_at := dfn_of (st := topS 26) X G a16 l16 c16 k16
  have D__law_pen := dfn_of (st := topS 28) X G a17 l17 c17 k17
  have D__law_draw := dfn_of (st := topS 29) X G a18 l18 c18 k18
  have D__law_pick := dfn_of (st := topS 30) X G a19 l19 c19 k19
  have D__law_poly := dfn_of (st := topS 31) X G a20 l20 c20 k20
  have D__law_worth := dfn_of (st := topS 32) X G a21 l21 c21 k21
  have D__law_number := dfn_of (st := topS 33) X G a22 l22 c22 k22
  have D__law_small := dfn_of (st := topS 34) X G a23 l23 c23 k23
  have D__law_drawn := dfn_of (st := topS 35) X G a24 l24 c24 k24
  have D__law_told_otherwise := dfn_of (st := topS 36) X G a25 l25 c25 k25
  have D__law_difference := dfn_of (st := topS 37) X G a26 l26 c26 k26
  have D__law_choose := dfn_of (st := topS 38) X G a27 l27 c27 k27
  have D__law_down := dfn_of (st := topS 39) X G a28 l28 c28 k28
  have D_law := dfn_of (st := topS 40) X G a29 l29 c29 k29
  have c_MOST_NUMBER := PySem.W.mg_of X G m0
  have c_MOST_WIDTH := PySem.W.mg_of X G m1
  have c_MOST_POWER := PySem.W.mg_of X G m2
  have z_isinstance := PySem.W.mg_none_of X G z0
  have z_int := PySem.W.mg_none_of X G z1
  have z_bool := PySem.W.mg_none_of X G z2
  have z_list := PySem.W.mg_none_of X G z3
  have z_tuple := PySem.W.mg_none_of X G z4
  have z_len := PySem.W.mg_none_of X G z5
  have z_all := PySem.W.mg_none_of X G z6
  have z_zip := PySem.W.mg_none_of X G z7
  have z_sum := PySem.W.mg_none_of X G z8
  have z_sorted := PySem.W.mg_none_of X G z9
  have z_range := PySem.W.mg_none_of X G z10
  have z_enumerate := PySem.W.mg_none_of X G z11
  have z_dict := PySem.W.mg_none_of X G z12
  have z_abs := PySem.W.mg_none_of X G z13
  have z_max := PySem.W.mg_none_of X G z14
  have F_is_integer := fn_int (P := l.prog) (w := w) (base := base) D_is_integer z_isinstance z_int z_bool
  have F_is_within := fn_within (P := l.prog) (w := w) (base := base) D_is_within F_is_integer
  have F_is_listed := fn_listed (P := l.prog) (w := w) (base := base) D_is_listed z_isinstance z_list z_tuple
  have F_is_row := fn_row (P := l.prog) (w := w) (base := base) D_is_row z_len F_is_listed
  have F_is_numbers := fn_nums (P := l.prog) (w := w) (base := base) D_is_numbers z_all c_MOST_NUMBER F_is_row F_is_within
  have F_rank_of := fn_rank (P := l.prog) (w := w) (base := base) D_rank_of z_sum
  have F_is_powers := fn_powers (P := l.prog) (w := w) (base := base) D_is_powers z_all z_len c_MOST_POWER F_is_listed F_is_within
  have F_is_term := fn_term (P := l.prog) (w := w) (base := base) D_is_term z_len F_is_listed F_is_integer F_is_powers
  have F_is_poly := fn_poly (P := l.prog) (w := w) (base := base) D_is_poly z_all z_zip z_tuple F_is_listed F_rank_of F_is_term
  have F_as_poly := fn_as (P := l.prog) (w := w) (base := base) D_as_poly z_tuple
  have F_need_polys := fn_needs (P := l.prog) (w := w) (base := base) D_need_polys z_all z_tuple F_is_listed F_is_poly F_as_poly
  have F_need_width := fn_width (P := l.prog) (w := w) (base := base) D_need_width c_MOST_WIDTH F_is_within
  have F_parts_of := fn_parts (P := l.prog) (w := w) (base := base) D_parts_of z_range z_enumerate z_len
  have F_falling_of := fn_fall (P := l.prog) (w := w) (base := base) D_falling_of z_enumerate z_tuple z_sorted F_parts_of F_rank_of
  have F_falling := fn_falling (P := l.prog) (w := w) (base := base) D_falling F_need_width F_need_polys F_falling_of
  have F_worth_at := fn_worthAt (P := l.prog) (w := w) (base := base) D_worth_at z_zip z_range
  have F_whole_worth := fn_whole (P := l.prog) (w := w) (base := base) D_whole_worth F_need_width F_need_polys F_is_numbers F_worth_at
  have F__law_pen := fn_pen (P := l.prog) (w := w) (base := base) D__law_pen z_int
  have F__law_draw := fn_drawn0 (P := l.prog) (w := w) (base := base) D__law_draw z_int z_len z_abs
  have F__law_pick := fn_pick (P := l.prog) (w := w) (base := base) D__law_pick z_len F__law_draw
  have F__law_poly := fn_polOf (P := l.prog) (w := w) (base := base) D__law_poly z_sorted z_sum z_tuple
  have F__law_worth := fn_lawWorth (P := l.prog) (w := w) (base := base) D__law_worth z_zip z_range
  have F__law_number := fn_number (P := l.prog) (w := w) (base := base) D__law_number F__law_draw F__law_pick
  have F__law_small := fn_small (P := l.prog) (w := w) (base := base) D__law_small F__law_pick
  have F__law_drawn := fn_drawnP (P := l.prog) (w := w) (base := base) D__law_drawn z_range z_tuple F__law_draw F__law_small F__law_poly
  have F__law_told_otherwise := fn_told (P := l.prog) (w := w) (base := base) D__law_told_otherwise z_list F__law_draw
  have F__law_choose := fn_cho (P := l.prog) (w := w) (base := base) D__law_choose z_range
  have F__law_difference := fn_dif (P := l.prog) (w := w) (base := base) D__law_difference z_range z_sum z_int F__law_choose F__law_worth
  have F__law_down := fn_down (P := l.prog) (w := w) (base := base) D__law_down z_range
  have LF : LawFns l.prog w K mg base := ⟨F__law_pen, F__law_draw, F__law_pick, F__law_number, F__law_drawn, F__law_told_otherwise, F__law_poly, F__law_worth, F__law_difference, F__law_down, F_falling, F_whole_worth, D_whole_worth⟩
  have LB : LawBlt mg := ⟨z_max, z_range, z_sum, z_sorted, z_tuple, z_dict, z_int, z_zip⟩
  obtain ⟨f, fd, q, st, hm, hF, hb, ok⟩ := fn_law (P := l.prog) (w := w) (base := base) D_law LF LB
  rw [hfa] at hm
  cases hm
  have hfd := fun_same hF (fun_mk (st := topS 40) l29 c29 k29)
  subst hfd
  exact ok
end R1
open PySem PySem.W PyProof.Rows
set_option maxHeartbeats 0 in
theorem PySem.Challenge.cw_anyring_k12_falling_powers_by_difference_holds : PySem.Challenge.rw_anyring_k12_falling_powers_by_difference.Holds := by
  w_on; o_law; k_head; (case hw => w_witness2)
  k_fill
  refine L2.walk_of (l := PySem.Challenge.rw_anyring_k12_falling_powers_by_difference) (n := 63) (k := 8) (x := "script") (CX := fun _ => L2.CX0) (sp := fun w => R1.spLaw _) rfl (by decide) rfl ⟨rfl, by decide, by decide⟩ (fun w h Y => PySem.W.kIn_of Y) ?F (fun _ _ a ns hl _ hS => ⟨a, ns, rfl, hS, hl, fun _ => rfl⟩) (fun _ _ _ _ _ h => h)
  case F =>
    intro w mg fa h KX G hmg
    refine' R1.all_k12 KX G hmg ?a0 ?l0 ?c0 ?k0 ?a1 ?l1 ?c1 ?k1 ?a2 ?l2 ?c2 ?k2 ?a3 ?l3 ?c3 ?k3 ?a4 ?l4 ?c4 ?k4 ?a5 ?l5 ?c5 ?k5 ?a6 ?l6 ?c6 ?k6 ?a7 ?l7 ?c7 ?k7 ?a8 ?l8 ?c8 ?k8 ?a9 ?l9 ?c9 ?k9 ?a10 ?l10 ?c10 ?k10 ?a11 ?l11 ?c11 ?k11 ?a12 ?l12 ?c12 ?k12 ?a13 ?l13 ?c13 ?k13 ?a14 ?l14 ?c14 ?k14 ?a15 ?l15 ?c15 ?k15 ?a16 ?l16 ?c16 ?k16 ?a17 ?l17 ?c17 ?k17 ?a18 ?l18 ?c18 ?k18 ?a19 ?l19 ?c19 ?k19 ?a20 ?l20 ?c20 ?k20 ?a21 ?l21 ?c21 ?k21 ?a22 ?l22 ?c22 ?k22 ?a23 ?l23 ?c23 ?k23 ?a24 ?l24 ?c24 ?k24 ?a25 ?l25 ?c25 ?k25 ?a26 ?l26 ?c26 ?k26 ?a27 ?l27 ?c27 ?k27 ?a28 ?l28 ?c28 ?k28 ?a29 ?l29 ?c29 ?k29 ?m0 ?m1 ?m2 ?z0 ?z1 ?z2 ?z3 ?z4 ?z5 ?z6 ?z7 ?z8 ?z9 ?z10 ?z11 ?z12 ?z13 ?z14
    (case a0 => k_is); (case l0 => k_is); (case c0 => k_is); (case k0 => k_is); (case a1 => k_is); (case l1 => k_is); (case c1 => k_is); (case k1 => k_is); (case a2 => k_is); (case l2 => k_is); (case c2 => k_is); (case k2 => k_is); (case a3 => k_is); (case l3 => k_is); (case c3 => k_is); (case k3 => k_is); (case a4 => k_is); (case l4 => k_is); (case c4 => k_is); (case k4 => k_is); (case a5 => k_is); (case l5 => k_is); (case c5 => k_is); (case k5 => k_is); (case a6 => k_is); (case l6 => k_is); (case c6 => k_is); (case k6 => k_is); (case a7 => k_is); (case l7 => k_is); (case c7 => k_is); (case k7 => k_is); (case a8 => k_is); (case l8 => k_is); (case c8 => k_is); (case k8 => k_is); (case a9 => k_is); (case l9 => k_is); (case c9 => k_is); (case k9 => k_is); (case a10 => k_is); (case l10 => k_is); (case c10 => k_is); (case k10 => k_is); (case a11 => k_is); (case l11 => k_is); (case c11 => k_is); (case k11 => k_is); (case a12 => k_is); (case l12 => k_is); (case c12 => k_is); (case k12 => k_is); (case a13 => k_is); (case l13 => k_is); (case c13 => k_is); (case k13 => k_is); (case a14 => k_is); (case l14 => k_is); (case c14 => k_is); (case k14 => k_is); (case a15 => k_is); (case l15 => k_is); (case c15 => k_is); (case k15 => k_is); (case a16 => k_is); (case l16 => k_is); (case c16 => k_is); (case k16 => k_is); (case a17 => k_is); (case l17 => k_is); (case c17 => k_is); (case k17 => k_is); (case a18 => k_is); (case l18 => k_is); (case c18 => k_is); (case k18 => k_is); (case a19 => k_is); (case l19 => k_is); (case c19 => k_is); (case k19 => k_is); (case a20 => k_is); (case l20 => k_is); (case c20 => k_is); (case k20 => k_is); (case a21 => k_is); (case l21 => k_is); (case c21 => k_is); (case k21 => k_is); (case a22 => k_is); (case l22 => k_is); (case c22 => k_is); (case k22 => k_is); (case a23 => k_is); (case l23 => k_is); (case c23 => k_is); (case k23 => k_is); (case a24 => k_is); (case l24 => k_is); (case c24 => k_is); (case k24 => k_is); (case a25 => k_is); (case l25 => k_is); (case c25 => k_is); (case k25 => k_is); (case a26 => k_is); (case l26 => k_is); (case c26 => k_is); (case k26 => k_is); (case a27 => k_is); (case l27 => k_is); (case c27 => k_is); (case k27 => k_is); (case a28 => k_is); (case l28 => k_is); (case c28 => k_is); (case k28 => k_is); (case a29 => k_is); (case l29 => k_is); (case c29 => k_is); (case k29 => k_is); (case m0 => k_is); (case m1 => k_is); (case m2 => k_is); (case z0 => k_is); (case z1 => k_is); (case z2 => k_is); (case z3 => k_is); (case z4 => k_is); (case z5 => k_is); (case z6 => k_is); (case z7 => k_is); (case z8 => k_is); (case z9 => k_is); (case z10 => k_is); (case z11 => k_is); (case z12 => k_is); (case z13 => k_is); (case z14 => k_is)

