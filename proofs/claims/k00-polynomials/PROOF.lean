import PyProof.Rows.All
import Wide.All
import OpenK.AllK
import Wide.FinOn
import PySem.Challenge.RW_anyring_k00_polynomials_by_own_sums
import HandS.ForMost
import HandS.Evl
import HandS.IsInst
import HandS.TupAny
import HandS.Wide
import HandS.Zip
import HandS.Walk
import KE.GoesNew
import KE.GoesNewDict
import KE.KDictWalk
import HandS.Style
import HandS.SortKw
import HandS.TupLe
import KE.KSortKeySt
import HandS.SortRule
import KE.KDictPairs
import KE.KTupSum
import PyProof.Rows.TupDisplay
import HandS.MakeKwOnly
import HandS.DictComp
import HandS.TupMul
import HandS.WideBits
import HandS.NoneIn
import PyProof.ListRange
set_option Elab.async false
set_option Elab.async false
set_option linter.all false
set_option maxRecDepth 100000
set_option maxHeartbeats 4000000
/-! CoreA: what an expression comes to, over deep data: judgements without the heap in sight. -/
namespace R1
open PySem PySem.Spec PyProof.Rows L2 Evl

/-! ### the weakest readings -/
def WE (X : Cx) (e : Expr) : TE := fun σ H Q => ∀ (pins : List (Addr × Obj)) (s : Shared), Inv X pins σ H s → wpAny (model X.prog X.w) X.A (eval e X.env) (EP X pins σ Q) X.xe s
def WT (X : Cx) (e : Expr) : TT := fun σ H Q => ∀ (pins : List (Addr × Obj)) (s : Shared), Inv X pins σ H s → wpAny (model X.prog X.w) X.A (isTrue e X.env (eval e X.env)) (TP X pins σ Q) X.xe s
def WA (X : Cx) (es : List Expr) : TA := fun σ H Q => ∀ (pos : Pos) (pins : List (Addr × Obj)) (s : Shared), Inv X pins σ H s → wpAny (model X.prog X.w) X.A (spliced (backTo pos (starEach es X.env))) (AP X pins σ Q) X.xe s
def WSs (X : Cx) (b : List Stmt) : TS := fun D σ H => ∀ (pins : List (Addr × Obj)) (s : Shared), Inv X pins σ H s → wpAny (model X.prog X.w) X.A (execs b X.env) (SP X pins D) X.xe s
section
variable {X : Cx} {e : Expr} {es : List Expr} {b : List Stmt} {σ : L2.St} {H : Hp} {te : TE} {tt : TT} {ta : TA} {ts : TS} {Q Q' : VK}
theorem pe_we : PE X e (WE X e) := ⟨fun pins s _ _ _ I h => h pins s I⟩
theorem pt_wt : PT X e (WT X e) := ⟨fun pins s _ _ _ I h => h pins s I⟩
theorem pa_wa : PA X es (WA X es) := ⟨fun pos pins s _ _ _ I h => h pos pins s I⟩
theorem ps_ws : PSs X b (WSs X b) := ⟨fun pins s _ _ _ I h => h pins s I⟩
theorem we_of (h : PE X e te) (q : te σ H Q) : WE X e σ H Q := fun pins s I => h.run pins s σ H Q I q
theorem wt_of {Q : Bool → Hp → Prop} (h : PT X e tt) (q : tt σ H Q) : WT X e σ H Q := fun pins s I => h.run pins s σ H Q I q
theorem wa_of {Q : List V → Hp → Prop} (h : PA X es ta) (q : ta σ H Q) : WA X es σ H Q := fun pos pins s I => h.run pos pins s σ H Q I q
theorem ws_of {D : Ends} (h : PSs X b ts) (q : ts D σ H) : WSs X b D σ H := fun pins s I => h.run pins s σ H D I q
theorem we_mono (h : WE X e σ H Q) (k : ∀ v H', Q v H' → Q' v H') : WE X e σ H Q' := fun pins s I =>
  thn (h pins s I) fun _ _ ⟨v, H', I', r, q⟩ => ⟨v, H', I', r, k v H' q⟩
theorem wt_mono {Q Q' : Bool → Hp → Prop} (h : WT X e σ H Q) (k : ∀ v H', Q v H' → Q' v H') : WT X e σ H Q' := fun pins s I =>
  thn (h pins s I) fun _ _ ⟨H', I', q⟩ => ⟨H', I', k _ H' q⟩
end

/-! ### data -/
mutual
inductive Rp (I : Hp) : V → PyData → Prop
  | non : Rp I .non .none
  | bl (b : Bool) : Rp I (.bl b) (.bool b)
  | int (i : Int) : Rp I (.int i) (.int i)
  | str (x : Str) : Rp I (.str x) (.str x)
  | lst {a : Addr} {xs : List V} {ds : List PyData} : I a = some (.lst xs) → RpAll I xs ds → Rp I (.ref a) (.list ds)
  | tup {a : Addr} {xs : List V} {ds : List PyData} : I a = some (.tup xs) → RpAll I xs ds → Rp I (.ref a) (.tuple ds)
  | dct {a : Addr} {o : Obj} {ws : List (List L2.Key × V)} {kvs : List (PyData × PyData)} : I a = some (.frz o (.dT ws)) → RpPs I ws kvs → Rp I (.ref a) (.dict kvs)
inductive RpAll (I : Hp) : List V → List PyData → Prop
  | nil : RpAll I [] []
  | cons {v : V} {vs : List V} {d : PyData} {ds : List PyData} : Rp I v d → RpAll I vs ds → RpAll I (v :: vs) (d :: ds)
inductive RpPs (I : Hp) : List (List L2.Key × V) → List (PyData × PyData) → Prop
  | nil : RpPs I [] []
  | cons {p : List Int} {v : V} {d : PyData} {ws : List (List L2.Key × V)} {kvs : List (PyData × PyData)} : Rp I v d → RpPs I ws kvs → RpPs I ((p.map Sum.inl, v) :: ws) ((.tuple (p.map .int), d) :: kvs)
end
mutual
theorem Rp.mono {I J : Hp} (e : Ex I J) : ∀ {v : V} {d : PyData}, Rp I v d → Rp J v d
  | _, _, .non => .non
  | _, _, .bl _ => .bl _
  | _, _, .int _ => .int _
  | _, _, .str _ => .str _
  | _, _, .lst h hs => .lst (e _ _ h) (RpAll.mono e hs)
  | _, _, .tup h hs => .tup (e _ _ h) (RpAll.mono e hs)
  | _, _, .dct h hs => .dct (e _ _ h) (RpPs.mono e hs)
theorem RpAll.mono {I J : Hp} (e : Ex I J) : ∀ {vs : List V} {ds : List PyData}, RpAll I vs ds → RpAll J vs ds
  | _, _, .nil => .nil
  | _, _, .cons h hs => .cons (Rp.mono e h) (RpAll.mono e hs)
theorem RpPs.mono {I J : Hp} (e : Ex I J) : ∀ {vs : List (List L2.Key × V)} {ds : List (PyData × PyData)}, RpPs I vs ds → RpPs J vs ds
  | _, _, .nil => .nil
  | _, _, .cons h hs => .cons (Rp.mono e h) (RpPs.mono e hs)
end
mutual
theorem Rp.dp {K : PySem.W.Frag} {I J : Hp} (e : Ex I J) : ∀ (d : PyData) {v : V}, PyData.canLay0 d = true → Rp I v d → Dp K J v d
  | .none, _, _, .non => .non
  | .bool _, _, _, .bl _ => .bl _
  | .int _, _, _, .int _ => .int _
  | .str _, _, _, .str _ => .str _
  | .list ds, _, c, .lst h hs => .lst (SqL.of (e _ _ h)) (RpAll.dp e ds c hs)
  | .tuple ds, _, c, .tup h hs => .tup (SqT.of (e _ _ h)) (RpAll.dp e ds c hs)
  | .dict _, _, c, _ => nomatch c
theorem RpAll.dp {K : PySem.W.Frag} {I J : Hp} (e : Ex I J) : ∀ (ds : List PyData) {vs : List V}, PyData.canLayAll0 ds = true → RpAll I vs ds → DpAll K J vs ds
  | [], _, _, .nil => .nil
  | d :: ds, _, c, .cons h hs => .cons (Rp.dp e d (Bool.and_eq_true_iff.mp c).1 h) (RpAll.dp e ds (Bool.and_eq_true_iff.mp c).2 hs)
end
section
variable {I J H H' H1 H2 : Hp} {v : V} {vs us : List V} {d : PyData} {ds es : List PyData}
theorem Rp.up (e : Ex I J) (h : Rp I v d) : Rp J v d := Rp.mono e h
theorem RpAll.up (e : Ex I J) (h : RpAll I vs ds) : RpAll J vs ds := RpAll.mono e h
theorem RpAll.length : ∀ {vs : List V} {ds : List PyData}, RpAll I vs ds → vs.length = ds.length
  | _, _, .nil => rfl
  | _, _, .cons _ h => congrArg (· + 1) h.length
theorem RpAll.get : ∀ {vs : List V} {ds : List PyData} {i : Nat} {d : PyData}, RpAll I vs ds → ds[i]? = some d → ∃ v, vs[i]? = some v ∧ Rp I v d
  | _, _, _, _, .nil, e => by simp at e
  | _, _, 0, _, .cons h _, e => by
    obtain rfl := Option.some.inj e
    exact ⟨_, rfl, h⟩
  | _, _, i + 1, _, .cons _ hs, e => RpAll.get (i := i) hs e
theorem RpAll.getV : ∀ {vs : List V} {ds : List PyData} {i : Nat} {v : V}, RpAll I vs ds → vs[i]? = some v → ∃ d, ds[i]? = some d ∧ Rp I v d
  | _, _, _, _, .nil, e => by simp at e
  | _, _, 0, _, .cons h _, e => by
    obtain rfl := Option.some.inj e
    exact ⟨_, rfl, h⟩
  | _, _, i + 1, _, .cons _ hs, e => RpAll.getV (i := i) hs e
theorem RpAll.append : ∀ {vs us : List V} {ds es : List PyData}, RpAll I vs ds → RpAll I us es → RpAll I (vs ++ us) (ds ++ es)
  | _, _, _, _, .nil, k => k
  | _, _, _, _, .cons h hs, k => .cons h (hs.append k)
theorem RpAll.snoc (h : RpAll I vs ds) (k : Rp I v d) : RpAll I (vs ++ [v]) (ds ++ [d]) := h.append (.cons k .nil)
theorem RpAll.drop : ∀ {vs : List V} {ds : List PyData} (n : Nat), RpAll I vs ds → RpAll I (vs.drop n) (ds.drop n)
  | _, _, 0, h => h
  | _, _, _ + 1, .nil => .nil
  | _, _, n + 1, .cons _ hs => RpAll.drop n hs
theorem RpAll.take : ∀ {vs : List V} {ds : List PyData} (n : Nat), RpAll I vs ds → RpAll I (vs.take n) (ds.take n)
  | _, _, 0, h => .nil
  | _, _, _ + 1, .nil => .nil
  | _, _, n + 1, .cons h hs => .cons h (RpAll.take n hs)
theorem RpAll.set : ∀ {vs : List V} {ds : List PyData} (i : Nat), RpAll I vs ds → Rp I v d → RpAll I (vs.set i v) (ds.set i d)
  | _, _, _, .nil, _ => .nil
  | _, _, 0, .cons _ hs, k => .cons k hs
  | _, _, i + 1, .cons h hs, k => .cons h (RpAll.set i hs k)
theorem RpAll.ints : ∀ {ns : List Int} {vs : List V}, RpAll I vs (ns.map PyData.int) → vs = ns.map V.int
  | [], _, .nil => rfl
  | n :: ns, _, .cons (.int _) hs => by rw [List.map_cons, hs.ints]
theorem rpAll_ints : ∀ (ns : List Int), RpAll I (ns.map V.int) (ns.map PyData.int)
  | [] => .nil
  | n :: ns => .cons (.int n) (rpAll_ints ns)
theorem RpAll.bools : ∀ {ns : List Bool} {vs : List V}, RpAll I vs (ns.map PyData.bool) → vs = ns.map V.bl
  | [], _, .nil => rfl
  | n :: ns, _, .cons (.bl _) hs => by rw [List.map_cons, hs.bools]
theorem Rp.tupI {ns : List Int} (h : Rp I v (.tuple (ns.map PyData.int))) : ∃ a, v = .ref a ∧ I a = some (.tup (ns.map V.int)) := by
  cases h with
  | tup h hs => exact ⟨_, rfl, by rw [hs.ints] at h; exact h⟩
end

/-! ### what is known for good (Im), and the heap -/
/-- at a stands what may change: no tuple -/
def Ob (H : Hp) (a : Addr) : Prop := ∃ o, H a = some o ∧ ∀ xs, o ≠ .tup xs
theorem Ob.up {H H' : Hp} {a : Addr} (e : Ex H H') (h : Ob H a) : Ob H' a := let ⟨o, q, t⟩ := h; ⟨o, e a o q, t⟩
theorem Ob.ne {H : Hp} {a p : Addr} (h : Ob H a) (hp : H p = none) : a ≠ p := fun z => by
  obtain ⟨o, q, _⟩ := h
  rw [z, hp] at q
  cases q
theorem Ob.some {H : Hp} {a : Addr} (h : Ob H a) : H a ≠ none := fun z => by
  obtain ⟨o, q, _⟩ := h
  rw [z] at q
  cases q
/-- from what is known for good (I, within H) to I' within H': nothing of H beyond I is taken for good but tuples -/
structure Nw (I H I' H' : Hp) : Prop where
  i : Ex I I'
  j : Ex I' H'
  h : Ex H H'
  k : ∀ a, I a = none → Ob H a → I' a = none
section
variable {I J H I' H' I1 H1 I2 H2 : Hp} {p : Addr} {o : HO}
theorem Nw.refl (h : Ex I H) : Nw I H I H := ⟨Ex.refl I, h, Ex.refl H, fun _ e _ => e⟩
theorem ex_some {a : Addr} (e : Ex I H) (h : I a ≠ none) : H a ≠ none := by
  intro z
  cases q : I a with
  | none => exact h q
  | some o => rw [e a o q] at z; cases z
theorem Nw.trans (a : Nw I H I1 H1) (b : Nw I1 H1 I2 H2) : Nw I H I2 H2 :=
  ⟨a.i.trans b.i, b.j, a.h.trans b.h, fun x e n => b.k x (a.k x e n) (n.up a.h)⟩
/-- a new thing is known for good -/
theorem Nw.new (e : Ex I H) (hp : H p = none) : Nw I H (upd I p o) (upd H p o) := by
  have hi : I p = none := fresh_back e hp
  refine ⟨Ex.new hi, fun a u q => ?_, Ex.new hp, fun a e n => ?_⟩
  · by_cases h : a = p
    · subst h; rw [upd_same] at q ⊢; exact q
    · rw [upd_ne h] at q ⊢; exact e a u q
  · have h : a ≠ p := n.ne hp
    rw [upd_ne h]; exact e
/-- a new thing that may change -/
theorem Nw.own (e : Ex I H) (hp : H p = none) : Nw I H I (upd H p o) := ⟨Ex.refl I, e.trans (Ex.new hp), Ex.new hp, fun _ e _ => e⟩
theorem Nw.grow (e : Ex I H) (h : Ex H H') : Nw I H I H' := ⟨Ex.refl I, e.trans h, h, fun _ e _ => e⟩
/-- what may change, beyond what is known for good, stays where nothing is touched -/
theorem Nw.keep (n : Nw I H I' H') (h : H p = some o) (hi : I p = none) (ht : ∀ xs, o ≠ .tup xs := by intro _ z; cases z) : H' p = some o ∧ I' p = none :=
  ⟨n.h p o h, n.k p hi ⟨o, h, ht⟩⟩
theorem Nw.e (n : Nw I H I' H') : Ex I' H' := n.j
theorem ex_mut (e : Ex I H) (hi : I p = none) : Ex I (upd H p o) := Ex.mut e hi
end

/-! ### slots -/
abbrev Ro := List (Option PyData)
structure VS (I : Hp) (σ : L2.St) (ρ : Ro) : Prop where
  len : σ.length = ρ.length
  at' : ∀ (i : Nat) (d : PyData), ρ[i]? = some (some d) → ∃ v, σ[i]? = some (some v) ∧ Rp I v d
section
variable {I J : Hp} {σ : L2.St} {ρ : Ro} {v : V} {d : PyData} {i : Nat}
theorem VS.up (e : Ex I J) (h : VS I σ ρ) : VS J σ ρ := ⟨h.len, fun i d q => let ⟨v, a, b⟩ := h.at' i d q; ⟨v, a, b.up e⟩⟩
theorem VS.set (h : VS I σ ρ) (r : Rp I v d) : VS I (σ.set i (some v)) (ρ.set i (some d)) := by
  refine ⟨by rw [List.length_set, List.length_set, h.len], fun j d' q => ?_⟩
  by_cases e : i = j
  · subst e
    have hl : i < ρ.length := by
      have := (List.getElem?_eq_some_iff.mp q).1
      rwa [List.length_set] at this
    rw [List.getElem?_set_self hl] at q
    cases q
    exact ⟨v, List.getElem?_set_self (by rw [h.len]; exact hl), r⟩
  · rw [List.getElem?_set_ne e] at q
    obtain ⟨u, a, b⟩ := h.at' j d' q
    exact ⟨u, by rw [List.getElem?_set_ne e]; exact a, b⟩
theorem VS.forget (h : VS I σ ρ) (i : Nat) (x : Option V) : VS I (σ.set i x) (ρ.set i none) := by
  refine ⟨by rw [List.length_set, List.length_set, h.len], fun j d' q => ?_⟩
  by_cases e : i = j
  · subst e
    have hl : i < ρ.length := by
      have := (List.getElem?_eq_some_iff.mp q).1
      rwa [List.length_set] at this
    rw [List.getElem?_set_self hl] at q
    cases q
  · rw [List.getElem?_set_ne e] at q
    obtain ⟨u, a, b⟩ := h.at' j d' q
    exact ⟨u, by rw [List.getElem?_set_ne e]; exact a, b⟩
/-- less is said -/
theorem VS.less {ρ' : Ro} (h : VS I σ ρ) (hl : ρ'.length = ρ.length) (hw : ∀ (i : Nat) (d : PyData), ρ'[i]? = some (some d) → ρ[i]? = some (some d)) : VS I σ ρ' := ⟨by rw [h.len, hl], fun i d q => h.at' i d (hw i d q)⟩
theorem vs_start : ∀ {vs : List V} {ds : List PyData} (n : Nat), RpAll I vs ds → VS I (vs.map some ++ List.replicate n none) (ds.map some ++ List.replicate n none) := fun {vs ds} n h => by
  refine ⟨by rw [List.length_append, List.length_append, List.length_map, List.length_map, h.length, List.length_replicate, List.length_replicate], fun i d q => ?_⟩
  by_cases e : i < ds.length
  · rw [List.getElem?_append_left (by rw [List.length_map]; exact e), List.getElem?_map] at q
    cases r : ds[i]? with
    | none => rw [r] at q; simp at q
    | some x =>
      rw [r] at q
      simp at q
      subst q
      obtain ⟨v, a, b⟩ := h.get r
      refine ⟨v, ?_, b⟩
      rw [List.getElem?_append_left (by rw [List.length_map, h.length]; exact e), List.getElem?_map, a]
      rfl
  · rw [List.getElem?_append_right (by rw [List.length_map]; omega)] at q
    rw [List.getElem?_replicate] at q
    split at q <;> simp at q
end

/-! ### judgements: in slots ρ the expression comes to d -/
def E (X : Cx) (ρ : Ro) (e : Expr) (d : PyData) : Prop := ∀ (I : Hp) (σ : L2.St) (H : Hp), Ex I H → VS I σ ρ → ∀ Q : VK, (∀ v I' H', Nw I H I' H' → Rp I' v d → Q v H') → WE X e σ H Q
def T (X : Cx) (ρ : Ro) (e : Expr) (b : Bool) : Prop := ∀ (I : Hp) (σ : L2.St) (H : Hp), Ex I H → VS I σ ρ → ∀ Q : Bool → Hp → Prop, (∀ I' H', Nw I H I' H' → Q b H') → WT X e σ H Q
def As (X : Cx) (ρ : Ro) (es : List Expr) (ds : List PyData) : Prop := ∀ (I : Hp) (σ : L2.St) (H : Hp), Ex I H → VS I σ ρ → ∀ Q : List V → Hp → Prop, (∀ vs I' H', Nw I H I' H' → RpAll I' vs ds → Q vs H') → WA X es σ H Q

section
variable {X : Cx} {ρ : Ro} {e a b c : Expr} {es : List Expr} {d d' : PyData} {ds : List PyData} {pos p : Pos} {i j k : Int} {x : Str}
theorem E.eq (h : E X ρ e d) (z : d = d') : E X ρ e d' := z ▸ h
theorem T.eq {k k' : Bool} (h : T X ρ e k) (z : k = k') : T X ρ e k' := z ▸ h
theorem e_of {te : TE} (h : PE X e te) (q : ∀ (I : Hp) (σ : L2.St) (H : Hp), Ex I H → VS I σ ρ → ∀ Q : VK, (∀ v I' H', Nw I H I' H' → Rp I' v d → Q v H') → te σ H Q) : E X ρ e d := fun I σ H x v Q k => we_of h (q I σ H x v Q k)
theorem t_of {te : TT} {b : Bool} (h : PT X e te) (q : ∀ (I : Hp) (σ : L2.St) (H : Hp), Ex I H → VS I σ ρ → ∀ Q : Bool → Hp → Prop, (∀ I' H', Nw I H I' H' → Q b H') → te σ H Q) : T X ρ e b := fun I σ H x v Q k => wt_of h (q I σ H x v Q k)
theorem e_name (n : Nat) {x : Str} (hN : X.N[n]? = some x) (hv : Vis X.env.scope x) (h : ρ[n]? = some (some d)) (hd : (x == ("__debug__" : Str)) = false := by decide) (hcd : (x == ("__classdict__" : Str)) = false := by decide) : E X ρ (.Name x p) d :=
  e_of (pe_var hN hv hd hcd) fun I σ H hx vs Q q => let ⟨v, s, r⟩ := vs.at' n d h; ⟨v, s, q v I H (.refl hx) r⟩
theorem e_int {j : Nat} : E X ρ (.Constant (.int i) j p) (.int i) := e_of pe_int fun I _ H hx _ _ q => q _ I H (.refl hx) (.int _)
theorem e_str {j : Nat} : E X ρ (.Constant (.str x) j p) (.str x) := e_of pe_str fun I _ H hx _ _ q => q _ I H (.refl hx) (.str _)
theorem e_bool {j : Nat} {k : Bool} : E X ρ (.Constant (.bool k) j p) (.bool k) := e_of pe_bl fun I _ H hx _ _ q => q _ I H (.refl hx) (.bl _)
theorem e_none {j : Nat} : E X ρ (.Constant .none j p) .none := e_of pe_non fun I _ H hx _ _ q => q _ I H (.refl hx) .non
/-- a module's constant -/
theorem e_globI {u : Tok} (hg : Gl X x) (hm : X.mg x = some (.int i u)) (hd : (x == ("__debug__" : Str)) = false := by decide) : E X ρ (.Name x p) (.int i) :=
  e_of (pe_glob (v := .int i) hg hm ⟨_, rfl⟩ hd) fun I _ H hx _ _ q => q _ I H (.refl hx) (.int _)
theorem e_globS {y : Str} {u : Tok} (hg : Gl X x) (hm : X.mg x = some (.str y u)) (hd : (x == ("__debug__" : Str)) = false := by decide) : E X ρ (.Name x p) (.str y) :=
  e_of (pe_glob (v := .str y) hg hm ⟨_, rfl⟩ hd) fun I _ H hx _ _ q => q _ I H (.refl hx) (.str _)
/-- two in a row -/
theorem e_two {r : R2} {dz : PyData} (h : PE X e (tOp r (WE X a) (WE X b))) (ha : E X ρ a d) (hb : E X ρ b d')
    (q : ∀ (I : Hp) (H : Hp), Ex I H → ∀ x y, Rp I x d → Rp I y d' → ∀ Q : VK, (∀ v I' H', Nw I H I' H' → Rp I' v dz → Q v H') → r x y H Q) : E X ρ e dz := e_of h fun I σ H hx vs Q k =>
  ha I σ H hx vs _ fun x I1 H1 n1 r1 => hb I1 σ H1 n1.j (vs.up n1.i) _ fun y I2 H2 n2 r2 => q I2 H2 n2.j x y (r1.up n2.i) r2 Q fun v I3 H3 n3 r3 => k v I3 H3 ((n1.trans n2).trans n3) r3
theorem e_op0 {op : Operator} {f : Int → Int → Int} (ho : OpR X (binaryOp op) (rI0 fun i j => .int (f i j))) (ha : E X ρ a (.int i)) (hb : E X ρ b (.int j)) : E X ρ (.BinOp a op b pos) (.int (f i j)) :=
  e_two (pe_op ho pe_we pe_we) ha hb fun I H hx x y rx ry Q q => by
    cases rx; cases ry
    exact ⟨i, j, rfl, rfl, q _ I H (.refl hx) (.int _)⟩
theorem e_opC {op : Operator} {C : Int → Int → Prop} {f : Int → Int → Int} (ho : OpR X (binaryOp op) (rI C fun i j => .int (f i j))) (ha : E X ρ a (.int i)) (hb : E X ρ b (.int j)) (hc : C i j) : E X ρ (.BinOp a op b pos) (.int (f i j)) :=
  e_two (pe_op ho pe_we pe_we) ha hb fun I H hx x y rx ry Q q => by
    cases rx; cases ry
    exact ⟨i, j, rfl, rfl, hc, q _ I H (.refl hx) (.int _)⟩
theorem e_add (ha : E X ρ a (.int i)) (hb : E X ρ b (.int j)) : E X ρ (.BinOp a .Add b pos) (.int (i + j)) := e_op0 op_add ha hb
theorem e_sub (ha : E X ρ a (.int i)) (hb : E X ρ b (.int j)) : E X ρ (.BinOp a .Sub b pos) (.int (i - j)) := e_op0 op_sub ha hb
theorem e_mul (ha : E X ρ a (.int i)) (hb : E X ρ b (.int j)) (hc : CMul i j) : E X ρ (.BinOp a .Mult b pos) (.int (i * j)) := e_opC op_mul ha hb hc
theorem e_fdiv (ha : E X ρ a (.int i)) (hb : E X ρ b (.int j)) (hc : CDivN i j) : E X ρ (.BinOp a .FloorDiv b pos) (.int (i.fdiv j)) := e_opC op_fdivN ha hb hc
theorem e_mod (ha : E X ρ a (.int i)) (hb : E X ρ b (.int j)) (hc : j ≠ 0) : E X ρ (.BinOp a .Mod b pos) (.int (i.fmod j)) := e_opC op_modN ha hb hc
theorem e_pow (ha : E X ρ a (.int i)) (hb : E X ρ b (.int j)) (hc : CPow i j) : E X ρ (.BinOp a .Pow b pos) (.int (i ^ j.toNat)) := e_opC op_pow ha hb hc
theorem e_neg (ha : E X ρ a (.int i)) : E X ρ (.UnaryOp .USub a pos) (.int (-i)) := e_of (pe_un un_neg pe_we) fun I σ H hx vs Q k =>
  ha I σ H hx vs _ fun x I1 H1 n1 r1 => by
    cases r1
    exact ⟨i, rfl, k _ I1 H1 n1 (.int _)⟩
/-- comparisons of whole numbers: as values, as tests -/
theorem e_cmpI {op : CmpOp} {f : Int → Int → Bool} (ho : OpR X (compareOp op) (rI0 fun i j => .bl (f i j))) (hm : behindInMarks op b = false) (ha : E X ρ a (.int i)) (hb : E X ρ b (.int j)) : E X ρ (.Compare a [op] [b] pos) (.bool (f i j)) :=
  e_two (pe_cmpR ho pe_we pe_we hm) ha hb fun I H hx x y rx ry Q q => by
    cases rx; cases ry
    exact ⟨i, j, rfl, rfl, q _ I H (.refl hx) (.bl _)⟩
theorem t_two {op : CmpOp} {r : R2} {k : Bool} (ho : OpR X (compareOp op) r) (hm : behindInMarks op b = false) (ha : E X ρ a d) (hb : E X ρ b d')
    (q : ∀ (I : Hp) (H : Hp), Ex I H → ∀ x y, Rp I x d → Rp I y d' → ∀ Q : VK, (∀ v I' H', Nw I H I' H' → Rp I' v (.bool k) → Q v H') → r x y H Q) : T X ρ (.Compare a [op] [b] pos) k :=
  t_of (pt_cmpR ho pe_we pe_we hm) fun I σ H hx vs Q z =>
  ha I σ H hx vs _ fun x I1 H1 n1 r1 => hb I1 σ H1 n1.j (vs.up n1.i) _ fun y I2 H2 n2 r2 => q I2 H2 n2.j x y (r1.up n2.i) r2 _ fun v I3 H3 n3 r3 => by
    cases r3
    exact ⟨k, rfl, z I3 H3 ((n1.trans n2).trans n3)⟩
theorem t_cmpI {op : CmpOp} {f : Int → Int → Bool} (ho : OpR X (compareOp op) (rI0 fun i j => .bl (f i j))) (hm : behindInMarks op b = false) (ha : E X ρ a (.int i)) (hb : E X ρ b (.int j)) : T X ρ (.Compare a [op] [b] pos) (f i j) :=
  t_two ho hm ha hb fun I H hx x y rx ry Q q => by
    cases rx; cases ry
    exact ⟨i, j, rfl, rfl, q _ I H (.refl hx) (.bl _)⟩
theorem e_lt (ha : E X ρ a (.int i)) (hb : E X ρ b (.int j)) : E X ρ (.Compare a [.Lt] [b] pos) (.bool (decide (i < j))) := e_cmpI op_lt (nomark _) ha hb
theorem e_le (ha : E X ρ a (.int i)) (hb : E X ρ b (.int j)) : E X ρ (.Compare a [.LtE] [b] pos) (.bool (decide (i ≤ j))) := e_cmpI op_le (nomark _) ha hb
theorem e_gt (ha : E X ρ a (.int i)) (hb : E X ρ b (.int j)) : E X ρ (.Compare a [.Gt] [b] pos) (.bool (decide (j < i))) := e_cmpI op_gt (nomark _) ha hb
theorem e_ge (ha : E X ρ a (.int i)) (hb : E X ρ b (.int j)) : E X ρ (.Compare a [.GtE] [b] pos) (.bool (decide (j ≤ i))) := e_cmpI op_ge (nomark _) ha hb
theorem t_lt (ha : E X ρ a (.int i)) (hb : E X ρ b (.int j)) : T X ρ (.Compare a [.Lt] [b] pos) (decide (i < j)) := t_cmpI op_lt (nomark _) ha hb
theorem t_le (ha : E X ρ a (.int i)) (hb : E X ρ b (.int j)) : T X ρ (.Compare a [.LtE] [b] pos) (decide (i ≤ j)) := t_cmpI op_le (nomark _) ha hb
theorem t_gt (ha : E X ρ a (.int i)) (hb : E X ρ b (.int j)) : T X ρ (.Compare a [.Gt] [b] pos) (decide (j < i)) := t_cmpI op_gt (nomark _) ha hb
theorem t_ge (ha : E X ρ a (.int i)) (hb : E X ρ b (.int j)) : T X ρ (.Compare a [.GtE] [b] pos) (decide (j ≤ i)) := t_cmpI op_ge (nomark _) ha hb
/-- == and != of whole numbers -/
theorem e_eqI (ha : E X ρ a (.int i)) (hb : E X ρ b (.int j)) : E X ρ (.Compare a [.Eq] [b] pos) (.bool (decide (i = j))) :=
  e_two (pe_cmpR op_eq pe_we pe_we (nomark _)) ha hb fun I H hx x y rx ry Q q => by
    cases rx; cases ry
    have z := q (.bl (decide (V.int i = V.int j))) I H (.refl hx) (by rw [dec_int]; rw [Bool.beq_eq_decide_eq]; exact .bl _)
    exact ⟨rfl, z⟩
theorem t_eqI (ha : E X ρ a (.int i)) (hb : E X ρ b (.int j)) : T X ρ (.Compare a [.Eq] [b] pos) (decide (i = j)) :=
  t_two op_eq (nomark _) ha hb fun I H hx x y rx ry Q q => by
    cases rx; cases ry
    have z := q (.bl (decide (V.int i = V.int j))) I H (.refl hx) (by rw [dec_int]; rw [Bool.beq_eq_decide_eq]; exact .bl _)
    exact ⟨rfl, z⟩
theorem t_neI (ha : E X ρ a (.int i)) (hb : E X ρ b (.int j)) : T X ρ (.Compare a [.NotEq] [b] pos) (!decide (i = j)) :=
  t_two op_ne (nomark _) ha hb fun I H hx x y rx ry Q q => by
    cases rx; cases ry
    have z := q (.bl (!decide (V.int i = V.int j))) I H (.refl hx) (by rw [dec_int]; rw [Bool.beq_eq_decide_eq]; exact .bl _)
    exact ⟨rfl, z⟩
/-- == and != of data -/
theorem e_eqD (hu : X.A.units + 64 < cLine) (ha : E X ρ a d) (hb : E X ρ b d') (sd : SeqAt.shaped d = true) (sd' : SeqAt.shaped d' = true) : E X ρ (.Compare a [.Eq] [b] pos) (.bool (PyData.eqv d d')) :=
  e_two (pe_cmpR (op_eqD hu) pe_we pe_we (nomark _)) ha hb fun I H hx x y rx ry Q q => ⟨d, d', Rp.dp hx d (SeqAt.canLay_of_shaped sd) rx, Rp.dp hx d' (SeqAt.canLay_of_shaped sd') ry, sd, sd', q _ I H (.refl hx) (.bl _)⟩
theorem t_eqD (hu : X.A.units + 64 < cLine) (ha : E X ρ a d) (hb : E X ρ b d') (sd : SeqAt.shaped d = true) (sd' : SeqAt.shaped d' = true) : T X ρ (.Compare a [.Eq] [b] pos) (PyData.eqv d d') :=
  t_two (op_eqD hu) (nomark _) ha hb fun I H hx x y rx ry Q q => ⟨d, d', Rp.dp hx d (SeqAt.canLay_of_shaped sd) rx, Rp.dp hx d' (SeqAt.canLay_of_shaped sd') ry, sd, sd', q _ I H (.refl hx) (.bl _)⟩
theorem e_neD (hu : X.A.units + 64 < cLine) (ha : E X ρ a d) (hb : E X ρ b d') (sd : SeqAt.shaped d = true) (sd' : SeqAt.shaped d' = true) : E X ρ (.Compare a [.NotEq] [b] pos) (.bool (!PyData.eqv d d')) :=
  e_two (pe_cmpR (op_neD hu) pe_we pe_we (nomark _)) ha hb fun I H hx x y rx ry Q q => ⟨d, d', Rp.dp hx d (SeqAt.canLay_of_shaped sd) rx, Rp.dp hx d' (SeqAt.canLay_of_shaped sd') ry, sd, sd', q _ I H (.refl hx) (.bl _)⟩
theorem t_neD (hu : X.A.units + 64 < cLine) (ha : E X ρ a d) (hb : E X ρ b d') (sd : SeqAt.shaped d = true) (sd' : SeqAt.shaped d' = true) : T X ρ (.Compare a [.NotEq] [b] pos) (!PyData.eqv d d') :=
  t_two (op_neD hu) (nomark _) ha hb fun I H hx x y rx ry Q q => ⟨d, d', Rp.dp hx d (SeqAt.canLay_of_shaped sd) rx, Rp.dp hx d' (SeqAt.canLay_of_shaped sd') ry, sd, sd', q _ I H (.refl hx) (.bl _)⟩
/-- a <= b <= c, whole numbers -/
theorem e_chain {op op' : CmpOp} {f f' : Int → Int → Bool} (ho : OpR X (compareOp op) (rI0 fun i j => .bl (f i j))) (ho' : OpR X (compareOp op') (rI0 fun i j => .bl (f' i j))) (hm : lastMarks [op, op'] [b, c] = false)
    (ha : E X ρ a (.int i)) (hb : E X ρ b (.int j)) (hc : E X ρ c (.int k)) : E X ρ (.Compare a [op, op'] [b, c] pos) (.bool (f i j && f' j k)) :=
  e_of (pe_chain ho ho' pe_we pe_we pe_we hm) fun I σ H hx vs Q z =>
    ha I σ H hx vs _ fun x I1 H1 n1 r1 => hb I1 σ H1 n1.j (vs.up n1.i) _ fun y I2 H2 n2 r2 => by
      cases r1; cases r2
      refine ⟨i, j, rfl, rfl, f i j, rfl, ?_⟩
      cases hf : f i j with
      | true =>
        rw [if_pos rfl]
        refine hc I2 σ H2 n2.j ((vs.up n1.i).up n2.i) _ fun w I3 H3 n3 r3 => ?_
        cases r3
        exact ⟨j, k, rfl, rfl, z _ I3 H3 ((n1.trans n2).trans n3) (by rw [hf, Bool.true_and]; exact .bl _)⟩
      | false =>
        rw [if_neg Bool.false_ne_true]
        exact z _ I2 H2 (n1.trans n2) (by rw [hf, Bool.false_and]; exact .bl _)
theorem e_lele (ha : E X ρ a (.int i)) (hb : E X ρ b (.int j)) (hc : E X ρ c (.int k)) (hm : lastMarks [.LtE, .LtE] [b, c] = false := by with_unfolding_all rfl) : E X ρ (.Compare a [.LtE, .LtE] [b, c] pos) (.bool (decide (i ≤ j) && decide (j ≤ k))) := e_chain op_le op_le hm ha hb hc
/-- tests -/
theorem t_val {k : Bool} (h : E X ρ e (.bool k)) (he : ∀ whole, isTrue e X.env whole = (do let v ← whole; standAt e.pos; holding [v] (truthy v)) := by intro _; rfl) : T X ρ e k :=
  t_of (pt_val pe_we he) fun I σ H hx vs Q z => h I σ H hx vs _ fun v I1 H1 n1 r1 => by
    cases r1
    exact ⟨k, rfl, z I1 H1 n1⟩
theorem t_not {k : Bool} (h : T X ρ e k) : T X ρ (.UnaryOp .Not e pos) (!k) := t_of (pt_not pt_wt) fun I σ H hx vs Q z => h I σ H hx vs _ fun I1 H1 n1 => z I1 H1 n1
end

/-! and, or: chains of tests -/
def WW (X : Cx) (e : Expr) : TT := fun σ H Q => ∀ (whole : Sem Value) (pins : List (Addr × Obj)) (s : Shared), Inv X pins σ H s → wpAny (model X.prog X.w) X.A (isTrue e X.env whole) (TP X pins σ Q) X.xe s
def TW (X : Cx) (ρ : Ro) (e : Expr) (b : Bool) : Prop := ∀ (I : Hp) (σ : L2.St) (H : Hp), Ex I H → VS I σ ρ → ∀ Q : Bool → Hp → Prop, (∀ I' H', Nw I H I' H' → Q b H') → WW X e σ H Q
section
variable {X : Cx} {ρ : Ro} {e a b c : Expr} {es rest : List Expr} {d d' : PyData} {ds : List PyData} {pos p : Pos} {k l : Bool}
theorem pw_ww : PW X e (WW X e) := ⟨fun wh pins s _ _ _ I h => h wh pins s I⟩
theorem tw_of {te : TT} (h : PW X e te) (q : ∀ (I : Hp) (σ : L2.St) (H : Hp), Ex I H → VS I σ ρ → ∀ Q : Bool → Hp → Prop, (∀ I' H', Nw I H I' H' → Q k H') → te σ H Q) : TW X ρ e k := fun I σ H x v Q z wh pins s i => h.run wh pins s σ H Q i (q I σ H x v Q z)
theorem TW.t (h : TW X ρ e k) : T X ρ e k := t_of pw_ww.pt fun I σ H hx vs Q z => h I σ H hx vs Q z
theorem tw_and1 (h : T X ρ a k) : TW X ρ (.BoolOp .And [a] pos) k := tw_of (pw_and1 pt_wt) fun I σ H hx vs Q z => h I σ H hx vs Q z
theorem tw_or1 (h : T X ρ a k) : TW X ρ (.BoolOp .Or [a] pos) k := tw_of (pw_or1 pt_wt) fun I σ H hx vs Q z => h I σ H hx vs Q z
theorem tw_and (h : T X ρ a k) (hb : k = true → TW X ρ (.BoolOp .And (b :: rest) pos) l) : TW X ρ (.BoolOp .And (a :: b :: rest) pos) (k && l) := tw_of (pw_and pt_wt pw_ww) fun I σ H hx vs Q z =>
  h I σ H hx vs _ fun I1 H1 n1 => by
    cases k with
    | true =>
      rw [if_pos rfl]
      exact hb rfl I1 σ H1 n1.j (vs.up n1.i) _ fun I2 H2 n2 => z I2 H2 (n1.trans n2)
    | false =>
      rw [if_neg Bool.false_ne_true]
      exact z I1 H1 n1
theorem tw_or (h : T X ρ a k) (hb : k = false → TW X ρ (.BoolOp .Or (b :: rest) pos) l) : TW X ρ (.BoolOp .Or (a :: b :: rest) pos) (k || l) := tw_of (pw_or pt_wt pw_ww) fun I σ H hx vs Q z =>
  h I σ H hx vs _ fun I1 H1 n1 => by
    cases k with
    | false =>
      rw [if_neg Bool.false_ne_true]
      exact hb rfl I1 σ H1 n1.j (vs.up n1.i) _ fun I2 H2 n2 => z I2 H2 (n1.trans n2)
    | true =>
      rw [if_pos rfl]
      exact z I1 H1 n1
/-- as values -/
theorem e_one {op : BoolOp} (h : E X ρ a d) : E X ρ (.BoolOp op [a] pos) d := e_of (pe_one pe_we) fun I σ H hx vs Q z => h I σ H hx vs Q z
theorem e_and (h : E X ρ a (.bool k)) (hb : k = true → E X ρ (.BoolOp .And (b :: rest) pos) (.bool l)) : E X ρ (.BoolOp .And (a :: b :: rest) pos) (.bool (k && l)) := e_of (pe_and pe_we pe_we) fun I σ H hx vs Q z =>
  h I σ H hx vs _ fun v I1 H1 n1 r1 => by
    cases r1
    refine ⟨k, rfl, ?_⟩
    cases k with
    | true =>
      rw [if_pos rfl]
      exact hb rfl I1 σ H1 n1.j (vs.up n1.i) _ fun v I2 H2 n2 r2 => z v I2 H2 (n1.trans n2) r2
    | false =>
      rw [if_neg Bool.false_ne_true]
      exact z _ I1 H1 n1 (.bl _)
theorem e_or (h : E X ρ a (.bool k)) (hb : k = false → E X ρ (.BoolOp .Or (b :: rest) pos) (.bool l)) : E X ρ (.BoolOp .Or (a :: b :: rest) pos) (.bool (k || l)) := e_of (pe_or pe_we pe_we) fun I σ H hx vs Q z =>
  h I σ H hx vs _ fun v I1 H1 n1 r1 => by
    cases r1
    refine ⟨k, rfl, ?_⟩
    cases k with
    | false =>
      rw [if_neg Bool.false_ne_true]
      exact hb rfl I1 σ H1 n1.j (vs.up n1.i) _ fun v I2 H2 n2 r2 => z v I2 H2 (n1.trans n2) r2
    | true =>
      rw [if_pos rfl]
      exact z _ I1 H1 n1 (.bl _)
theorem e_not (h : E X ρ a (.bool k)) : E X ρ (.UnaryOp .Not a pos) (.bool (!k)) := e_of (pe_not pe_we) fun I σ H hx vs Q z =>
  h I σ H hx vs _ fun v I1 H1 n1 r1 => by
    cases r1
    exact ⟨k, rfl, z _ I1 H1 n1 (.bl _)⟩
theorem e_ifExp (h : T X ρ c k) (h1 : k = true → E X ρ a d) (h2 : k = false → E X ρ b d) : E X ρ (.IfExp c a b pos) d := e_of (pe_ifExp pt_wt pe_we pe_we) fun I σ H hx vs Q z =>
  h I σ H hx vs _ fun I1 H1 n1 => by
    cases k with
    | true =>
      rw [if_pos rfl]
      exact h1 rfl I1 σ H1 n1.j (vs.up n1.i) _ fun v I2 H2 n2 r2 => z v I2 H2 (n1.trans n2) r2
    | false =>
      rw [if_neg Bool.false_ne_true]
      exact h2 rfl I1 σ H1 n1.j (vs.up n1.i) _ fun v I2 H2 n2 r2 => z v I2 H2 (n1.trans n2) r2
/-! arguments, displays -/
theorem as_nil : As X ρ [] [] := fun I σ H hx vs Q z => wa_of pa_nil (z [] I H (.refl hx) .nil)
theorem as_cons (h : E X ρ e d) (hr : As X ρ es ds) (hs : starEach (e :: es) X.env = (false, eval e X.env) :: starEach es X.env := by rfl) : As X ρ (e :: es) (d :: ds) := fun I σ H hx vs Q z =>
  wa_of (pa_cons pe_we pa_wa hs) (h I σ H hx vs _ fun v I1 H1 n1 r1 => hr I1 σ H1 n1.j (vs.up n1.i) _ fun us I2 H2 n2 r2 => z _ I2 H2 (n1.trans n2) (.cons (r1.up n2.i) r2))
theorem e_tup {x1 : Nat} (h : As X ρ es ds) (hl : ds.length ≤ 100000) : E X ρ (.Tuple es x1 pos) (.tuple ds) := e_of (pe_tup pa_wa) fun I σ H hx vs Q z =>
  h I σ H hx vs _ fun us I1 H1 n1 r1 => ⟨by rw [r1.length]; exact sz_of hl, fun q hq => z _ _ _ (n1.trans (Nw.new n1.j hq)) (.tup upd_same (r1.up (Nw.new (o := .tup us) n1.j hq).i))⟩
theorem e_lst {x1 : Nat} (h : As X ρ es ds) (hl : ds.length ≤ 100000) : E X ρ (.List es pos) (.list ds) := e_of (pe_lst pa_wa) fun I σ H hx vs Q z =>
  h I σ H hx vs _ fun us I1 H1 n1 r1 => ⟨by rw [r1.length]; exact sz_of hl, fun q hq => z _ _ _ (n1.trans (Nw.new n1.j hq)) (.lst upd_same (r1.up (Nw.new (o := .lst us) n1.j hq).i))⟩
end
end R1

set_option Elab.async false
set_option linter.all false
set_option maxRecDepth 100000
set_option maxHeartbeats 4000000
/-! CoreB: more that is walked: zip and enumerate of lists and tuples in any mix; the items of a dict whose keys are tuples. -/
namespace R1
open PySem PySem.Spec PyProof.Rows L2 Evl

/-- a list (false) or a tuple (true) -/
def SqB (K : PySem.W.Frag) : Bool → Hp → Addr → List V → Prop
  | false, H, a, xs => SqL K H a xs
  | true, H, a, xs => SqT K H a xs
def IsB : Bool → Heap → Addr → Array Value → Prop
  | false, h, a, its => h.IsList a its
  | true, h, a, its => h.IsTuple a its
def ItB : Bool → Heap → Addr → Addr → Nat → Prop
  | false, h, it, a, i => h.IsListIter it a i
  | true, h, it, a, i => h.IsTupleIter it a i
def obB : Bool → Addr → Obj
  | false, a => { cls := .type "list_iterator", data := .fields #[.ref a, .int 0 0] }
  | true, a => { cls := .type "tuple_iterator", data := .fields #[.ref a, .int 0 0] }
theorem SqB.up {K : PySem.W.Frag} {H H' : Hp} {a : Addr} {xs : List V} : ∀ {k : Bool}, Ex H H' → SqB K k H a xs → SqB K k H' a xs
  | false, e, h => ex_l e h
  | true, e, h => ex_t e h
section
variable {X : Cx} {pins : List (Addr × Obj)} {σ : L2.St} {H : Hp} {s : Shared} {a : Addr} {xs ys : List V}
theorem Inv.sqB (I : Inv X pins σ H s) : ∀ {k : Bool}, SqB X.K k H a xs → ∃ its : List Value, Vals xs its ∧ IsB k s.heap a its.toArray ∧ xs.length ≤ sizeLine ∧ a < s.heap.objs.size
  | false, h => let ⟨its, r, p, z⟩ := I.list h; ⟨its, r, p.isList, z, p.lt⟩
  | true, h => let ⟨its, r, p, z⟩ := I.tuple h; ⟨its, r, (show s.heap.IsTuple a its.toArray from p), z, p.lt⟩
theorem Inv.sqB_inj (I : Inv X pins σ H s) : ∀ {k : Bool}, SqB X.K k H a xs → SqB X.K k H a ys → xs = ys
  | false, h, h' => I.list_inj h h'
  | true, h, h' => I.tuple_inj h h'
end
theorem drawsB {prog : Program} {w : World} {A : Around} (hh : A.handled = none) (it l : Addr) (hne : l ≠ it) (items : Array Value) : ∀ k : Bool,
    Draws prog w A it [it, l] items.size (fun i v => items[i]? = some v) (fun i h => ItB k h it l i ∧ IsB k h l items)
  | false => Draws.list hh it l hne items
  | true => Draws.tuple hh it l hne items
theorem beginsB (l : Addr) (items : Array Value) : ∀ k : Bool, Begins (.ref l) (obB k l) fun h => IsB k h l items
  | false => begins_list l items
  | true => begins_tuple l items
theorem itB_obj {h : Heap} {it a : Addr} {i : Nat} : ∀ {k : Bool}, ItB k h it a i → ∃ o, h.get? it = some o ∧ ∀ v, o.data ≠ .cell v
  | false, ⟨o, e, _, d⟩ => ⟨o, e, fun v z => by rw [d] at z; cases z⟩
  | true, ⟨o, e, _, d⟩ => ⟨o, e, fun v z => by rw [d] at z; cases z⟩
theorem itB_at {h h' : Heap} {it a : Addr} {i : Nat} : ∀ {k : Bool}, ItB k h it a i → (∀ o, h.get? it = some o → h'.get? it = some o) → ItB k h' it a i
  | false, st, k => st.at k
  | true, st, k => st.at k
theorem itB_new {h : Heap} {it a : Addr} : ∀ {k : Bool}, h.get? it = some (obB k a) → ItB k h it a 0
  | false, e => ⟨_, e, rfl, rfl⟩
  | true, e => ⟨_, e, rfl, rfl⟩

/-! ### zip of two, lists or tuples -/
def Itzm (K : PySem.W.Frag) (k l : Bool) (a b : Addr) : It :=
  ⟨fun i H => ∃ (xs ys : List V) (x y : V), SqB K k H a xs ∧ SqB K l H b ys ∧ xs[i]? = some x ∧ ys[i]? = some y,
    fun i H v H' => ∃ T x y, v = .ref T ∧ H T = none ∧ H' = upd H T (.tup [x, y]) ∧ (∀ xs, SqB K k H a xs → xs[i]? = some x) ∧ ∀ ys, SqB K l H b ys → ys[i]? = some y,
    fun i H => ∃ xs ys : List V, SqB K k H a xs ∧ SqB K l H b ys ∧ i = min xs.length ys.length⟩

theorem sep_of {z TI TO i1 i2 a b : Addr} (D : ZipApart z TI TO i1 i2 a b) : ZipSep2 z TI TO i1 i2 [i1, a] [i2, b] where
  TIz := D.TIz
  TOz := D.TOz
  TITO := D.TITO
  TIi1 := D.TIi1
  mem1 := List.mem_cons_self
  zf1 := by simp only [List.mem_cons, List.not_mem_nil, or_false, not_or]; exact ⟨Ne.symm D.i1z, Ne.symm D.l1z⟩
  Tf1 := by simp only [List.mem_cons, List.not_mem_nil, or_false, not_or]; exact ⟨D.TOi1, Ne.symm D.l1TO⟩
  TIi2 := D.TIi2
  mem2 := List.mem_cons_self
  zf2 := by simp only [List.mem_cons, List.not_mem_nil, or_false, not_or]; exact ⟨Ne.symm D.i2z, Ne.symm D.l2z⟩
  Tf2 := by simp only [List.mem_cons, List.not_mem_nil, or_false, not_or]; exact ⟨D.TOi2, Ne.symm D.l2TO⟩
  sep1_2 := by simp only [List.mem_cons, List.not_mem_nil, or_false, not_or]; exact ⟨D.i12, Ne.symm D.l2i1⟩
  sep2_1 := by simp only [List.mem_cons, List.not_mem_nil, or_false, not_or]; exact ⟨Ne.symm D.i12, Ne.symm D.l1i2⟩
theorem turn_zipM {P : Program} {w : World} {K : PySem.W.Frag} {elts : List Expr} {kk : Nat} {tpos : Pos} {k l : Bool} {a b z TI TO i1 i2 : Addr} (D : ZipApart z TI TO i1 i2 a b) :
    Turn P w K (.Tuple elts kk tpos) (Itzm K k l a b) [z, TI, TO, i1, i2] z (fun i h => IsZip h z TI TO .none ∧ IsTupOf2 h TI (.ref i1) (.ref i2) ∧ (∃ x y, IsTupOf2 h TO x y) ∧ ItB k h i1 a i ∧ ItB l h i2 b i) where
  mem := by simp
  obj := fun i h st c hc => by
    obtain ⟨hz, hTI, ⟨x, y, hTO⟩, h1, h2⟩ := st
    have e' : c = z ∨ c = TI ∨ c = TO ∨ c = i1 ∨ c = i2 := by simpa using hc
    rcases e' with q | q | q | q | q
    · rw [q]; exact ⟨_, hz, fun v q => nomatch q⟩
    · rw [q]; exact ⟨_, hTI, fun v q => nomatch q⟩
    · rw [q]; exact ⟨_, hTO, fun v q => nomatch q⟩
    · rw [q]; exact itB_obj h1
    · rw [q]; exact itB_obj h2
  keep := fun i h h' st k => by
    obtain ⟨hz, hTI, ⟨x, y, hTO⟩, h1, h2⟩ := st
    exact ⟨k z (by simp) _ hz, k TI (by simp) _ hTI, ⟨x, y, k TO (by simp) _ hTO⟩, itB_at h1 fun o q => k i1 (by simp) o q, itB_at h2 fun o q => k i2 (by simp) o q⟩
  item := by
    intro X hP hw hK hc i pins s σ H E I hf st hg
    subst hP hw hK
    obtain ⟨hz, hTI, hTO, h1, h2⟩ := st
    obtain ⟨xs, ys, x, y, hqx, hqy, hx, hy⟩ := hg
    obtain ⟨its, rv, p, _, la⟩ := R1.Inv.sqB I hqx
    obtain ⟨its2, rv2, p2, _, lb⟩ := R1.Inv.sqB I hqy
    obtain ⟨u, hu, ru⟩ := rv.get hx
    obtain ⟨u2, hu2, ru2⟩ := rv2.get hy
    have hd : X.A.in1.handled = none := I.ok.hd hc
    have G := GoesN.zip2 (elts := elts) (x1 := kk) (pos := tpos) (sep_of D) (drawsB (prog := X.prog) (w := X.w) hd i1 a D.l1i1 its.toArray k) (drawsB (prog := X.prog) (w := X.w) hd i2 b D.l2i2 its2.toArray l)
    have hi1 : i < its.length := (List.getElem?_eq_some_iff.mp hu).1
    have hi2 : i < its2.length := (List.getElem?_eq_some_iff.mp hu2).1
    refine G.goes i s _ E (by simp only [List.size_toArray]; omega) ⟨hz, hTI, hTO, ⟨h1, p⟩, h2, p2⟩ fun v h' tk Y st' kk' _ => ?_
    obtain ⟨T, x', y', rfl, hT, ex, ey, tT⟩ := Y
    obtain ⟨z', TI', TO', ⟨a1, _⟩, a2, _⟩ := st'
    have ex' : x' = u := by
      have : its[i]? = some x' := by simpa using ex
      rw [hu] at this
      exact (Option.some.inj this).symm
    have ey' : y' = u2 := by
      have : its2[i]? = some y' := by simpa using ey
      rw [hu2] at this
      exact (Option.some.inj this).symm
    subst ex' ey'
    have new : ObjOk X.prog X.w (upd H T (.tup [x, y])) h' T (.tup [x, y]) :=
      ⟨by show 2 ≤ sizeLine; decide, [x', y'], .cons ru (.cons ru2 .nil), (show IsTup h' T [x', y'].toArray from tT)⟩
    have I1 : L2.Inv X pins σ (upd H T (.tup [x, y])) { s with heap := h', toks := tk } :=
      I.turnedNew (ch := [z, TI, TO, i1, i2]) (fun c o hb q => kk' c o (fun q' => hb (by
        have e' : c = z ∨ c = TO ∨ c = i1 ∨ c = i2 := by simpa using q'
        rcases e' with q | q | q | q <;> simp [q])) q) hf hT new
    refine ⟨.ref T, _, I1, rfl, ⟨_, x, y, rfl, I.hok.fresh hT, rfl, fun l hl => by rw [R1.Inv.sqB_inj I hl hqx]; exact hx, fun l hl => by rw [R1.Inv.sqB_inj I hl hqy]; exact hy⟩, ⟨z', TI', TO', a1, a2⟩, fun c hcm => ?_⟩
    have hne : c ≠ T := fun e => by
      obtain ⟨x0, y0, hTO'⟩ := hTO
      have hlt : c < s.heap.objs.size := by
        have e' : c = z ∨ c = TI ∨ c = TO ∨ c = i1 ∨ c = i2 := by simpa using hcm
        rcases e' with q | q | q | q | q
        · rw [q]; exact Heap.lt_size hz
        · rw [q]; exact Heap.lt_size hTI
        · rw [q]; exact Heap.lt_size hTO'
        · rw [q]; obtain ⟨_, e1, _⟩ := itB_obj h1; exact Heap.lt_size e1
        · rw [q]; obtain ⟨_, e1, _⟩ := itB_obj h2; exact Heap.lt_size e1
      rw [e] at hlt
      exact absurd (Nat.lt_of_lt_of_le hlt hT) (Nat.lt_irrefl _)
    rw [upd_ne hne]
    exact (hf c hcm).1
  done := by
    intro X hP hw hK hc i pins s σ H E I hf st hg
    subst hP hw hK
    obtain ⟨hz, hTI, hTO, h1, h2⟩ := st
    obtain ⟨xs, ys, hqx, hqy, hend⟩ := hg
    obtain ⟨its, rv, p, _, la⟩ := R1.Inv.sqB I hqx
    obtain ⟨its2, rv2, p2, _, lb⟩ := R1.Inv.sqB I hqy
    have l1 := rv.length
    have l2 := rv2.length
    have hd : X.A.in1.handled = none := I.ok.hd hc
    have G := GoesN.zip2 (elts := elts) (x1 := kk) (pos := tpos) (sep_of D) (drawsB (prog := X.prog) (w := X.w) hd i1 a D.l1i1 its.toArray k) (drawsB (prog := X.prog) (w := X.w) hd i2 b D.l2i2 its2.toArray l)
    have he : i = min its.toArray.size its2.toArray.size := by simp only [List.size_toArray]; omega
    rw [he] at h1 h2
    refine thn (G.stops s (fun s' => L2.Inv X pins σ H s') E ⟨hz, hTI, hTO, ⟨h1, p⟩, h2, p2⟩ fun h' tk kk' _ => ?_) fun r s' q => q
    exact I.turnedL (ch := [z, TI, TO, i1, i2]) (fun c o hb q => kk' c o (fun q' => hb (by
        have e' : c = z ∨ c = TO ∨ c = i1 ∨ c = i2 := by simpa using q'
        rcases e' with q | q | q | q <;> simp [q])) q) hf
  self := fun A i s Q E st h => wpAny_pyIter_zip st.1 h
def iZipM (K : PySem.W.Frag) (k l : Bool) (ta : TA) : TI := fun σ H R => ta σ H fun vs H1 => ∃ a b xs ys, vs = [.ref a, .ref b] ∧ SqB K k H1 a xs ∧ SqB K l H1 b ys ∧ R (Itzm K k l a b) H1
theorem fp5 {X : Cx} {pins : List (Addr × Obj)} {σ : L2.St} {H : Hp} {s : Shared} (I : L2.Inv X pins σ H s) : ∀ c, c ∈ [s.heap.objs.size + 4, s.heap.objs.size + 2, s.heap.objs.size + 3, s.heap.objs.size, s.heap.objs.size + 1] → FpOk X pins H c := fun c hcm => by
  have e' : c = s.heap.objs.size + 4 ∨ c = s.heap.objs.size + 2 ∨ c = s.heap.objs.size + 3 ∨ c = s.heap.objs.size ∨ c = s.heap.objs.size + 1 := by simpa using hcm
  have hle : s.heap.objs.size ≤ c := by
    rcases e' with z | z | z | z | z
    · rw [z]; exact Nat.le_add_right _ _
    · rw [z]; exact Nat.le_add_right _ _
    · rw [z]; exact Nat.le_add_right _ _
    · rw [z]; exact Nat.le_refl _
    · rw [z]; exact Nat.le_add_right _ _
  exact I.fpOk hle (I.hok.fresh hle)
theorem pi_zipM {X : Cx} {e e2 : Expr} {ta : TA} {p pos tpos : Pos} {elts : List Expr} {kk : Nat} {k l : Bool} (hg : Gl X "zip") (hm : X.mg "zip" = none) (ha : PA X [e, e2] ta)
    (hs : starEach [e, e2] X.env = (false, eval e X.env) :: starEach [e2] X.env := by rfl) (hpl : (backTo pos (starEach [e2] X.env)).any (·.1) = false := by rfl) :
    PI X (.Tuple elts kk tpos) (.Call (.Name "zip" p) [e, e2] [] pos) (iZipM X.K k l ta) := by
  refine ⟨fun pins s σ H R I h => ?_⟩
  refine Call_ (ld_blt I hg hm PyProof.Rows.boot_zip (PyProof.Rows.callWith_type1 (thn (ha.run pos pins s σ H _ I h) fun us s1 ⟨vs, H1, I1, r1, q1⟩ => ?_) hs hpl))
  obtain ⟨a, b, xs, ys, ex, hqx, hqy, q⟩ := q1
  subst ex
  cases r1 with
  | cons r rr =>
    cases rr with
    | cons r' rr =>
      cases rr
      cases r
      cases r'
      obtain ⟨its, rv, p1, _, la⟩ := R1.Inv.sqB I1 hqx
      obtain ⟨its2, rv2, p2, _, lb⟩ := R1.Inv.sqB I1 hqy
      refine zip_begins2 (beginsB a its.toArray k) (beginsB b its2.toArray l) p1 p2 fun h' hz hTI hTO h1 h2 hsz hk => wpAny_pyIter_zip hz ?_
      have I2 : L2.Inv X pins σ H1 { s1 with heap := h' } := I1.kept (t' := s1.toks) hk
      exact ⟨s1.heap.objs.size + 4, [s1.heap.objs.size + 4, s1.heap.objs.size + 2, s1.heap.objs.size + 3, s1.heap.objs.size, s1.heap.objs.size + 1], _, _, H1, rfl, I2, turn_zipM (PySem.W.ktu_apart s1.heap.objs.size a b la lb), ⟨hz, hTI, ⟨_, _, hTO⟩, itB_new h1, itB_new h2⟩, fp5 I1, q⟩

/-! ### enumerate of a list or a tuple -/
theorem enum_new1 {v : Value} {o : Obj} {Hh : Heap → Prop} (B : Begins v o Hh) :
    Meets (Builtin.«enumerate.__new__» ⟨[.type "enumerate", v], []⟩) (fun _ R s => Hh s.heap ∧
      R (.ok (.ret (.ref (s.heap.push o).objs.size))) { s with heap := (s.heap.push o).push { cls := .type "enumerate", data := .fields #[.none, .bool false, .ref s.heap.objs.size, rawInt 0, .none, .none] } }) :=
  .of_wp fun prog w A R s h => by
    obtain ⟨hp, g, d, tk, os⟩ := s; obtain ⟨h1, h⟩ := h
    have hsub := sub_enumerate
    have q1 : ∀ {A' : Around} {E : Value → Shared → Prop} {Q : Value → Shared → Prop}, Q (.ref hp.objs.size) ⟨hp.push o, g, d, tk, os⟩ → wpAny (model prog w) A' (pyIter v) Q E ⟨hp, g, d, tk, os⟩ :=
      fun q => B.iter prog w _ _ ⟨hp, g, d, tk, os⟩ _ h1 q
    wp_walk using q1
    refine wpAny_stack_any fun st => wpAny_pure ?_
    split
    · rename_i c _ _ _ _ _
      cases (c == Value.type "enumerate")
      · wp_walk using q1
        exact ⟨_, rfl, h⟩
      · wp_walk using q1
        exact ⟨_, rfl, h⟩
    · wp_walk using q1
      exact ⟨_, rfl, h⟩
theorem call_enum1 {prog : Program} {w : World} {A : Around} {E : Value → Shared → Prop} {s : Shared} {v : Value} {o : Obj} {Hh : Heap → Prop} {Q : Value → Shared → Prop} (B : Begins v o Hh) (h1 : Hh s.heap)
    (h : ∀ h', IsEnum h' (s.heap.objs.size + 1) s.heap.objs.size 0 .none → h'.get? s.heap.objs.size = some o → h'.objs.size = s.heap.objs.size + 2 →
      (∀ b o, s.heap.get? b = some o → h'.get? b = some o) → Q (.ref (s.heap.objs.size + 1)) { s with heap := h' }) :
    wpAny (model prog w) A (call (.type "enumerate") [v]) Q E s := by
  refine callType_new F.called_enumerate (by decide) (F.typeCall_enumerate_1 _) (F.newCall_enumerate_1 _) (fun obj => F.args_object_init_2 obj _) F.entry_enumerate_new
    (enum_new1 B) ⟨h1, ?_⟩
  have hz : (s.heap.push o).objs.size = s.heap.objs.size + 1 := Heap.size_push ..
  show _ ∧ _
  rw [hz]
  have he : IsEnum ((s.heap.push o).push { cls := .type "enumerate", data := .fields #[.none, .bool false, .ref s.heap.objs.size, rawInt 0, .none, .none] }) (s.heap.objs.size + 1) s.heap.objs.size 0 .none := by
    have := Heap.get?_push_size (s.heap.push o) (o := { cls := .type "enumerate", data := .fields #[.none, .bool false, .ref s.heap.objs.size, rawInt 0, .none, .none] }) rfl
    rw [hz] at this; exact this
  exact ⟨⟨_, he, rfl⟩, h _ he (Heap.get?_push_of_some _ (Heap.get?_push_size _ B.free)) (by rw [Heap.size_push, hz]) fun b o x => Heap.get?_push_of_some _ (Heap.get?_push_of_some _ x)⟩
def Item (K : PySem.W.Frag) (k : Bool) (a : Addr) : It :=
  ⟨fun i H => ∃ (xs : List V) (x : V), SqB K k H a xs ∧ xs[i]? = some x, fun i H v H' => ∃ T x, v = .ref T ∧ H T = none ∧ H' = upd H T (.tup [.int (i : Nat), x]) ∧ ∀ xs, SqB K k H a xs → xs[i]? = some x,
    fun i H => ∃ xs : List V, SqB K k H a xs ∧ i = xs.length⟩
theorem turn_enumM {P : Program} {w : World} {K : PySem.W.Frag} {elts : List Expr} {kk : Nat} {tpos : Pos} {k : Bool} (a e it : Addr) (h1 : e ≠ it) (h2 : a ≠ e) (h3 : a ≠ it) :
    Turn P w K (.Tuple elts kk tpos) (Item K k a) [e, it] e (fun i h => (∃ old, IsEnum h e it (0 + ((i : Nat) : Int)) old) ∧ ItB k h it a i) where
  mem := by simp
  obj := fun i h st b hb => by
    obtain ⟨⟨old, he⟩, hi⟩ := st
    have e' : b = e ∨ b = it := by simpa using hb
    rcases e' with z | z
    · rw [z]; exact ⟨_, he, fun v q => nomatch q⟩
    · rw [z]; exact itB_obj hi
  keep := fun i h h' st k => let ⟨⟨old, he⟩, hi⟩ := st; ⟨⟨old, k e (by simp) _ he⟩, itB_at hi fun o q => k it (by simp) o q⟩
  item := by
    intro X hP hw hK hc i pins s σ H E I hf st hg
    subst hP hw hK
    obtain ⟨he, hit⟩ := st
    obtain ⟨xs, x, hq, hx⟩ := hg
    obtain ⟨its, rv, p, hz, la⟩ := R1.Inv.sqB I hq
    obtain ⟨u, hu, ru⟩ := rv.get hx
    have hd : X.A.in1.handled = none := I.ok.hd hc
    have G := GoesN.enumFrom (elts := elts) (x1 := kk) (pos := tpos) 0 (drawsB (prog := X.prog) (w := X.w) hd it a h3 its.toArray k) e h1 (by simp only [List.mem_cons, List.not_mem_nil, or_false, not_or]; exact ⟨h1, Ne.symm h2⟩) (by simp)
    have hi1 : i < its.length := (List.getElem?_eq_some_iff.mp hu).1
    refine G.goes i s _ E (by simpa using hi1) ⟨he, hit, p⟩ fun v h' tk Y st' kk' _ => ?_
    obtain ⟨T, t, x', rfl, hT, ex, tT⟩ := Y
    obtain ⟨he', hit', _⟩ := st'
    have ex' : x' = u := by
      have : its[i]? = some x' := by simpa using ex
      rw [hu] at this
      exact (Option.some.inj this).symm
    subst ex'
    have e0 : (0 : Int) + (i : Int) = ((i : Nat) : Int) := Int.zero_add _
    have new : ObjOk X.prog X.w (upd H T (.tup [.int (i : Nat), x])) h' T (.tup [.int (i : Nat), x]) :=
      ⟨by show 2 ≤ sizeLine; decide, [.int (0 + (i : Int)) t, x'], .cons ⟨t, by rw [e0]⟩ (.cons ru .nil), (show IsTup h' T [.int (0 + (i : Int)) t, x'].toArray from tT)⟩
    have I1 : L2.Inv X pins σ (upd H T (.tup [.int (i : Nat), x])) { s with heap := h', toks := tk } := I.turnedNew (ch := [e, it]) (fun c o hb q => kk' c o hb q) hf hT new
    refine ⟨.ref T, _, I1, rfl, ⟨_, x, rfl, I.hok.fresh hT, rfl, fun l hl => by rw [R1.Inv.sqB_inj I hl hq]; exact hx⟩, ⟨he', hit'⟩, fun c hcm => ?_⟩
    have hne : c ≠ T := fun ee => by
      have hlt : c < s.heap.objs.size := by
        have e' : c = e ∨ c = it := by simpa using hcm
        rcases e' with q | q
        · rw [q]; obtain ⟨old, he0⟩ := he; exact Heap.lt_size he0
        · rw [q]; obtain ⟨_, e1, _⟩ := itB_obj hit; exact Heap.lt_size e1
      rw [ee] at hlt
      exact absurd (Nat.lt_of_lt_of_le hlt hT) (Nat.lt_irrefl _)
    rw [upd_ne hne]
    exact (hf c hcm).1
  done := by
    intro X hP hw hK hc i pins s σ H E I hf st hg
    subst hP hw hK
    obtain ⟨he, hit⟩ := st
    obtain ⟨xs, hq, hend⟩ := hg
    obtain ⟨its, rv, p, hz, la⟩ := R1.Inv.sqB I hq
    have hl := rv.length
    have hd : X.A.in1.handled = none := I.ok.hd hc
    have G := GoesN.enumFrom (elts := elts) (x1 := kk) (pos := tpos) 0 (drawsB (prog := X.prog) (w := X.w) hd it a h3 its.toArray k) e h1 (by simp only [List.mem_cons, List.not_mem_nil, or_false, not_or]; exact ⟨h1, Ne.symm h2⟩) (by simp)
    have hi : i = its.toArray.size := by simp only [List.size_toArray]; omega
    rw [hi] at he hit
    exact thn (G.stops s (fun s' => L2.Inv X pins σ H s') E ⟨he, hit, p⟩ fun h' tk kk' _ => I.turnedL (ch := [e, it]) (fun c o hb q => kk' c o hb q) hf) fun r s' q => q
  self := fun A i s Q E st h => let ⟨⟨_, he⟩, _⟩ := st; wpAny_pyIter_enum he h
def iEnumM (K : PySem.W.Frag) (k : Bool) (ta : TA) : TI := fun σ H R => ta σ H fun vs H1 => ∃ a xs, vs = [.ref a] ∧ SqB K k H1 a xs ∧ R (Item K k a) H1
theorem pi_enumM {X : Cx} {e : Expr} {ta : TA} {p pos tpos : Pos} {elts : List Expr} {kk : Nat} {k : Bool} (hg : Gl X "enumerate") (hm : X.mg "enumerate" = none) (ha : PA X [e] ta) (hs : starEach [e] X.env = [(false, eval e X.env)] := by rfl) :
    PI X (.Tuple elts kk tpos) (.Call (.Name "enumerate" p) [e] [] pos) (iEnumM X.K k ta) := by
  refine ⟨fun pins s σ H R I h => ?_⟩
  refine Call_ (ld_blt I hg hm boot_enumerate (PyProof.Rows.callWith_type1 (thn (ha.run pos pins s σ H _ I h) fun us s1 ⟨vs, H1, I1, r1, q1⟩ => ?_) hs rfl))
  obtain ⟨a, xs, ex, hq, q⟩ := q1
  subst ex
  cases r1 with
  | cons r rr =>
    cases rr
    cases r
    obtain ⟨its, rv, p', hz, la⟩ := R1.Inv.sqB I1 hq
    refine call_enum1 (beginsB a its.toArray k) p' fun h' he hit hsz hk => wpAny_pyIter_enum he ?_
    have I2 : L2.Inv X pins σ H1 { s1 with heap := h' } := I1.kept (t' := s1.toks) hk
    have e0 : (0 : Int) + ((0 : Nat) : Int) = 0 := rfl
    refine ⟨s1.heap.objs.size + 1, [s1.heap.objs.size + 1, s1.heap.objs.size], _, _, H1, rfl, I2, turn_enumM a (s1.heap.objs.size + 1) s1.heap.objs.size (Nat.succ_ne_self _) (Nat.ne_of_lt (Nat.lt_succ_of_lt la)) (Nat.ne_of_lt la), ⟨⟨.none, he⟩, itB_new hit⟩, fun b hb => ?_, q⟩
    have e' : b = s1.heap.objs.size + 1 ∨ b = s1.heap.objs.size := by simpa using hb
    have hle : s1.heap.objs.size ≤ b := by
      rcases e' with z | z
      · rw [z]; exact Nat.le_add_right _ _
      · rw [z]; exact Nat.le_refl _
    exact I1.fpOk hle (I1.hok.fresh hle)

/-! ### the items of a dict whose keys are tuples (locked) -/
theorem frzTv {X : Cx} {pins : List (Addr × Obj)} {σ : L2.St} {H : Hp} {s : Shared} {d : Addr} {o : Obj} {kvs : List (List L2.Key × V)} (I : L2.Inv X pins σ H s) (h : H d = some (.frz o (.dT kvs))) :
    (d == sysModules) = false ∧ s.heap.get? d = some o ∧ o.ExactDict ∧ ∃ (es : Array DictEntry) (ep : Nat), o.data = .dict es ep ∧ es.size = kvs.length ∧
      ∀ (i : Nat) (k : List L2.Key) (v : V), kvs[i]? = some (k, v) → ∃ (en : DictEntry) (q : Addr), es[i]? = some en ∧ en.key = .ref q ∧ H q = some (.tup (k.map kV)) ∧ RelV v en.val := by
  obtain ⟨hd, z, hs, xs, pr, o', es, ep, ho, hx, hdt, he, _⟩ := I.hok d _ h
  rw [hd] at ho
  cases ho
  refine ⟨hs, hd, hx, es, ep, hdt, ?_, fun i k v e => ?_⟩
  · have l1 : es.size = xs.length := size_of_entries he
    have l2 : kvs.length = xs.length := Paired.length pr
    omega
  · obtain ⟨b, hb, e1, e2, e3⟩ := paired_get pr e
    have q := entry_at he i
    rw [hb] at q
    exact ⟨_, b.2.1, q, rfl, e2, e3⟩
def Itit (d : Addr) (o : Obj) (kvs : List (List L2.Key × V)) : It :=
  ⟨fun i H => H d = some (.frz o (.dT kvs)) ∧ i < kvs.length, fun i H x H' => ∃ (T : Addr) (k : List L2.Key) (v : V) (q : Addr), kvs[i]? = some (k, v) ∧ H q = some (.tup (k.map kV)) ∧ x = .ref T ∧ H T = none ∧ H' = upd H T (.tup [.ref q, v]),
    fun i H => H d = some (.frz o (.dT kvs)) ∧ kvs.length ≤ i⟩
theorem turn_itemsT {P : Program} {w : World} {K : PySem.W.Frag} {d : Addr} {o : Obj} {es : Array DictEntry} {ep : Nat} {kvs : List (List L2.Key × V)} {elts : List Expr} {kk : Nat} {tpos : Pos} (it : Addr) (hod : o.data = .dict es ep) :
    Turn P w K (.Tuple elts kk tpos) (Itit d o kvs) [it] it (fun i h => ∃ ok ov, IsItemIter h it d i kvs.length ep ok ov) where
  mem := by simp
  obj := fun i h st b hb => by
    have e : b = it := by simpa using hb
    subst e
    obtain ⟨ok, ov, e⟩ := st
    exact ⟨_, e, fun v z => nomatch z⟩
  keep := fun i h h' st k => let ⟨ok, ov, e⟩ := st; ⟨ok, ov, k it (by simp) _ e⟩
  item := by
    intro X hP hw hK hc i pins s σ H E I hf st hg
    subst hP hw hK
    obtain ⟨hd, hi⟩ := hg
    obtain ⟨hs, hgd, hx, es', ep', hdt, hsz, ent⟩ := frzTv I hd
    obtain ⟨rfl, rfl⟩ := dict_ep hod hdt
    obtain ⟨⟨k, v⟩, hkv⟩ : ∃ p, kvs[i]? = some p := ⟨kvs[i], List.getElem?_eq_getElem hi⟩
    obtain ⟨en, q, he, hkey, hq, hval⟩ := ent i k v hkv
    obtain ⟨ok, ov, hit⟩ := st
    rw [← hsz] at hit
    have hlt : it < s.heap.objs.size := Heap.lt_size hit
    have hi' : i < es'.size := by omega
    have een : es'[i] = en := by
      rw [Array.getElem?_eq_getElem hi'] at he
      exact Option.some.inj he
    refine wpAny_pyNext_items_item_raw hit ⟨o, hgd, hx, hdt⟩ hi' fun h' ho hT hz hk => ?_
    rw [een] at ho hT
    refine ⟨_, rfl, wpAny_letOwnedTupleGo_items (s := { s with heap := h' }) ho fun h'' he' sb => ?_⟩
    rw [hkey] at hT
    have hT2 : h''.get? s.heap.objs.size = some { cls := .type "tuple", data := .seq #[.ref q, en.val] } := (sb.2 _ (Nat.ne_of_gt hlt)).trans hT
    have new : ObjOk X.prog X.w (upd H s.heap.objs.size (.tup [.ref q, v])) h'' s.heap.objs.size (.tup [.ref q, v]) :=
      ⟨by show 2 ≤ sizeLine; decide, [.ref q, en.val], .cons rfl (.cons hval .nil), ⟨_, hT2, rfl, _, rfl⟩⟩
    have I1 : L2.Inv X pins σ (upd H s.heap.objs.size (.tup [.ref q, v])) { s with heap := h'' } :=
      I.turnedNew (t' := s.toks) (ch := [it]) (fun b ob hb e => (sb.2 b (by simpa using hb)).trans (hk b ob (by simpa using hb) e)) hf (Nat.le_refl _) new
    refine ⟨.ref s.heap.objs.size, _, I1, rfl, ⟨_, k, v, q, hkv, hq, rfl, I.hok.fresh (Nat.le_refl _), rfl⟩, ⟨en.key, en.val, ?_⟩, fun b hb => ?_⟩
    · rw [← hsz]; exact he'
    · have e : b = it := by simpa using hb
      rw [e, upd_ne (Nat.ne_of_lt hlt)]
      exact (hf it (by simp)).1
  done := by
    intro X hP hw hK hc i pins s σ H E I hf st hg
    subst hP hw hK
    obtain ⟨hd, hi⟩ := hg
    obtain ⟨f0, f1, f2, f3, f4, f5⟩ := hf it (by simp)
    obtain ⟨hs, hgd, hx, es', ep', hdt, hsz, ent⟩ := frzTv I hd
    obtain ⟨rfl, rfl⟩ := dict_ep hod hdt
    obtain ⟨ok, ov, hit⟩ := st
    rw [← hsz] at hit
    exact wpAny_pyNext_items_end_raw (I.ok.hd hc) hit ⟨o, hgd, hx, hdt⟩ (by omega) fun h' eb => ⟨rfl, I.turned (t' := s.toks) (fun b ob hb e => eb b ob hb e) f0 f1 f3 f4 f5⟩
  self := fun A i s Q E st h => let ⟨_, _, e⟩ := st; PySem.W.kcp_self e h
def iItemsT (td : TE) : TI := fun σ H R => td σ H fun x H1 => ∃ d o kvs, x = .ref d ∧ H1 d = some (.frz o (.dT kvs)) ∧ R (Itit d o kvs) H1
theorem pi_itemsT {X : Cx} {e : Expr} {td : TE} {apos cpos : Pos} {elts : List Expr} {kk : Nat} {tpos : Pos} (he : PE X e td) (hbase : attributeBase e "items" X.env (eval e X.env) = eval e X.env := by rfl) (hline : (apos.endLine == cpos.line) = true := by rfl) :
    PI X (.Tuple elts kk tpos) (.Call (.Attribute e "items" apos) [] [] cpos) (iItemsT td) := by
  refine ⟨fun pins s σ H R I h => ?_⟩
  refine wpAny_Call_method (T := "dict") (id := "dict.items") hbase rfl hline F.plainAttrs_dict F.slot_dict_items F.type_dict_items (thn (he.run pins s σ H _ I h) fun u s1 ⟨x, H1, I1, rx, d, o, kvs, ex, hd, q⟩ => ?_)
  subst ex
  obtain rfl : u = Value.ref d := rx
  obtain ⟨hs, hgd, hx, es, ep, hdt, hsz, ent⟩ := frzTv I1 hd
  have raw : s1.heap.DictRaw d es ep := ⟨o, hgd, hx, hdt⟩
  have nod : ∃ o', s1.heap.get? d = some o' ∧ o'.dict = none := ⟨o, hgd, hx.2.1⟩
  refine ⟨raw.typeIs, ?_, ?_⟩
  · intro a ea
    cases ea
    exact nod
  have I2 : L2.Inv X pins σ H1 { s1 with heap := s1.heap.push { cls := .type "dict_items", data := .fields #[.ref d] } } := I1.kept (t' := s1.toks) fun b ob q => Heap.get?_push_of_some _ q
  have fin : wpAny (model X.prog X.w) X.A (pyIter (.ref s1.heap.objs.size)) (PIE X pins σ (.Tuple elts kk tpos) R) X.xe { s1 with heap := s1.heap.push { cls := .type "dict_items", data := .fields #[.ref d] } } := by
    refine wpAny_pyIter_items_raw (d := d) ⟨_, Heap.get?_push_size _ rfl, rfl, rfl⟩ (raw.at fun ob q => Heap.get?_push_of_some _ q) (pi_one (tk := s1.toks) I2 _ (turn_itemsT _ hdt) ⟨.none, .none, ?_⟩ q)
    rw [← hsz]
    exact Heap.get?_push_size _ rfl
  show wpAny _ _ (callWith cpos (.builtin "dict.items") [.ref d] [] []) _ X.xe s1
  exact method_meetsIn F.slot_dict_items F.entry_dict_items rfl (PySem.evalArgs_none ⟨rfl, raw.typeIs, F.args_dict_items_1 _, _, meets_dict_items_raw d hs, ⟨es, ep, raw⟩, fin⟩)
end R1

set_option Elab.async false
set_option linter.all false
set_option maxRecDepth 100000
set_option maxHeartbeats 4000000
/-! CoreC: what is walked, targets, comprehensions, loops, blocks, calls: over deep data. -/
namespace R1
open PySem PySem.Spec PyProof.Rows L2 Evl

/-! ### what is walked -/
def WI (X : Cx) (tg iter : Expr) : TI := fun σ H R => ∀ (pins : List (Addr × Obj)) (s : Shared), L2.Inv X pins σ H s → wpAny (model X.prog X.w) X.A (eval iter X.env) (fun v s1 => wpAny (model X.prog X.w) X.A (pyIter v) (PIE X pins σ tg R) X.xe s1) X.xe s
theorem pi_wi {X : Cx} {tg iter : Expr} : PI X tg iter (WI X tg iter) := ⟨fun pins s _ _ _ I h => h pins s I⟩
/-- it gives the data ds, whatever else is laid meanwhile; G: what is asked of the heap -/
structure ItOk (J : It) (I : Hp) (G : Hp → Prop) (ds : List PyData) : Prop where
  go : ∀ i I2 H2, Ex I I2 → Ex I2 H2 → G H2 → i < ds.length → J.go i H2
  yld : ∀ i I2 H2 x H3, Ex I I2 → Ex I2 H2 → G H2 → i < ds.length → J.yld i H2 x H3 → ∃ I3 d, Nw I2 H2 I3 H3 ∧ ds[i]? = some d ∧ Rp I3 x d
  stop : ∀ I2 H2, Ex I I2 → Ex I2 H2 → G H2 → J.stop ds.length H2
abbrev GT : Hp → Prop := fun _ => True
def IT (X : Cx) (ρ : Ro) (tg iter : Expr) (ds : List PyData) : Prop := ∀ (I : Hp) (σ : L2.St) (H : Hp), Ex I H → VS I σ ρ → ∀ R : It → Hp → Prop, (∀ J I' H', Nw I H I' H' → ItOk J I' GT ds → R J H') → WI X tg iter σ H R
theorem it_of {X : Cx} {ρ : Ro} {tg iter : Expr} {ds : List PyData} {wi : TI} (h : PI X tg iter wi) (q : ∀ (I : Hp) (σ : L2.St) (H : Hp), Ex I H → VS I σ ρ → ∀ R : It → Hp → Prop, (∀ J I' H', Nw I H I' H' → ItOk J I' GT ds → R J H') → wi σ H R) : IT X ρ tg iter ds :=
  fun I σ H hx vs R k pins s i => h.run pins s σ H R i (q I σ H hx vs R k)
theorem pa1 {X : Cx} {a : Expr} (hs : starEach [a] X.env = [(false, eval a X.env)]) : PA X [a] (tCons (WE X a) tNil) := pa_cons pe_we pa_nil (by rw [hs] <;> rfl)
theorem pa2 {X : Cx} {a b : Expr} (hs : starEach [a, b] X.env = (false, eval a X.env) :: starEach [b] X.env) (hs2 : starEach [b] X.env = [(false, eval b X.env)]) : PA X [a, b] (tCons (WE X a) (tCons (WE X b) tNil)) := pa_cons pe_we (pa1 hs2) hs
section
variable {X : Cx} {ρ : Ro} {tg iter e a b : Expr} {ds es : List PyData} {K : PySem.W.Frag} {pos p : Pos}
theorem itok_list {I : Hp} {a : Addr} {xs : List V} {G : Hp → Prop} (h : I a = some (.lst xs)) (r : RpAll I xs ds) : ItOk (Itl K a) I G ds := by
  have l : ∀ I2 H2, Ex I I2 → Ex I2 H2 → SqL K H2 a xs := fun I2 H2 e1 e2 => SqL.of (e2 _ _ (e1 _ _ h))
  refine ⟨fun i I2 H2 e1 e2 _ hi => ?_, fun i I2 H2 x H3 e1 e2 _ hi y => ?_, fun I2 H2 e1 e2 _ => ⟨xs, l I2 H2 e1 e2, by rw [r.length]; exact Nat.le_refl _⟩⟩
  · have : i < xs.length := by rw [r.length]; exact hi
    exact ⟨xs, xs[i], l I2 H2 e1 e2, List.getElem?_eq_getElem this⟩
  · obtain ⟨rfl, q⟩ := y
    obtain ⟨d, hd, rd⟩ := r.getV (q xs (l I2 H3 e1 e2))
    exact ⟨I2, d, .refl e2, hd, rd.up e1⟩
theorem itok_tup {I : Hp} {a : Addr} {xs : List V} {G : Hp → Prop} (h : I a = some (.tup xs)) (r : RpAll I xs ds) : ItOk (Itt K a) I G ds := by
  have l : ∀ I2 H2, Ex I I2 → Ex I2 H2 → SqT K H2 a xs := fun I2 H2 e1 e2 => SqT.of (e2 _ _ (e1 _ _ h))
  refine ⟨fun i I2 H2 e1 e2 _ hi => ?_, fun i I2 H2 x H3 e1 e2 _ hi y => ?_, fun I2 H2 e1 e2 _ => ⟨xs, l I2 H2 e1 e2, by rw [r.length]; exact Nat.le_refl _⟩⟩
  · have : i < xs.length := by rw [r.length]; exact hi
    exact ⟨xs, xs[i], l I2 H2 e1 e2, List.getElem?_eq_getElem this⟩
  · obtain ⟨rfl, q⟩ := y
    obtain ⟨d, hd, rd⟩ := r.getV (q xs (l I2 H3 e1 e2))
    exact ⟨I2, d, .refl e2, hd, rd.up e1⟩
theorem it_list (h : E X ρ e (.list ds)) : IT X ρ tg e ds := it_of (pi_list pe_we) fun I σ H hx vs R k => h I σ H hx vs _ fun v I1 H1 n1 r1 => by
  cases r1 with
  | lst ha hs => exact ⟨_, rfl, ⟨_, SqL.of (n1.j _ _ ha)⟩, k _ I1 H1 n1 (itok_list ha hs)⟩
theorem it_tup (h : E X ρ e (.tuple ds)) : IT X ρ tg e ds := it_of (pi_tup pe_we) fun I σ H hx vs R k => h I σ H hx vs _ fun v I1 H1 n1 r1 => by
  cases r1 with
  | tup ha hs => exact ⟨_, rfl, ⟨_, SqT.of (n1.j _ _ ha)⟩, k _ I1 H1 n1 (itok_tup ha hs)⟩
/-- whole numbers from lo on -/
def upto (lo : Int) (n : Nat) : List PyData := (List.range n).map fun (i : Nat) => PyData.int (lo + (i : Int))
theorem upto_len {lo : Int} {n : Nat} : (upto lo n).length = n := by unfold upto; rw [List.length_map, List.length_range]
theorem upto_get {lo : Int} {n i : Nat} (h : i < n) : (upto lo n)[i]? = some (.int (lo + (i : Int))) := by
  unfold upto
  rw [List.getElem?_map, List.getElem?_range h]
  rfl
theorem itok_range {I : Hp} {lo : Int} {n : Nat} {G : Hp → Prop} : ItOk (Itr lo n) I G (upto lo n) := by
  refine ⟨fun i I2 H2 _ _ _ hi => by rw [upto_len] at hi; exact hi, fun i I2 H2 x H3 _ e2 _ hi y => ?_, fun I2 H2 _ _ _ => by rw [upto_len]; exact Nat.le_refl _⟩
  obtain ⟨rfl, rfl⟩ := y
  rw [upto_len] at hi
  exact ⟨I2, _, .refl e2, upto_get hi, .int _⟩
theorem it_range1 {n : Int} (hg : Gl X "range") (hm : X.mg "range" = none) (h : E X ρ a (.int n)) (h1 : -(2 ^ 62) ≤ n := by omega) (h2 : n < 2 ^ 62 := by omega) (hs : starEach [a] X.env = [(false, eval a X.env)] := by rfl) :
    IT X ρ tg (.Call (.Name "range" p) [a] [] pos) (upto 0 n.toNat) := it_of (pi_range1 hg hm (pa1 hs) hs) fun I σ H hx vs R k => h I σ H hx vs _ fun v I1 H1 n1 r1 => by
  cases r1
  exact ⟨n, rfl, h1, h2, k _ I1 H1 n1 itok_range⟩
theorem it_range2 {m n : Int} (hg : Gl X "range") (hm : X.mg "range" = none) (ha : E X ρ a (.int m)) (hb : E X ρ b (.int n)) (h1 : -(2 ^ 62) ≤ m ∧ m < 2 ^ 62 := by omega) (h2 : -(2 ^ 62) ≤ n ∧ n < 2 ^ 62 := by omega)
    (hs : starEach [a, b] X.env = [(false, eval a X.env), (false, eval b X.env)] := by rfl) (hs2 : starEach [b] X.env = [(false, eval b X.env)] := by rfl) :
    IT X ρ tg (.Call (.Name "range" p) [a, b] [] pos) (upto m (n - m).toNat) := it_of (pi_range2 hg hm (pa2 (by rw [hs, hs2]) hs2) hs hs2) fun I σ H hx vs R k => ha I σ H hx vs _ fun v I1 H1 n1 r1 =>
  hb I1 σ H1 n1.j (vs.up n1.i) _ fun u I2 H2 n2 r2 => by
    cases r1
    cases r2
    exact ⟨m, n, rfl, ⟨h1.1, h1.2, h2.1, h2.2⟩, k _ I2 H2 (n1.trans n2) itok_range⟩
/-- a list (false), a tuple (true) of data -/
def seqD : Bool → List PyData → PyData
  | false, ds => .list ds
  | true, ds => .tuple ds
theorem Rp.seqB {I : Hp} {v : V} : ∀ {k : Bool}, Rp I v (seqD k ds) → ∃ a xs, v = .ref a ∧ SqB K k I a xs ∧ RpAll I xs ds ∧ (I a = some (if k then .tup xs else .lst xs))
  | false, .lst h hs => ⟨_, _, rfl, SqL.of h, hs, h⟩
  | true, .tup h hs => ⟨_, _, rfl, SqT.of h, hs, h⟩
def pairs (ds es : List PyData) : List PyData := (ds.zip es).map fun p => .tuple [p.1, p.2]
theorem pairs_len : (pairs ds es).length = min ds.length es.length := by unfold pairs; rw [List.length_map, List.length_zip]
theorem pairs_get {i : Nat} {d f : PyData} (h : ds[i]? = some d) (k : es[i]? = some f) : (pairs ds es)[i]? = some (.tuple [d, f]) := by
  unfold pairs
  rw [List.getElem?_map]
  have : (ds.zip es)[i]? = some (d, f) := by
    rw [List.getElem?_zip_eq_some]
    exact ⟨h, k⟩
  rw [this]
  rfl
theorem sqB_uniq {H : Hp} {a : Addr} {xs ys : List V} : ∀ {k : Bool}, H a = some (if k then .tup xs else .lst xs) → ∀ (K : PySem.W.Frag), (∀ zs, SqB K k H a zs → zs = ys) → xs = ys
  | false, h, K, q => q xs (SqL.of h)
  | true, h, K, q => q xs (SqT.of h)
theorem sqB_mk {K : PySem.W.Frag} {H : Hp} {a : Addr} {xs : List V} : ∀ {k : Bool}, H a = some (if k then .tup xs else .lst xs) → SqB K k H a xs
  | false, h => SqL.of h
  | true, h => SqT.of h
theorem it_zip {k l : Bool} {elts : List Expr} {kk : Nat} {tpos : Pos} (hg : Gl X "zip") (hm : X.mg "zip" = none) (ha : E X ρ a (seqD k ds)) (hb : E X ρ b (seqD l es))
    (hs : starEach [a, b] X.env = (false, eval a X.env) :: starEach [b] X.env := by rfl) (hs2 : starEach [b] X.env = [(false, eval b X.env)] := by rfl) (hpl : (backTo pos (starEach [b] X.env)).any (·.1) = false := by rfl) :
    IT X ρ (.Tuple elts kk tpos) (.Call (.Name "zip" p) [a, b] [] pos) (pairs ds es) := it_of (pi_zipM (k := k) (l := l) hg hm (pa2 hs hs2) hs hpl) fun I σ H hx vs R z =>
  ha I σ H hx vs _ fun v I1 H1 n1 r1 => hb I1 σ H1 n1.j (vs.up n1.i) _ fun u I2 H2 n2 r2 => by
    obtain ⟨a1, xs, rfl, sx, rx, ex⟩ := Rp.seqB (K := X.K) (r1.up n2.i)
    obtain ⟨b1, ys, rfl, sy, ry, ey⟩ := Rp.seqB (K := X.K) r2
    refine ⟨a1, b1, xs, ys, rfl, sx.up n2.j, sy.up n2.j, z _ I2 H2 (n1.trans n2) ?_⟩
    have lx : ∀ I3 H3, Ex I2 I3 → Ex I3 H3 → SqB X.K k H3 a1 xs := fun I3 H3 e1 e2 => sx.up (e1.trans e2)
    have ly : ∀ I3 H3, Ex I2 I3 → Ex I3 H3 → SqB X.K l H3 b1 ys := fun I3 H3 e1 e2 => sy.up (e1.trans e2)
    refine ⟨fun i I3 H3 e1 e2 _ hi => ?_, fun i I3 H3 x H4 e1 e2 _ hi y => ?_, fun I3 H3 e1 e2 _ => ⟨xs, ys, lx I3 H3 e1 e2, ly I3 H3 e1 e2, by rw [pairs_len, rx.length, ry.length]⟩⟩
    · rw [pairs_len, ← rx.length, ← ry.length] at hi
      have h1 : i < xs.length := by omega
      have h2 : i < ys.length := by omega
      exact ⟨xs, ys, xs[i], ys[i], lx I3 H3 e1 e2, ly I3 H3 e1 e2, List.getElem?_eq_getElem h1, List.getElem?_eq_getElem h2⟩
    · obtain ⟨T, x1, y1, rfl, hT, rfl, f1, f2⟩ := y
      obtain ⟨d1, g1, s1⟩ := rx.getV (f1 xs (lx I3 H3 e1 e2))
      obtain ⟨d2, g2, s2⟩ := ry.getV (f2 ys (ly I3 H3 e1 e2))
      have nw := Nw.new (o := .tup [x1, y1]) e2 hT
      exact ⟨_, _, nw, pairs_get g1 g2, .tup upd_same (.cons ((s1.up e1).up nw.i) (.cons ((s2.up e1).up nw.i) .nil))⟩
def counted (ds : List PyData) : List PyData := pairs (upto 0 ds.length) ds
theorem counted_len : (counted ds).length = ds.length := by unfold counted; rw [pairs_len, upto_len, Nat.min_self]
theorem counted_get {i : Nat} {d : PyData} (h : ds[i]? = some d) : (counted ds)[i]? = some (.tuple [.int (i : Int), d]) := by
  have hi : i < ds.length := (List.getElem?_eq_some_iff.mp h).1
  have := pairs_get (es := ds) (upto_get (lo := 0) hi) h
  rw [Int.zero_add] at this
  exact this
theorem it_enum {k : Bool} {elts : List Expr} {kk : Nat} {tpos : Pos} (hg : Gl X "enumerate") (hm : X.mg "enumerate" = none) (ha : E X ρ a (seqD k ds)) (hs : starEach [a] X.env = [(false, eval a X.env)] := by rfl) :
    IT X ρ (.Tuple elts kk tpos) (.Call (.Name "enumerate" p) [a] [] pos) (counted ds) := it_of (pi_enumM (k := k) hg hm (pa1 hs) hs) fun I σ H hx vs R z =>
  ha I σ H hx vs _ fun v I1 H1 n1 r1 => by
    obtain ⟨a1, xs, rfl, sx, rx, ex⟩ := Rp.seqB (K := X.K) r1
    refine ⟨a1, xs, rfl, sx.up n1.j, z _ I1 H1 n1 ?_⟩
    have lx : ∀ I3 H3, Ex I1 I3 → Ex I3 H3 → SqB X.K k H3 a1 xs := fun I3 H3 e1 e2 => sx.up (e1.trans e2)
    refine ⟨fun i I3 H3 e1 e2 _ hi => ?_, fun i I3 H3 x H4 e1 e2 _ hi y => ?_, fun I3 H3 e1 e2 _ => ⟨xs, lx I3 H3 e1 e2, by rw [counted_len, rx.length]⟩⟩
    · rw [counted_len, ← rx.length] at hi
      exact ⟨xs, xs[i], lx I3 H3 e1 e2, List.getElem?_eq_getElem hi⟩
    · obtain ⟨T, x1, rfl, hT, rfl, f1⟩ := y
      obtain ⟨d1, g1, s1⟩ := rx.getV (f1 xs (lx I3 H3 e1 e2))
      have nw := Nw.new (o := .tup [.int (i : Nat), x1]) e2 hT
      exact ⟨_, _, nw, counted_get g1, .tup upd_same (.cons (.int _) (.cons ((s1.up e1).up nw.i) .nil))⟩
end

/-! ### targets -/
structure Gt (g : TG) (ts : List Nat) (ρ : Ro) (d : PyData) (ρ' : Ro) : Prop where
  run : ∀ (I : Hp) (σ : L2.St) (H : Hp) (v : V), Ex I H → VS I σ ρ → Rp I v d → ∀ Q : L2.St → Hp → Prop, (∀ σ', VS I σ' ρ' → (∀ j, j ∉ ts → σ'[j]? = σ[j]?) → σ'.length = σ.length → Q σ' H) → g v σ H Q
theorem set_other {σ : L2.St} {i : Nat} {x : Option V} {ts : List Nat} (hi : i ∈ ts) : ∀ j, j ∉ ts → (σ.set i x)[j]? = σ[j]? := fun j hj => List.getElem?_set_ne fun e => hj (by rw [← e]; exact hi)
theorem gt_name {i : Nat} {ts : List Nat} {ρ : Ro} {d : PyData} (hi : i ∈ ts) : Gt (gName i) ts ρ d (ρ.set i (some d)) := ⟨fun I σ H v hx vs r Q q => q _ (vs.set r) (set_other hi) (List.length_set ..)⟩
theorem gt_tup2 {K : PySem.W.Frag} {i j : Nat} {ts : List Nat} {ρ : Ro} {d f : PyData} (hi : i ∈ ts) (hj : j ∈ ts) : Gt (gTup K 2 (gCons (gName i) (gCons (gName j) gNil))) ts ρ (.tuple [d, f]) ((ρ.set i (some d)).set j (some f)) := by
  refine ⟨fun I σ H v hx vs r Q q => ?_⟩
  cases r with
  | tup ha hs =>
    cases hs with
    | cons h1 h2 =>
      cases h2 with
      | cons h2 h3 =>
        cases h3
        refine ⟨_, _, rfl, SqT.of (hx _ _ ha), rfl, _, _, rfl, _, _, rfl, rfl, ?_⟩
        exact q _ ((vs.set h1).set h2) (fun k hk => by rw [set_other hj k hk, set_other hi k hk]) (by rw [List.length_set, List.length_set])
theorem gt_tup3 {K : PySem.W.Frag} {i j l : Nat} {ts : List Nat} {ρ : Ro} {d f h : PyData} (hi : i ∈ ts) (hj : j ∈ ts) (hl : l ∈ ts) :
    Gt (gTup K 3 (gCons (gName i) (gCons (gName j) (gCons (gName l) gNil)))) ts ρ (.tuple [d, f, h]) (((ρ.set i (some d)).set j (some f)).set l (some h)) := by
  refine ⟨fun I σ H v hx vs r Q q => ?_⟩
  cases r with
  | tup ha hs =>
    cases hs with
    | cons h1 h2 =>
      cases h2 with
      | cons h2 h3 =>
        cases h3 with
        | cons h3 h4 =>
          cases h4
          refine ⟨_, _, rfl, SqT.of (hx _ _ ha), rfl, _, _, rfl, _, _, rfl, _, _, rfl, rfl, ?_⟩
          exact q _ (((vs.set h1).set h2).set h3) (fun k hk => by rw [set_other hl k hk, set_other hj k hk, set_other hi k hk]) (by rw [List.length_set, List.length_set, List.length_set])

/-! ### comprehensions -/
def wipeR (ρ : Ro) : List Nat → Ro
  | [] => ρ
  | v :: vs => (wipeR ρ vs).set v none
theorem VS.wipe {I : Hp} {σ : L2.St} {ρ : Ro} (h : VS I σ ρ) : ∀ vs : List Nat, VS I (L2.wipe σ vs) (wipeR ρ vs)
  | [] => h
  | v :: vs => (h.wipe vs).forget v none
theorem wipe_get (σ : L2.St) (j : Nat) : ∀ vs : List Nat, (L2.wipe σ vs)[j]? = if j ∈ vs ∧ j < σ.length then some none else σ[j]?
  | [] => by simp [L2.wipe]
  | v :: vs => by
    unfold L2.wipe
    by_cases e : v = j
    · subst e
      by_cases hl : v < σ.length
      · rw [List.getElem?_set_self (by rw [wipe_length]; exact hl), if_pos ⟨List.mem_cons_self, hl⟩]
      · rw [List.getElem?_eq_none (by rw [List.length_set, wipe_length]; omega), if_neg (fun z => hl z.2), List.getElem?_eq_none (by omega)]
    · rw [List.getElem?_set_ne e, wipe_get σ j vs]
      by_cases hj : j ∈ vs ∧ j < σ.length
      · rw [if_pos hj, if_pos ⟨List.mem_cons_of_mem _ hj.1, hj.2⟩]
      · rw [if_neg hj, if_neg fun z => hj ⟨(List.mem_cons.mp z.1).resolve_left fun q => e q.symm, z.2⟩]
theorem wipe_same {σ σ' : L2.St} {vs : List Nat} (h : ∀ j, j ∉ vs → σ'[j]? = (L2.wipe σ vs)[j]?) (hl : σ'.length = (L2.wipe σ vs).length) : L2.wipe σ' vs = L2.wipe σ vs := by
  refine List.ext_getElem? fun j => ?_
  rw [wipe_length] at hl
  rw [wipe_get, wipe_get σ]
  by_cases hj : j ∈ vs
  · by_cases hs : j < σ.length
    · rw [if_pos ⟨hj, by omega⟩, if_pos ⟨hj, hs⟩]
    · rw [if_neg (fun z => by omega), if_neg (fun z => hs z.2), List.getElem?_eq_none (by omega), List.getElem?_eq_none (by omega)]
  · rw [if_neg fun z => hj z.1, if_neg fun z => hj z.1, h j hj, wipe_get, if_neg fun z => hj z.1]
def WEb (X : Cx) (sc : Scope) (e : Expr) : TE := fun σ H Q => ∀ (s : Shared) (H0 : Hp) (C : Addr) (cl : List (Str × Addr)) (fp : List Addr), WE (X.blk s H0 sc (compEnvC sc cl C X.env) fp) e σ H Q
def WTb (X : Cx) (sc : Scope) (e : Expr) : TT := fun σ H Q => ∀ (s : Shared) (H0 : Hp) (C : Addr) (cl : List (Str × Addr)) (fp : List Addr), WT (X.blk s H0 sc (compEnvC sc cl C X.env) fp) e σ H Q
def Eb (X : Cx) (sc : Scope) (ρ : Ro) (e : Expr) (d : PyData) : Prop := ∀ (s : Shared) (H0 : Hp) (C : Addr) (cl : List (Str × Addr)) (fp : List Addr), E (X.blk s H0 sc (compEnvC sc cl C X.env) fp) ρ e d
def Tb (X : Cx) (sc : Scope) (ρ : Ro) (e : Expr) (b : Bool) : Prop := ∀ (s : Shared) (H0 : Hp) (C : Addr) (cl : List (Str × Addr)) (fp : List Addr), T (X.blk s H0 sc (compEnvC sc cl C X.env) fp) ρ e b
section
variable {X : Cx} {ρ : Ro} {tg iter elt c : Expr} {ds : List PyData} {scope : Scope} {own : List (Str × Nat)} {pos : Pos} {g : TG} {f : PyData → Bool} {F : PyData → PyData} {ρ' : PyData → Ro}
theorem take_filter {i : Nat} {d : PyData} (h : ds[i]? = some d) : ((ds.take (i + 1)).filter f).map F = ((ds.take i).filter f).map F ++ (if f d then [F d] else []) := by
  rw [List.take_add_one, h, List.filter_append, List.map_append]
  show _ ++ ([d].filter f).map F = _
  cases e : f d <;> simp [List.filter_cons, e]
/-- what stands at a turn: D the new list -/
def LcP (I H : Hp) (D : Addr) (f : PyData → Bool) (F : PyData → PyData) (ds : List PyData) (i : Nat) (H' : Hp) : Prop :=
  ∃ I2 acc, Ex I I2 ∧ Ex I2 H' ∧ I2 D = none ∧ H' D = some (.lst acc) ∧ Ex H H' ∧ (∀ a, I a = none → Ob H a → I2 a = none) ∧ RpAll I2 acc (((ds.take i).filter f).map F)
theorem lcp_len {I H H' : Hp} {D : Addr} {i : Nat} {acc : List V} {I2 : Hp} (r : RpAll I2 acc (((ds.take i).filter f).map F)) (h : ds.length < 100000) : acc.length < sizeLine := by
  rw [r.length, List.length_map]
  refine sz_lt (Nat.lt_of_le_of_lt (List.length_filter_le _ _) (Nat.lt_of_le_of_lt ?_ h))
  rw [List.length_take]
  exact Nat.min_le_right _ _
theorem tlcIf (it : IT X ρ tg iter ds)
    (gt : ∀ d, d ∈ ds → Gt g (own.map (·.2)) (wipeR ρ (own.map (·.2))) d (ρ' d)) (ht : ∀ d, d ∈ ds → Tb X scope (ρ' d) c (f d)) (he : ∀ d, d ∈ ds → f d = true → Eb X scope (ρ' d) elt (F d)) (hl : ds.length < 100000)
    {I : Hp} {σ : L2.St} {H : Hp} (hx : Ex I H) (vs : VS I σ ρ) (Q : VK) (k : ∀ v I' H', Nw I H I' H' → Rp I' v (.list ((ds.filter f).map F)) → Q v H') : tLc (WI X tg iter) g (WTb X scope c) (WEb X scope elt) (own.map (·.2)) σ H Q := by
  refine it I σ H hx vs _ fun J I1 H1 n1 ok1 D hD => ?_
  have hD0 : I1 D = none := fresh_back n1.j hD
  refine ⟨fun i m H' => m = ds.length - i ∧ i ≤ ds.length ∧ LcP I1 H1 D f F ds i H', ⟨ds.length, rfl, Nat.zero_le _, I1, [], Ex.refl _, n1.j.trans (Ex.new hD), hD0, upd_same, Ex.new hD, fun a e _ => e, .nil⟩, ?_⟩
  rintro i m H2 ⟨rfl, hi, I2, acc, a1, a2, a3, a4, a5, a6, a7⟩
  by_cases hlt : i < ds.length
  · refine .inr ⟨ok1.go i I2 H2 a1 a2 trivial hlt, LcP I1 H1 D f F ds (i + 1), fun H' p' => ⟨ds.length - (i + 1), by omega, rfl, hlt, p'⟩, fun x H3 y => ?_⟩
    obtain ⟨I3, d, n3, hd, rd⟩ := ok1.yld i I2 H2 x H3 a1 a2 trivial hlt y
    have hm : d ∈ ds := List.mem_of_getElem? hd
    refine (gt d hm).run I3 (L2.wipe σ (own.map (·.2))) H3 x n3.j (((vs.up n1.i).up (a1.trans n3.i)).wipe _) rd _ ?_
    intro σ2 vs2 ag hl2
    refine ⟨wipe_same ag hl2, ?_⟩
    have D3 := n3.keep a4 a3
    intro s0 H0 C cl fp
    refine ht d hm s0 H0 C cl fp I3 σ2 H3 n3.j vs2 _ fun I4 H4 n4 => ?_
    have D4 := n4.keep D3.1 D3.2
    have k4 : ∀ a, I1 a = none → Ob H1 a → I4 a = none := fun a e z => n4.k a (n3.k a (a6 a e z) (z.up a5)) (z.up (a5.trans n3.h))
    cases hf : f d with
    | true =>
      rw [if_pos rfl]
      intro s0 H0 C cl fp
      refine he d hm hf s0 H0 C cl fp I4 σ2 H4 n4.j (vs2.up n4.i) _ fun v5 I5 H5 n5 r5 => ?_
      have D5 := n5.keep D4.1 D4.2
      refine ⟨acc, D5.1, lcp_len (I := I1) (H := H1) (H' := H2) (D := D) a7 hl, I5, acc ++ [v5], ((a1.trans n3.i).trans n4.i).trans n5.i, n5.j.mut D5.2, D5.2, upd_same, (((a5.trans n3.h).trans n4.h).trans n5.h).mut hD, fun a e z => n5.k a (k4 a e z) (z.up ((a5.trans n3.h).trans n4.h)), ?_⟩
      · rw [take_filter hd, hf, if_pos rfl]
        exact (a7.up ((n3.i.trans n4.i).trans n5.i)).snoc r5
    | false =>
      rw [if_neg Bool.false_ne_true]
      refine ⟨I4, acc, (a1.trans n3.i).trans n4.i, n4.j, D4.2, D4.1, (a5.trans n3.h).trans n4.h, k4, ?_⟩
      rw [take_filter hd, hf, if_neg Bool.false_ne_true, List.append_nil]
      exact a7.up (n3.i.trans n4.i)
  · have e : i = ds.length := by omega
    subst e
    have nw : Nw I1 H1 (upd I2 D (.lst acc)) H2 := by
      refine ⟨a1.trans (Ex.new a3), fun a o q => ?_, a5, fun a e z => ?_⟩
      · by_cases h : a = D
        · subst h; rw [upd_same] at q; rw [a4]; exact q
        · rw [upd_ne h] at q; exact a2 a o q
      · rw [upd_ne (z.ne hD)]
        exact a6 a e z
    refine .inl ⟨ok1.stop I2 H2 a1 a2 trivial, k _ _ _ (n1.trans nw) ?_⟩
    rw [List.take_length] at a7
    exact .lst upd_same (a7.up (Ex.new a3))
theorem tlc (it : IT X ρ tg iter ds)
    (gt : ∀ d, d ∈ ds → Gt g (own.map (·.2)) (wipeR ρ (own.map (·.2))) d (ρ' d)) (he : ∀ d, d ∈ ds → Eb X scope (ρ' d) elt (F d)) (hl : ds.length < 100000)
    {I : Hp} {σ : L2.St} {H : Hp} (hx : Ex I H) (vs : VS I σ ρ) (Q : VK) (k : ∀ v I' H', Nw I H I' H' → Rp I' v (.list (ds.map F)) → Q v H') : tLc (WI X tg iter) g tYes (WEb X scope elt) (own.map (·.2)) σ H Q := by
  refine it I σ H hx vs _ fun J I1 H1 n1 ok1 D hD => ?_
  have hD0 : I1 D = none := fresh_back n1.j hD
  refine ⟨fun i m H' => m = ds.length - i ∧ i ≤ ds.length ∧ LcP I1 H1 D (fun _ => true) F ds i H', ⟨ds.length, rfl, Nat.zero_le _, I1, [], Ex.refl _, n1.j.trans (Ex.new hD), hD0, upd_same, Ex.new hD, fun a e _ => e, .nil⟩, ?_⟩
  rintro i m H2 ⟨rfl, hi, I2, acc, a1, a2, a3, a4, a5, a6, a7⟩
  by_cases hlt : i < ds.length
  · refine .inr ⟨ok1.go i I2 H2 a1 a2 trivial hlt, LcP I1 H1 D (fun _ => true) F ds (i + 1), fun H' p' => ⟨ds.length - (i + 1), by omega, rfl, hlt, p'⟩, fun x H3 y => ?_⟩
    obtain ⟨I3, d, n3, hd, rd⟩ := ok1.yld i I2 H2 x H3 a1 a2 trivial hlt y
    have hm : d ∈ ds := List.mem_of_getElem? hd
    refine (gt d hm).run I3 (L2.wipe σ (own.map (·.2))) H3 x n3.j (((vs.up n1.i).up (a1.trans n3.i)).wipe _) rd _ ?_
    intro σ2 vs2 ag hl2
    refine ⟨wipe_same ag hl2, ?_⟩
    have D3 := n3.keep a4 a3
    unfold tYes
    dsimp only
    rw [if_pos rfl]
    intro s0 H0 C cl fp
    refine he d hm s0 H0 C cl fp I3 σ2 H3 n3.j vs2 _ fun v5 I5 H5 n5 r5 => ?_
    have D5 := n5.keep D3.1 D3.2
    refine ⟨acc, D5.1, lcp_len (I := I1) (H := H1) (H' := H2) (D := D) a7 hl, I5, acc ++ [v5], (a1.trans n3.i).trans n5.i, n5.j.mut D5.2, D5.2, upd_same, ((a5.trans n3.h).trans n5.h).mut hD, fun a e z => ?_, ?_⟩
    · exact n5.k a (n3.k a (a6 a e z) (z.up a5)) (z.up (a5.trans n3.h))
    · rw [take_filter hd, if_pos rfl]
      exact (a7.up (n3.i.trans n5.i)).snoc r5
  · have e : i = ds.length := by omega
    subst e
    have nw : Nw I1 H1 (upd I2 D (.lst acc)) H2 := by
      refine ⟨a1.trans (Ex.new a3), fun a o q => ?_, a5, fun a e z => ?_⟩
      · by_cases h : a = D
        · subst h; rw [upd_same] at q; rw [a4]; exact q
        · rw [upd_ne h] at q; exact a2 a o q
      · rw [upd_ne (z.ne hD)]
        exact a6 a e z
    refine .inl ⟨ok1.stop I2 H2 a1 a2 trivial, k _ _ _ (n1.trans nw) ?_⟩
    rw [List.take_length, List.filter_eq_self.mpr fun _ _ => rfl] at a7
    exact .lst upd_same (a7.up (Ex.new a3))
/-- the target of a comprehension: one name, two, three -/
abbrev PGb (X : Cx) (scope : Scope) (tg : Expr) (g : TG) : Prop := ∀ (s : Shared) (H : Hp) (C : Addr) (cl : List (Str × Addr)) (fp : List Addr), PG (X.blk s H scope (compEnvC scope cl C X.env) fp) tg g
theorem e_lcIf (hc : X.calm = true) (hN : X.N.Nodup) (ok : BlkOk X.N X.env.scope scope own) (hg : PGb X scope tg g) (it : IT X ρ tg iter ds)
    (gt : ∀ d, d ∈ ds → Gt g (own.map (·.2)) (wipeR ρ (own.map (·.2))) d (ρ' d)) (ht : ∀ d, d ∈ ds → Tb X scope (ρ' d) c (f d)) (he : ∀ d, d ∈ ds → f d = true → Eb X scope (ρ' d) elt (F d)) (hl : ds.length < 100000)
    (hs : ∀ x, foldedSetIterable iter X.env x = pure x := by intro _; rfl) : E X ρ (.ListComp elt [⟨tg, iter, [c], 0⟩] scope pos) (.list ((ds.filter f).map F)) :=
  e_of (pe_lc (wi := WI X tg iter) (g := g) (tt := WTb X scope c) (te := WEb X scope elt) hc hN pi_wi ok hg (fun s H C cl fp => pts_one ⟨fun pins s' σ H' Q I h => h s H C cl fp pins s' I⟩) (fun s H C cl fp => ⟨fun pins s' σ H' Q I h => h s H C cl fp pins s' I⟩) hs) fun I σ H hx vs Q k =>
    tlcIf it gt ht he hl hx vs Q k
theorem e_lc (hc : X.calm = true) (hN : X.N.Nodup) (ok : BlkOk X.N X.env.scope scope own) (hg : PGb X scope tg g) (it : IT X ρ tg iter ds)
    (gt : ∀ d, d ∈ ds → Gt g (own.map (·.2)) (wipeR ρ (own.map (·.2))) d (ρ' d)) (he : ∀ d, d ∈ ds → Eb X scope (ρ' d) elt (F d)) (hl : ds.length < 100000)
    (hs : ∀ x, foldedSetIterable iter X.env x = pure x := by intro _; rfl) : E X ρ (.ListComp elt [⟨tg, iter, [], 0⟩] scope pos) (.list (ds.map F)) :=
  e_of (pe_lc (wi := WI X tg iter) (g := g) (tt := tYes) (te := WEb X scope elt) hc hN pi_wi ok hg (fun s H C cl fp => pts_nil) (fun s H C cl fp => ⟨fun pins s' σ H' Q I h => h s H C cl fp pins s' I⟩) hs) fun I σ H hx vs Q k =>
    tlc it gt he hl hx vs Q k
end
end R1

set_option Elab.async false
set_option linter.all false
set_option maxRecDepth 100000
set_option maxHeartbeats 4000000
/-! CoreD: built-ins, items, blocks, calls: over deep data. -/
namespace R1
open PySem PySem.Spec PyProof.Rows L2 Evl

/-! ### built-in functions and types, called with one argument -/
section
variable {X : Cx} {ρ : Ro} {e a b c : Expr} {ds es : List PyData} {d f : PyData} {pos p : Pos} {id Tn : String} {x : Str} {r : List V → Hp → VK → Prop}
theorem e_cb1 (hc : CallR X (.builtin id) r) (hg : Gl X x) (hm : X.mg x = none) (hv : bootBuiltins x = some (.builtin id)) (ha : E X ρ a d) (q : ∀ (I H : Hp) (v : V), Ex I H → Rp I v d → ∀ Q : VK, (∀ u I' H', Nw I H I' H' → Rp I' u f → Q u H') → r [v] H Q)
    (hn : x ≠ "__name__" := by decide) (hdb : (x == ("__debug__" : Str)) = false := by decide) (hs : starEach [a] X.env = [(false, eval a X.env)] := by rfl) : E X ρ (.Call (.Name x p) [a] [] pos) f :=
  e_of (pe_callB hc hg hm hv (pa1 hs) hn hdb hs rfl) fun I σ H hx vs Q k => ha I σ H hx vs _ fun v I1 H1 n1 r1 => q I1 H1 v n1.j r1 Q fun u I2 H2 n2 r2 => k u I2 H2 (n1.trans n2) r2
theorem e_ct1 (hc : CallR X (.type Tn) r) (hg : Gl X x) (hm : X.mg x = none) (hv : bootBuiltins x = some (.type Tn)) (ha : E X ρ a d) (q : ∀ (I H : Hp) (v : V), Ex I H → Rp I v d → ∀ Q : VK, (∀ u I' H', Nw I H I' H' → Rp I' u f → Q u H') → r [v] H Q)
    (hn : x ≠ "__name__" := by decide) (hdb : (x == ("__debug__" : Str)) = false := by decide) (hs : starEach [a] X.env = [(false, eval a X.env)] := by rfl) : E X ρ (.Call (.Name x p) [a] [] pos) f :=
  e_of (pe_callTy hc hg hm hv (pa1 hs) hn hdb hs rfl) fun I σ H hx vs Q k => ha I σ H hx vs _ fun v I1 H1 n1 r1 => q I1 H1 v n1.j r1 Q fun u I2 H2 n2 r2 => k u I2 H2 (n1.trans n2) r2
/-- len of a list or a tuple -/
theorem e_len {k : Bool} (hg : Gl X "len") (hm : X.mg "len" = none) (ha : E X ρ a (seqD k ds)) (hs : starEach [a] X.env = [(false, eval a X.env)] := by rfl) : E X ρ (.Call (.Name "len" p) [a] [] pos) (.int ds.length) :=
  e_cb1 call_len_seq hg hm PySem.boot_len ha (fun I H v hx r Q q => by
    obtain ⟨a, xs, rfl, s, ra, ea⟩ := Rp.seqB (K := X.K) r
    refine ⟨a, xs, rfl, ?_, ?_⟩
    · cases k with
      | false => exact .inl (ex_l hx s)
      | true => exact .inr (ex_t hx s)
    · rw [ra.length]; exact q _ I H (.refl hx) (.int _)) (by decide) (by decide) hs
/-- tuple of a list, of a tuple -/
theorem e_tupOf {k : Bool} (hg : Gl X "tuple") (hm : X.mg "tuple" = none) (ha : E X ρ a (seqD k ds)) (hs : starEach [a] X.env = [(false, eval a X.env)] := by rfl) : E X ρ (.Call (.Name "tuple" p) [a] [] pos) (.tuple ds) :=
  e_ct1 call_tuple_of hg hm PyProof.Rows.boot_tuple ha (fun I H v hx r Q q => by
    obtain ⟨a, xs, rfl, s, ra, ea⟩ := Rp.seqB (K := X.K) r
    refine ⟨a, xs, rfl, ?_⟩
    cases k with
    | false => exact .inl ⟨ex_l hx s, fun l hl => q _ _ _ (Nw.new hx hl) (.tup upd_same (ra.up (Nw.new (o := .tup xs) hx hl).i))⟩
    | true => exact .inr ⟨ex_t hx s, q _ I H (.refl hx) (.tup ea ra)⟩) (by decide) (by decide) hs
theorem e_listOf {k : Bool} (hg : Gl X "list") (hm : X.mg "list" = none) (ha : E X ρ a (seqD k ds)) (hs : starEach [a] X.env = [(false, eval a X.env)] := by rfl) : E X ρ (.Call (.Name "list" p) [a] [] pos) (.list ds) :=
  e_ct1 call_list_of hg hm PyProof.Rows.boot_list ha (fun I H v hx r Q q => by
    obtain ⟨a, xs, rfl, s, ra, ea⟩ := Rp.seqB (K := X.K) r
    refine ⟨a, xs, rfl, ?_, fun l hl => q _ _ _ (Nw.new hx hl) (.lst upd_same (ra.up (Nw.new (o := .lst xs) hx hl).i))⟩
    cases k with
    | false => exact .inl (ex_l hx s)
    | true => exact .inr (ex_t hx s)) (by decide) (by decide) hs
theorem e_all {bs : List Bool} (hc : X.calm = true) (hg : Gl X "all") (hm : X.mg "all" = none) (ha : E X ρ a (.list (bs.map .bool))) (hs : starEach [a] X.env = [(false, eval a X.env)] := by rfl) : E X ρ (.Call (.Name "all" p) [a] [] pos) (.bool (bs.all fun z => z)) :=
  e_cb1 (cr_all hc) hg hm (by decide +kernel) ha (fun I H v hx r Q q => by
    cases r with
    | lst ea ra =>
      have := ra.bools
      subst this
      exact ⟨_, bs, rfl, SqL.of (hx _ _ ea), q _ I H (.refl hx) (.bl _)⟩) (by decide) (by decide) hs
theorem e_sumL {ns : List Int} (hc : X.calm = true) (hg : Gl X "sum") (hm : X.mg "sum" = none) (ha : E X ρ a (.list (ns.map .int))) (hs : starEach [a] X.env = [(false, eval a X.env)] := by rfl) : E X ρ (.Call (.Name "sum" p) [a] [] pos) (.int ns.sum) :=
  e_cb1 (cr_sum hc) hg hm (by decide +kernel) ha (fun I H v hx r Q q => by
    cases r with
    | lst ea ra =>
      have := ra.ints
      subst this
      exact ⟨_, ns, rfl, SqL.of (hx _ _ ea), q _ I H (.refl hx) (.int _)⟩) (by decide) (by decide) hs
theorem e_abs {i : Int} (hg : Gl X "abs") (hm : X.mg "abs" = none) (ha : E X ρ a (.int i)) (hs : starEach [a] X.env = [(false, eval a X.env)] := by rfl) : E X ρ (.Call (.Name "abs" p) [a] [] pos) (.int (if i < 0 then -i else i)) :=
  e_cb1 call_abs hg hm (by decide +kernel) ha (fun I H v hx r Q q => by
    cases r
    exact ⟨i, rfl, q _ I H (.refl hx) (.int _)⟩) (by decide) (by decide) hs
theorem e_intI {i : Int} (hg : Gl X "int") (hm : X.mg "int" = none) (ha : E X ρ a (.int i)) (hs : starEach [a] X.env = [(false, eval a X.env)] := by rfl) : E X ρ (.Call (.Name "int" p) [a] [] pos) (.int i) :=
  e_ct1 call_int1 hg hm PyProof.Rows.boot_int ha (fun I H v hx r Q q => by
    cases r
    exact .inl ⟨i, rfl, q _ I H (.refl hx) (.int _)⟩) (by decide) (by decide) hs
theorem e_intB {k : Bool} (hg : Gl X "int") (hm : X.mg "int" = none) (ha : E X ρ a (.bool k)) (hs : starEach [a] X.env = [(false, eval a X.env)] := by rfl) : E X ρ (.Call (.Name "int" p) [a] [] pos) (.int (if k then 1 else 0)) :=
  e_ct1 call_int1 hg hm PyProof.Rows.boot_int ha (fun I H v hx r Q q => by
    cases r
    exact .inr ⟨k, rfl, q _ I H (.refl hx) (.int _)⟩) (by decide) (by decide) hs
theorem e_maxL {ns : List Int} {m : Int} (hc : X.calm = true) (hg : Gl X "max") (hm : X.mg "max" = none) (ha : E X ρ a (.list (ns.map .int))) (h0 : 0 < ns.length) (hmx : ∀ m', m' ∈ ns → (∀ y, y ∈ ns → y ≤ m') → m' = m)
    (hs : starEach [a] X.env = [(false, eval a X.env)] := by rfl) : E X ρ (.Call (.Name "max" p) [a] [] pos) (.int m) :=
  e_cb1 (cr_max hc) hg hm (by decide +kernel) ha (fun I H v hx r Q q => by
    cases r with
    | lst ea ra =>
      have := ra.ints
      subst this
      exact ⟨_, ns, rfl, SqL.of (hx _ _ ea), h0, fun m' h1 h2 => by rw [hmx m' h1 h2]; exact q _ I H (.refl hx) (.int _)⟩) (by decide) (by decide) hs
theorem e_max2 {i j : Int} (hc : X.calm = true) (hg : Gl X "max") (hm : X.mg "max" = none) (ha : E X ρ a (.int i)) (hb : E X ρ b (.int j))
    (hs : starEach [a, b] X.env = (false, eval a X.env) :: starEach [b] X.env := by rfl) (hs2 : starEach [b] X.env = [(false, eval b X.env)] := by rfl) : E X ρ (.Call (.Name "max" p) [a, b] [] pos) (.int (if j > i then j else i)) :=
  e_of (pe_callB (call_max2 hc) hg hm (by decide +kernel) (pa2 hs hs2) (by decide) (by decide) hs (by rw [hs2]; rfl)) fun I σ H hx vs Q k => ha I σ H hx vs _ fun v I1 H1 n1 r1 => hb I1 σ H1 n1.j (vs.up n1.i) _ fun u I2 H2 n2 r2 => by
    cases r1; cases r2
    exact ⟨i, j, rfl, k _ I2 H2 (n1.trans n2) (.int _)⟩

/-! ### isinstance -/
def tyD : PyData → String
  | .none => "NoneType"
  | .bool _ => "bool"
  | .int _ => "int"
  | .str _ => "str"
  | .list _ => "list"
  | .tuple _ => "tuple"
  | .dict _ => "dict"
def isDictD : PyData → Bool
  | .dict _ => true
  | _ => false
theorem tyX_of {K : PySem.W.Frag} {I H : Hp} {v : V} (hx : Ex I H) (r : Rp I v d) (nd : isDictD d = false) : TyX K H v (.type (tyD d)) := by
  cases r with
  | dct _ _ => cases nd
  | non => exact .base .non
  | bl b => exact .base (.bl b)
  | int i => exact .base (.int i)
  | str x => exact .base (.str x)
  | lst h _ => exact .base (.lst (hx _ _ h))
  | tup h _ => exact .base (.tup (hx _ _ h))
theorem pe_tyName {T : String} (hg : Gl X x) (hm : X.mg x = none) (hv : bootBuiltins x = some (.type T)) (hn : x ≠ "__name__" := by decide) (hd : (x == ("__debug__" : Str)) = false := by decide) : PE X (.Name x p) (tC (.ty T)) := pe_bltn hg hm hv rfl hn hd
/-- isinstance(a, T) -/
theorem e_isi {T : String} {y : Str} {k : Bool} {p1 : Pos} (hg : Gl X "isinstance") (hm : X.mg "isinstance" = none) (hgT : Gl X y) (hmT : X.mg y = none) (hvT : bootBuiltins y = some (.type T)) (ha : E X ρ a d) (nd : isDictD d = false) (hk : kitB (tyD d) T = some k)
    (hnT : y ≠ "__name__" := by decide) (hdT : (y == ("__debug__" : Str)) = false := by decide) (hs : starEach [a, .Name y p1] X.env = (false, eval a X.env) :: starEach [.Name y p1] X.env := by rfl) :
    E X ρ (.Call (.Name "isinstance" p) [a, .Name y p1] [] pos) (.bool k) :=
  e_of (pe_callB call_isi hg hm PyProof.Rows.boot_isinstance (pa_cons pe_we (pa_cons (pe_tyName hgT hmT hvT hnT hdT) pa_nil rfl) hs) (by decide) (by decide) hs rfl) fun I σ H hx vs Q q => ha I σ H hx vs _ fun v I1 H1 n1 r1 =>
    ⟨v, .ty T, _, _, k, rfl, .ty T, tyX_of n1.j r1 nd, kit_ty hk, q _ I1 H1 n1 (.bl _)⟩
/-- isinstance(a, (T, U)) -/
theorem e_isi2 {T U : String} {y z : Str} {k l : Bool} {p1 p2 p3 : Pos} {x1 : Nat} (hg : Gl X "isinstance") (hm : X.mg "isinstance" = none) (hgT : Gl X y) (hmT : X.mg y = none) (hvT : bootBuiltins y = some (.type T)) (hgU : Gl X z) (hmU : X.mg z = none) (hvU : bootBuiltins z = some (.type U)) (ha : E X ρ a d)
    (nd : isDictD d = false) (hk : kitB (tyD d) T = some k) (hl : kitB (tyD d) U = some l)
    (hnT : y ≠ "__name__" := by decide) (hdT : (y == ("__debug__" : Str)) = false := by decide) (hnU : z ≠ "__name__" := by decide) (hdU : (z == ("__debug__" : Str)) = false := by decide)
    (hs : starEach [a, .Tuple [.Name y p1, .Name z p2] x1 p3] X.env = (false, eval a X.env) :: starEach [.Tuple [.Name y p1, .Name z p2] x1 p3] X.env := by rfl) :
    E X ρ (.Call (.Name "isinstance" p) [a, .Tuple [.Name y p1, .Name z p2] x1 p3] [] pos) (.bool (k || l)) :=
  e_of (pe_callB call_isiT hg hm PyProof.Rows.boot_isinstance (pa_cons pe_we (pa_cons (pe_tup (pa_cons (pe_tyName hgT hmT hvT hnT hdT) (pa_cons (pe_tyName hgU hmU hvU hnU hdU) pa_nil rfl) rfl)) pa_nil rfl) hs) (by decide) (by decide) hs rfl) fun I σ H hx vs Q q =>
    ha I σ H hx vs _ fun v I1 H1 n1 r1 => ⟨by show 2 ≤ sizeLine; decide, fun t ht => ⟨v, t, [.ty T, .ty U], _, [.type T, .type U], k || l, rfl, upd_same, .cons (.ty T) (.cons (.ty U) .nil), tyX_of (Nw.own (o := .tup [.ty T, .ty U]) n1.j ht).j r1 nd,
      kitAny_cons (kit_ty hk) (fun h => by subst h; exact kitAny_cons (kit_ty hl) (fun h => by subst h; exact kitAny_nil) (fun h => by subst h; rfl)) (fun h => by subst h; rfl), q _ I1 _ (n1.trans (Nw.own n1.j ht)) (.bl _)⟩⟩
def isIntD : PyData → Bool
  | .bool _ => true
  | .int _ => true
  | _ => false
def isBoolD : PyData → Bool
  | .bool _ => true
  | _ => false
def isSeqD : PyData → Bool
  | .list _ => true
  | .tuple _ => true
  | _ => false
def isStrD : PyData → Bool
  | .str _ => true
  | _ => false
theorem kit_int : ∀ d : PyData, kitB (tyD d) "int" = some (isIntD d)
  | .none => by decide +kernel
  | .bool _ => by show kitB "bool" "int" = some true; decide +kernel
  | .int _ => by show kitB "int" "int" = some true; decide +kernel
  | .str _ => by show kitB "str" "int" = some false; decide +kernel
  | .list _ => by show kitB "list" "int" = some false; decide +kernel
  | .tuple _ => by show kitB "tuple" "int" = some false; decide +kernel
  | .dict _ => by show kitB "dict" "int" = some false; decide +kernel
theorem kit_bool : ∀ d : PyData, kitB (tyD d) "bool" = some (isBoolD d)
  | .none => by decide +kernel
  | .bool _ => by show kitB "bool" "bool" = some true; decide +kernel
  | .int _ => by show kitB "int" "bool" = some false; decide +kernel
  | .str _ => by show kitB "str" "bool" = some false; decide +kernel
  | .list _ => by show kitB "list" "bool" = some false; decide +kernel
  | .tuple _ => by show kitB "tuple" "bool" = some false; decide +kernel
  | .dict _ => by show kitB "dict" "bool" = some false; decide +kernel
theorem kit_str : ∀ d : PyData, kitB (tyD d) "str" = some (isStrD d)
  | .none => by decide +kernel
  | .bool _ => by show kitB "bool" "str" = some false; decide +kernel
  | .int _ => by show kitB "int" "str" = some false; decide +kernel
  | .str _ => by show kitB "str" "str" = some true; decide +kernel
  | .list _ => by show kitB "list" "str" = some false; decide +kernel
  | .tuple _ => by show kitB "tuple" "str" = some false; decide +kernel
  | .dict _ => by show kitB "dict" "str" = some false; decide +kernel
def isListD : PyData → Bool
  | .list _ => true
  | _ => false
def isTupD : PyData → Bool
  | .tuple _ => true
  | _ => false
theorem kit_list : ∀ d : PyData, kitB (tyD d) "list" = some (isListD d)
  | .none => by decide +kernel
  | .bool _ => by show kitB "bool" "list" = some false; decide +kernel
  | .int _ => by show kitB "int" "list" = some false; decide +kernel
  | .str _ => by show kitB "str" "list" = some false; decide +kernel
  | .list _ => by show kitB "list" "list" = some true; decide +kernel
  | .tuple _ => by show kitB "tuple" "list" = some false; decide +kernel
  | .dict _ => by show kitB "dict" "list" = some false; decide +kernel
theorem kit_tuple : ∀ d : PyData, kitB (tyD d) "tuple" = some (isTupD d)
  | .none => by decide +kernel
  | .bool _ => by show kitB "bool" "tuple" = some false; decide +kernel
  | .int _ => by show kitB "int" "tuple" = some false; decide +kernel
  | .str _ => by show kitB "str" "tuple" = some false; decide +kernel
  | .list _ => by show kitB "list" "tuple" = some false; decide +kernel
  | .tuple _ => by show kitB "tuple" "tuple" = some true; decide +kernel
  | .dict _ => by show kitB "dict" "tuple" = some false; decide +kernel
theorem isSeqD_eq : ∀ d : PyData, (isListD d || isTupD d) = isSeqD d
  | .none | .bool _ | .int _ | .str _ | .list _ | .tuple _ | .dict _ => rfl
/-- isinstance(a, (list, tuple)) -/
theorem e_isSeq {p1 p2 p3 : Pos} {x1 : Nat} (hg : Gl X "isinstance") (hm : X.mg "isinstance" = none) (hgT : Gl X "list") (hmT : X.mg "list" = none) (hgU : Gl X "tuple") (hmU : X.mg "tuple" = none) (ha : E X ρ a d) (nd : isDictD d = false)
    (hs : starEach [a, .Tuple [.Name "list" p1, .Name "tuple" p2] x1 p3] X.env = (false, eval a X.env) :: starEach [.Tuple [.Name "list" p1, .Name "tuple" p2] x1 p3] X.env := by rfl) :
    E X ρ (.Call (.Name "isinstance" p) [a, .Tuple [.Name "list" p1, .Name "tuple" p2] x1 p3] [] pos) (.bool (isSeqD d)) :=
  (e_isi2 hg hm hgT hmT PyProof.Rows.boot_list hgU hmU PyProof.Rows.boot_tuple ha nd (kit_list d) (kit_tuple d) (by decide) (by decide) (by decide) (by decide) hs).eq (by rw [isSeqD_eq])

/-! ### items and slices -/
theorem atI_rp {I : Hp} : ∀ {vs : List V} {ds : List PyData} {i : Int} {d : PyData}, RpAll I vs ds → atI ds i = some d → ∃ v, atI vs i = some v ∧ Rp I v d := fun {vs ds i d} r h => by
  unfold atI at h ⊢
  rw [r.length]
  cases q : ixN ds.length i with
  | none => rw [q] at h; cases h
  | some j =>
    rw [q] at h
    exact r.get h
theorem e_ix {k : Bool} {i : Int} (ha : E X ρ a (seqD k ds)) (hb : E X ρ b (.int i)) (h : atI ds i = some d) (hp : PlainIx b := by intro _ _; rfl) : E X ρ (.Subscript a b pos) d := by
  cases k with
  | false =>
    refine e_two (pe_ix ix_list pe_we pe_we hp) ha hb fun I H hx x y rx ry Q q => ?_
    · cases ry
      cases rx with
      | lst ea ra =>
        obtain ⟨v, hv, rv⟩ := atI_rp ra h
        exact ⟨_, _, i, v, rfl, rfl, SqL.of (hx _ _ ea), hv, q _ I H (.refl hx) rv⟩
  | true =>
    refine e_two (pe_ix ix_tup pe_we pe_we hp) ha hb fun I H hx x y rx ry Q q => ?_
    · cases ry
      cases rx with
      | tup ea ra =>
        obtain ⟨v, hv, rv⟩ := atI_rp ra h
        exact ⟨_, _, i, v, rfl, rfl, SqT.of (hx _ _ ea), hv, q _ I H (.refl hx) rv⟩
/-- xs[n:] of a list, n written -/
theorem e_from {n : Nat} {j : Nat} {p1 p2 : Pos} (ha : E X ρ a (.list ds)) : E X ρ (.Subscript a (.Slice (some (.Constant (.int (n : Nat)) j p1)) none none p2) pos) (.list (ds.drop n)) :=
  e_of (pe_slice sl_list pe_we (po_some pe_int) po_none) fun I σ H hx vs Q k => ha I σ H hx vs _ fun v I1 H1 n1 r1 => by
    cases r1 with
    | lst ea ra =>
      rename_i ad xs
      refine ⟨(n : Int), rfl, ?_⟩
      refine ⟨_, _, rfl, SqL.of (n1.j _ _ ea), fun q hq => ?_⟩
      have e : cutV xs (some (n : Int)) none = xs.drop n := by
        unfold cutV
        rw [HT.sIx_nat, HT.sIx_none]
        by_cases h : n ≤ xs.length
        · rw [Nat.min_eq_left h, List.take_of_length_le (by rw [List.length_drop]; exact Nat.le_refl _)]
        · rw [Nat.min_eq_right (by omega), Nat.sub_self, List.take_zero, List.drop_eq_nil_of_le (by omega)]
      rw [e]
      exact k _ _ _ (n1.trans (Nw.new n1.j hq)) (.lst upd_same ((ra.drop n).up (Nw.new (o := .lst (xs.drop n)) n1.j hq).i))
/-- a + b of tuples -/
theorem e_catT (ha : E X ρ a (.tuple ds)) (hb : E X ρ b (.tuple es)) (hl : ds.length + es.length ≤ 100000) : E X ρ (.BinOp a .Add b pos) (.tuple (ds ++ es)) :=
  e_two (pe_op op_catA pe_we pe_we) ha hb fun I H hx x y rx ry Q q => by
    cases rx with
    | tup ea ra =>
      cases ry with
      | tup eb rb =>
        refine ⟨_, _, _, _, rfl, rfl, SqT.of (hx _ _ ea), SqT.of (hx _ _ eb), by rw [ra.length, rb.length]; exact sz_of hl, fun h => ?_, fun h1 h2 => ?_, fun h1 h2 c hc => ?_⟩
        · subst h
          have e := ra.length
          have : ds = [] := List.eq_nil_of_length_eq_zero e.symm
          subst this
          exact q _ I H (.refl hx) (.tup eb rb)
        · subst h2
          have e := rb.length
          have : es = [] := List.eq_nil_of_length_eq_zero e.symm
          subst this
          exact q _ I H (.refl hx) (by rw [List.append_nil]; exact .tup ea ra)
        · exact q _ _ _ (Nw.new hx hc) (.tup upd_same ((ra.append rb).up (Nw.new hx hc).i))
/-- a + b of lists -/
theorem e_catL (ha : E X ρ a (.list ds)) (hb : E X ρ b (.list es)) (hl : ds.length + es.length ≤ 100000) : E X ρ (.BinOp a .Add b pos) (.list (ds ++ es)) :=
  e_two (pe_op op_cat pe_we pe_we) ha hb fun I H hx x y rx ry Q q => by
    cases rx with
    | lst ea ra =>
      cases ry with
      | lst eb rb =>
        exact ⟨_, _, _, _, rfl, rfl, hx _ _ ea, hx _ _ eb, by rw [ra.length, rb.length]; exact sz_of hl, fun c hc => q _ _ _ (Nw.new hx hc) (.lst upd_same ((ra.append rb).up (Nw.new hx hc).i))⟩
theorem rpAll_flat {I : Hp} {vs : List V} (r : RpAll I vs ds) : ∀ n : Nat, RpAll I (List.replicate n vs).flatten (List.replicate n ds).flatten
  | 0 => .nil
  | n + 1 => by
    rw [List.replicate_succ, List.replicate_succ, List.flatten_cons, List.flatten_cons]
    exact r.append (rpAll_flat r n)
/-- [..] * n -/
theorem e_repL {n : Int} (ha : E X ρ a (.list ds)) (hb : E X ρ b (.int n)) (hl : ds.length * n.toNat ≤ 100000) (h1 : -(2 ^ 63) ≤ n := by omega) (h2 : n < 2 ^ 63 := by omega) : E X ρ (.BinOp a .Mult b pos) (.list (List.replicate n.toNat ds).flatten) :=
  e_two (pe_op op_rep pe_we pe_we) ha hb fun I H hx x y rx ry Q q => by
    cases ry
    cases rx with
    | lst ea ra =>
      exact ⟨_, n, _, rfl, rfl, hx _ _ ea, h1, h2, by rw [ra.length]; exact sz_of hl, fun c hc => q _ _ _ (Nw.new hx hc) (.lst upd_same ((rpAll_flat ra _).up (Nw.new hx hc).i))⟩
end

/-! ### defs -/
/-- the def st stands at the name x -/
def Dfn (K : PySem.W.Frag) (mg : Str → Option Value) (x : Str) (st : Stmt) : Prop := ∃ f fd, mg x = some (.ref f) ∧ Fun K x x st f fd
structure Fn (P : Program) (w : World) (K : PySem.W.Frag) (mg : Str → Option Value) (base : Heap) (x : Str) (k : Nat) (ps : List Str) (sp : Sp) : Prop where
  ex : ∃ (f : Addr) (fd : FuncData) (qual : Str) (st : Stmt), mg x = some (.ref f) ∧ Fun K x qual st f fd ∧ Binds K fd ps [] ∧ FnOk P w K mg base CX0 k f fd ps sp
/-- a promise over data: the arguments ds, the answer d of which R ds d -/
def spP (R : List PyData → PyData → Prop) : Sp := fun vs H Q _ => ∃ I ds d, Ex I H ∧ RpAll I vs ds ∧ R ds d ∧ ∀ v I' H', Nw I H I' H' → Rp I' v d → Q v H'
section
variable {X : Cx} {ρ : Ro} {e a b c : Expr} {es : List Expr} {ds : List PyData} {d : PyData} {pos p : Pos} {x : Str} {k : Nat} {ps : List Str} {sp : Sp} {R : List PyData → PyData → Prop}
theorem we_call {σ : L2.St} {H : Hp} {Q : VK} (F : Fn X.prog X.w X.K X.mg X.base x k ps sp) (hr : Room k X.A) (hg : Gl X x) (h : WA X (e :: es) σ H fun vs H1 => sp vs H1 Q E0) (hdb : (x == ("__debug__" : Str)) = false := by decide)
    (he : starEach (e :: es) X.env = (false, eval e X.env) :: starEach es X.env := by rfl) (hpl : (backTo pos (starEach es X.env)).any (·.1) = false := by rfl) : WE X (.Call (.Name x p) (e :: es) [] pos) σ H Q := by
  obtain ⟨f, fd, q, st, hm, hF, hb, ok⟩ := F.ex
  refine we_of (pe_call ok hr hg hm hF.kp hb .nil pass0 pa_wa hdb he hpl) ?_
  refine fun pos pins s I => thn (h pos pins s I) fun us s' ⟨vs, H', I', r, q⟩ => ⟨vs, H', I', r, ?_⟩
  show sp (vs ++ []) H' Q E0
  rw [List.append_nil]
  exact q
theorem e_call (F : Fn X.prog X.w X.K X.mg X.base x k ps (spP R)) (hr : Room k X.A) (hg : Gl X x) (ha : As X ρ (e :: es) ds) (h : R ds d) (hdb : (x == ("__debug__" : Str)) = false := by decide)
    (he : starEach (e :: es) X.env = (false, eval e X.env) :: starEach es X.env := by rfl) (hpl : (backTo pos (starEach es X.env)).any (·.1) = false := by rfl) : E X ρ (.Call (.Name x p) (e :: es) [] pos) d := fun I σ H hx vs Q q =>
  we_call F hr hg (ha I σ H hx vs _ fun us I1 H1 n1 r1 => ⟨I1, ds, d, n1.j, r1, h, fun v I2 H2 n2 r2 => q v I2 H2 (n1.trans n2) r2⟩) hdb he hpl
end

/-! ### blocks that change nothing: from slots ρ they return d -/
def Bd (X : Cx) (ρ : Ro) (b : List Stmt) (d : PyData) : Prop := ∀ (I : Hp) (σ : L2.St) (H : Hp) (D : Ends), Ex I H → VS I σ ρ → (∀ v I' H', Nw I H I' H' → Rp I' v d → D.rt v H') → WSs X b D σ H
section
variable {X : Cx} {ρ : Ro} {e c : Expr} {b b1 b2 rest : List Stmt} {d d' : PyData} {pos p : Pos} {x : Str} {D : Ends} {σ : L2.St} {H I : Hp}
theorem ws_cons {st : Stmt} {ts : TS} (h : PS X st ts) (q : ts { D with nx := WSs X rest D } σ H) : WSs X (st :: rest) D σ H := ws_of (pss_cons h ps_ws) q
theorem ws_nil (q : D.nx σ H) : WSs X [] D σ H := ws_of pss_nil q
theorem ws_ret (h : WE X e σ H D.rt) : WSs X (.Return (some e) pos :: rest) D σ H := ws_cons (ps_ret pe_we) h
theorem ws_set {i : Nat} (hN : X.N.Nodup) (hi : X.N[i]? = some x) (hl : Loc X.env.scope x) (h : WE X e σ H fun v H1 => WSs X rest D (σ.set i (some v)) H1) (hs : swapsWith e (some (.Name x p)) pos.line X.env = pure false := by rfl)
    (hf : X.fn x = true ∨ X.env.scope.names.lookup x = some .local := by first | exact .inl rfl | exact .inr rfl | assumption) : WSs X (.Assign [.Name x p] e pos :: rest) D σ H := ws_cons (ps_set hN hi hl pe_we hs hf) h
theorem ws_if (h : WT X c σ H fun k H1 => if k = true then WSs X b1 { D with nx := WSs X rest D } σ H1 else WSs X b2 { D with nx := WSs X rest D } σ H1) : WSs X (.If c b1 b2 pos :: rest) D σ H := ws_cons (ps_if pt_wt ps_ws ps_ws) h
theorem ws_ifF (hx : Ex I H) (vs : VS I σ ρ) (hc : T X ρ c false) (q : ∀ I' H', Nw I H I' H' → WSs X rest D σ H') : WSs X (.If c b1 [] pos :: rest) D σ H :=
  ws_cons (ps_if pt_wt (pss_never (sts := b1)) pss_nil) (hc I σ H hx vs _ fun I' H' n => by rw [if_neg Bool.false_ne_true]; exact q I' H' n)
theorem bd_ret (h : E X ρ e d) : Bd X ρ (.Return (some e) pos :: rest) d := fun I σ H D hx vs q => ws_ret (h I σ H hx vs _ q)
theorem bd_set {i : Nat} (hN : X.N.Nodup) (hi : X.N[i]? = some x) (hl : Loc X.env.scope x) (h : E X ρ e d) (k : Bd X (ρ.set i (some d)) rest d') (hs : swapsWith e (some (.Name x p)) pos.line X.env = pure false := by rfl)
    (hf : X.fn x = true ∨ X.env.scope.names.lookup x = some .local := by first | exact .inl rfl | exact .inr rfl | assumption) : Bd X ρ (.Assign [.Name x p] e pos :: rest) d' := fun I σ H D hx vs q =>
  ws_set hN hi hl (h I σ H hx vs _ fun v I1 H1 n1 r1 => k I1 _ H1 D n1.j ((vs.up n1.i).set r1) fun u I2 H2 n2 r2 => q u I2 H2 (n1.trans n2) r2) hs hf
/-- if c: (returns) rest -/
theorem bd_if {k : Bool} (hc : T X ρ c k) (h1 : k = true → Bd X ρ b1 d) (h2 : k = false → Bd X ρ rest d) : Bd X ρ (.If c b1 [] pos :: rest) d := fun I σ H D hx vs q => by
  refine ws_if (hc I σ H hx vs _ fun I1 H1 n1 => ?_)
  cases k with
  | true =>
    rw [if_pos rfl]
    exact h1 rfl I1 σ H1 _ n1.j (vs.up n1.i) fun v I2 H2 n2 r2 => q v I2 H2 (n1.trans n2) r2
  | false =>
    rw [if_neg Bool.false_ne_true]
    exact ws_nil (h2 rfl I1 σ H1 D n1.j (vs.up n1.i) fun v I2 H2 n2 r2 => q v I2 H2 (n1.trans n2) r2)
/-- if c: (never) rest -/
theorem bd_ifF (hc : T X ρ c false) (h2 : Bd X ρ rest d) : Bd X ρ (.If c b1 [] pos :: rest) d := fun I σ H D hx vs q =>
  ws_ifF hx vs hc fun I1 H1 n1 => h2 I1 σ H1 D n1.j (vs.up n1.i) fun v I2 H2 n2 r2 => q v I2 H2 (n1.trans n2) r2
end
/-- name = [elt for ..] on one line -/
theorem bd_setLc {X : Cx} {ρ : Ro} {rest : List Stmt} {d' : PyData} {i : Nat} {y : Str} {py : Pos} {elt tg iter : Expr} {scope : Scope} {own : List (Str × Nat)} {pos spos : Pos} {g : TG} {ds : List PyData} {F : PyData → PyData} {ρ' : PyData → Ro}
    (hc : X.calm = true) (hN : X.N.Nodup) (hy : X.N[i]? = some y) (hyl : X.env.scope.names.lookup y = some .local) (hsw : swapsWith (.ListComp elt [⟨tg, iter, [], 0⟩] scope pos) (some (.Name y py)) spos.line X.env = pure true)
    (ok : BlkOk X.N X.env.scope scope own) (hg : PGb X scope tg g) (it : IT X ρ tg iter ds) (gt : ∀ d, d ∈ ds → Gt g (own.map (·.2)) (wipeR ρ (own.map (·.2))) d (ρ' d)) (he : ∀ d, d ∈ ds → Eb X scope (ρ' d) elt (F d)) (hl : ds.length < 100000)
    (k : Bd X (ρ.set i (some (.list (ds.map F)))) rest d') (hs : ∀ x, foldedSetIterable iter X.env x = pure x := by intro _; rfl) : Bd X ρ (.Assign [.Name y py] (.ListComp elt [⟨tg, iter, [], 0⟩] scope pos) spos :: rest) d' := fun I σ H D hx vs q =>
  ws_cons (ps_setLc (wi := WI X tg iter) (g := g) (tt := tYes) (te := WEb X scope elt) hc hN hy hyl hsw pi_wi ok hg (fun s H C cl fp => pts_nil) (fun s H C cl fp => ⟨fun pins s' σ H' Q I h => h s H C cl fp pins s' I⟩) hs)
    (tlc it gt he hl hx vs _ fun v I1 H1 n1 r1 => k I1 _ H1 D n1.j ((vs.up n1.i).set r1) fun u I2 H2 n2 r2 => q u I2 H2 (n1.trans n2) r2)

/-! ### a def that changes nothing -/
abbrev cxB (P : Program) (w : World) (K : PySem.W.Frag) (mg : Str → Option Value) (base : Heap) (N : List Str) (x : Str) (st : Stmt) (f : Addr) (cdv : Value) (A : Around) (outer : List Env) (s : Shared) (H : Hp) (E : XK) : Cx :=
  (cxOf CX0 P w K mg base N x (defScope st) f cdv A outer s H E).nox
section
variable {P : Program} {w : World} {K : PySem.W.Frag} {mg : Str → Option Value} {base : Heap} {x : Str} {st : Stmt} {N ps : List Str} {k : Nat} {R : List PyData → PyData → Prop} {sp : Sp}
theorem fn_mk (D : Dfn K mg x st) (S : FnScope N ps (defScope st)) (len : ∀ vs H Q E, sp vs H Q E → vs.length = ps.length)
    (hb : ∀ (kV doc pm : Value) (an : Option Addr) (cdv ct : Value) (us : List Value), us.length = ps.length → bindArgs (PySem.W.fnOf x x (defArgs st) (defBody st) (defScope st) .none kV doc pm an cdv ct) ⟨us, []⟩ = pure (ps.zip us))
    (body : ∀ (f : Addr) (cdv : Value) (A : Around) (outer : List Env) (s : Shared) (H : Hp) (E : XK), Room k (A.deeper (envOfC x (defScope st) s.heap.objs.size f cdv)) → ∀ vs Q, sp vs H Q E →
      WSs (cxB P w K mg base N x st f cdv A outer s H E) (defBody st) { nx := fun _ H' => Q .non H', rt := Q } (L2.start N vs) H) : Fn P w K mg base x (k + 1) ps sp := by
  obtain ⟨f, fd, hm, hF⟩ := D
  exact ⟨f, fd, x, st, hm, hF, hF.binds hb, hF.ok S len fun cdv A outer s H vs Q E hr h => ⟨_, ps_ws, body f cdv A outer s H E hr vs Q h⟩⟩
theorem fn_pure (D : Dfn K mg x st) (S : FnScope N ps (defScope st)) (len : ∀ ds d, R ds d → ds.length = ps.length)
    (hb : ∀ (kV doc pm : Value) (an : Option Addr) (cdv ct : Value) (us : List Value), us.length = ps.length → bindArgs (PySem.W.fnOf x x (defArgs st) (defBody st) (defScope st) .none kV doc pm an cdv ct) ⟨us, []⟩ = pure (ps.zip us))
    (body : ∀ (f : Addr) (cdv : Value) (A : Around) (outer : List Env) (s : Shared) (H : Hp) (E : XK), Room k (A.deeper (envOfC x (defScope st) s.heap.objs.size f cdv)) → ∀ ds d, R ds d →
      Bd (cxB P w K mg base N x st f cdv A outer s H E) (ds.map some ++ List.replicate (N.length - ds.length) none) (defBody st) d) : Fn P w K mg base x (k + 1) ps (spP R) := by
  refine fn_mk D S (fun vs H Q E h => ?_) hb fun f cdv A outer s H E hr vs Q h => ?_
  · obtain ⟨I, ds, d, _, r, hR, _⟩ := h
    rw [r.length]
    exact len ds d hR
  · obtain ⟨I, ds, d, hx, r, hR, q⟩ := h
    refine body f cdv A outer s H E hr ds d hR I _ H _ hx ?_ q
    unfold L2.start
    rw [r.length]
    exact vs_start _ r
end
end R1

set_option Elab.async false
set_option linter.all false
set_option maxRecDepth 100000
set_option maxHeartbeats 4000000
/-! CoreS: ranks (a number, powers, numbers), their order; comparing and sorting tuples that tell ranks; sorting by a def's answers. -/
namespace R1
open PySem PySem.Spec PyProof.Rows L2 Evl

/-! ### the order of rows of whole numbers -/
abbrev lexLt := HT.lexLt
theorem lexLt_asym : ∀ x y : List Int, lexLt x y = true → lexLt y x = false
  | [], [], h => by cases h
  | [], _ :: _, _ => rfl
  | _ :: _, [], h => by cases h
  | a :: x, b :: y, h => by
    show HT.lexLt (b :: y) (a :: x) = false
    have h' : HT.lexLt (a :: x) (b :: y) = true := h
    rw [HT.lexLt_cons] at h' ⊢
    by_cases e : a = b
    · rw [if_pos e] at h'
      rw [if_pos e.symm]
      exact lexLt_asym x y h'
    · rw [if_neg e] at h'
      rw [if_neg (Ne.symm e)]
      have := of_decide_eq_true h'
      exact decide_eq_false (by omega)
theorem lexLt_ntr : ∀ x y z : List Int, lexLt y x = false → lexLt z y = false → lexLt z x = false
  | [], _, [], _, _ => rfl
  | _ :: _, [], _, h, _ => by cases h
  | [], y, c :: z, _, _ => rfl
  | a :: x, b :: y, [], _, h => by cases h
  | a :: x, b :: y, c :: z, h1, h2 => by
    have h1' : HT.lexLt (b :: y) (a :: x) = false := h1
    have h2' : HT.lexLt (c :: z) (b :: y) = false := h2
    show HT.lexLt (c :: z) (a :: x) = false
    rw [HT.lexLt_cons] at h1' h2' ⊢
    by_cases e1 : b = a
    · by_cases e2 : c = b
      · rw [if_pos e1] at h1'
        rw [if_pos e2] at h2'
        rw [if_pos (e2.trans e1)]
        exact lexLt_ntr x y z h1' h2'
      · rw [if_neg e2] at h2'
        have := of_decide_eq_false h2'
        rw [if_neg (by omega)]
        exact decide_eq_false (by omega)
    · rw [if_neg e1] at h1'
      have q1 := of_decide_eq_false h1'
      by_cases e2 : c = b
      · rw [if_neg (by omega)]
        exact decide_eq_false (by omega)
      · rw [if_neg e2] at h2'
        have q2 := of_decide_eq_false h2'
        rw [if_neg (by omega)]
        exact decide_eq_false (by omega)
theorem lexLt_tri : ∀ x y : List Int, lexLt x y = false → lexLt y x = false → x = y
  | [], [], _, _ => rfl
  | [], _ :: _, h, _ => by cases h
  | _ :: _, [], _, h => by cases h
  | a :: x, b :: y, h1, h2 => by
    have h1' : HT.lexLt (a :: x) (b :: y) = false := h1
    have h2' : HT.lexLt (b :: y) (a :: x) = false := h2
    rw [HT.lexLt_cons] at h1' h2'
    by_cases e : a = b
    · rw [if_pos e] at h1'
      rw [if_pos e.symm] at h2'
      rw [e, lexLt_tri x y h1' h2']
    · rw [if_neg e] at h1'
      rw [if_neg (Ne.symm e)] at h2'
      have q1 := of_decide_eq_false h1'
      have q2 := of_decide_eq_false h2'
      omega
theorem lexLt_irr (x : List Int) : lexLt x x = false := by
  cases h : lexLt x x with
  | false => rfl
  | true => rw [lexLt_asym x x h] at h; cases h
/-- a rank: a number, a row, a row -/
abbrev Rk := Int × List Int × List Int
def rkLt (a b : Rk) : Bool := if a.1 = b.1 then (if a.2.1 = b.2.1 then lexLt a.2.2 b.2.2 else lexLt a.2.1 b.2.1) else decide (a.1 < b.1)
theorem rkLt_asym (a b : Rk) (h : rkLt a b = true) : rkLt b a = false := by
  unfold rkLt at h ⊢
  by_cases e : a.1 = b.1
  · rw [if_pos e] at h
    rw [if_pos e.symm]
    by_cases f : a.2.1 = b.2.1
    · rw [if_pos f] at h
      rw [if_pos f.symm]
      exact lexLt_asym _ _ h
    · rw [if_neg f] at h
      rw [if_neg (Ne.symm f)]
      exact lexLt_asym _ _ h
  · rw [if_neg e] at h
    rw [if_neg (Ne.symm e)]
    have := of_decide_eq_true h
    exact decide_eq_false (by omega)
theorem rkLt_ntr (a b c : Rk) (h1 : rkLt b a = false) (h2 : rkLt c b = false) : rkLt c a = false := by
  unfold rkLt at h1 h2 ⊢
  by_cases e1 : b.1 = a.1
  · rw [if_pos e1] at h1
    by_cases e2 : c.1 = b.1
    · rw [if_pos e2] at h2
      rw [if_pos (e2.trans e1)]
      by_cases f1 : b.2.1 = a.2.1
      · rw [if_pos f1] at h1
        by_cases f2 : c.2.1 = b.2.1
        · rw [if_pos f2] at h2
          rw [if_pos (f2.trans f1)]
          exact lexLt_ntr _ _ _ h1 h2
        · rw [if_neg f2] at h2
          rw [if_neg (fun q => f2 (q.trans f1.symm)), ← f1]
          exact h2
      · rw [if_neg f1] at h1
        by_cases f2 : c.2.1 = b.2.1
        · rw [if_neg (fun q => f1 (f2.symm.trans q)), f2]
          exact h1
        · rw [if_neg f2] at h2
          have q := lexLt_ntr _ _ _ h1 h2
          by_cases f3 : c.2.1 = a.2.1
          · exfalso
            rw [f3] at h2
            exact f1 (lexLt_tri _ _ h1 h2)
          · rw [if_neg f3]
            exact q
    · rw [if_neg e2] at h2
      have := of_decide_eq_false h2
      rw [if_neg (by omega)]
      exact decide_eq_false (by omega)
  · rw [if_neg e1] at h1
    have q1 := of_decide_eq_false h1
    by_cases e2 : c.1 = b.1
    · rw [if_neg (by omega)]
      exact decide_eq_false (by omega)
    · rw [if_neg e2] at h2
      have q2 := of_decide_eq_false h2
      rw [if_neg (by omega)]
      exact decide_eq_false (by omega)
theorem rkLt_tri (a b : Rk) (h1 : rkLt a b = false) (h2 : rkLt b a = false) : a = b := by
  unfold rkLt at h1 h2
  by_cases e : a.1 = b.1
  · rw [if_pos e] at h1
    rw [if_pos e.symm] at h2
    by_cases f : a.2.1 = b.2.1
    · rw [if_pos f] at h1
      rw [if_pos f.symm] at h2
      exact Prod.ext e (Prod.ext f (lexLt_tri _ _ h1 h2))
    · rw [if_neg f] at h1
      rw [if_neg (Ne.symm f)] at h2
      exact absurd (lexLt_tri _ _ h1 h2) f
  · rw [if_neg e] at h1
    rw [if_neg (Ne.symm e)] at h2
    have q1 := of_decide_eq_false h1
    have q2 := of_decide_eq_false h2
    omega
theorem swo_rk {α : Type} (k : α → Rk) : SrtO.Swo fun v u => rkLt (k v) (k u) := ⟨fun x y h => rkLt_asym _ _ h, fun x y z h1 h2 => rkLt_ntr _ _ _ h1 h2⟩

/-! ### values that tell ranks -/
/-- the tuple of a rank -/
def rkD (k : Rk) : PyData := .tuple (.int k.1 :: .tuple (k.2.1.map .int) :: k.2.2.map .int)
structure IsRk (h : Heap) (v : Value) (k : Rk) : Prop where
  ex : ∃ (a : Addr) (o : Obj) (t : Tok) (b : Addr) (us cs : List Value) (n : Nat), v = .ref a ∧ h.get? a = some o ∧ o.cls = .type "tuple" ∧ o.data = .seq (.int k.1 t :: .ref b :: cs).toArray n ∧ IsTup h b us.toArray ∧ IntsAre us k.2.1 ∧ IntsAre cs k.2.2
theorem eqvAll_ints : ∀ p q : List Int, PyData.eqvAll (p.map .int) (q.map .int) = decide (p = q)
  | [], [] => rfl
  | [], _ :: _ => rfl
  | _ :: _, [] => rfl
  | a :: p, b :: q => by
    show (PyData.eqv (.int a) (.int b) && PyData.eqvAll (p.map .int) (q.map .int)) = _
    rw [eqvAll_ints p q]
    show ((a == b) && decide (p = q)) = _
    by_cases e : a = b
    · subst e
      by_cases f : p = q
      · subst f; simp
      · simp [f]
    · simp [e]
theorem canLay_ints : ∀ p : List Int, PyData.canLayAll0 (p.map .int) = true
  | [] => rfl
  | a :: p => by
    show (PyData.canLay0 (.int a) && PyData.canLayAll0 (p.map .int)) = true
    rw [canLay_ints p]
    rfl

theorem depth_ints : ∀ p : List Int, PyData.depthAll (p.map .int) = 0
  | [] => rfl
  | a :: p => by
    show max (PyData.depth (.int a)) (PyData.depthAll (p.map .int)) = 0
    rw [depth_ints p]
    rfl
section
variable {A : Around} {s : Shared} {h : Heap} {b b' : Addr} {us ws : List Value} {p q : List Int}
theorem reads_tupI (hb : IsTup h b us.toArray) (i : IntsAre us p) : Reads h (.ref b) (.tuple (p.map .int)) [] := by
  obtain ⟨o, ho, hc, n, hd⟩ := hb
  exact .tuple ho hc hd (by simpa using i.reads h)
theorem eqAt_tupI (hb : IsTup s.heap b us.toArray) (hb' : IsTup s.heap b' ws.toArray) (i : IntsAre us p) (i' : IntsAre ws q) (hu : A.units + 1 < cLine) : SeqAt.EqAt A s (.ref b) (.ref b') (decide (p = q)) := by
  have r := SeqAt.eqAt_reads (.tuple (p.map .int)) (.tuple (q.map .int)) A s _ _ _ _ (reads_tupI hb i) (reads_tupI hb' i') (canLay_ints p) (canLay_ints q) (by
    show A.units + min (PyData.depthAll (p.map .int) + 1) (PyData.depthAll (q.map .int) + 1) < cLine
    rw [depth_ints, depth_ints]
    exact hu)
  have e : PyData.eqv (.tuple (p.map .int)) (.tuple (q.map .int)) = decide (p = q) := eqvAll_ints p q
  rwa [e] at r
theorem ltAt_tupI (hb : IsTup s.heap b us.toArray) (hb' : IsTup s.heap b' ws.toArray) (i : IntsAre us p) (i' : IntsAre ws q) (hu : A.units < cLine) : Ob.RcOp .Lt A s (.ref b) (.ref b') (lexLt p q) := fun prog w E Q h => HT.lt_tupInts hb hb' (by simpa using i) (by simpa using i') hu h
/-- t > u of rows of whole numbers -/
theorem lexAt_gt : ∀ (p q : List Int) (k : Nat) (ns ms : List Int), ns = p.drop k → ms = q.drop k → p.take k = q.take k → k ≤ p.length → k ≤ q.length →
    Ob.lexAt (fun j => decide (p.getD j 0 = q.getD j 0)) (fun j => decide (q.getD j 0 < p.getD j 0)) (decide (p.length > q.length)) k (min p.length q.length - k) = lexLt ms ns := fun p q k ns => by
  induction ns generalizing k with
  | nil =>
    intro ms hn hm ht hk hk'
    have hp : p.length = k := by
      have := congrArg List.length hn
      rw [List.length_nil, List.length_drop] at this
      omega
    have e : min p.length q.length - k = 0 := by omega
    rw [e]
    show decide (p.length > q.length) = _
    cases ms with
    | nil => rw [decide_eq_false (by omega)]; rfl
    | cons m ms => rw [decide_eq_false (by omega)]; rfl
  | cons n ns ih =>
    intro ms hn hm ht hk hk'
    have hlp : k < p.length := by
      have := congrArg List.length hn
      rw [List.length_cons, List.length_drop] at this
      omega
    cases ms with
    | nil =>
      have hq : q.length = k := by
        have := congrArg List.length hm
        rw [List.length_nil, List.length_drop] at this
        omega
      have e : min p.length q.length - k = 0 := by omega
      rw [e]
      show decide (p.length > q.length) = true
      exact decide_eq_true (by omega)
    | cons m ms =>
      have hlq : k < q.length := by
        have := congrArg List.length hm
        rw [List.length_cons, List.length_drop] at this
        omega
      have en : p.getD k 0 = n := by
        rw [List.drop_eq_getElem_cons hlp] at hn
        injection hn with h1 _
        rw [List.getD_eq_getElem?_getD, List.getElem?_eq_getElem hlp, h1]
        rfl
      have em : q.getD k 0 = m := by
        rw [List.drop_eq_getElem_cons hlq] at hm
        injection hm with h1 _
        rw [List.getD_eq_getElem?_getD, List.getElem?_eq_getElem hlq, h1]
        rfl
      have e : min p.length q.length - k = (min p.length q.length - (k + 1)) + 1 := by omega
      rw [e, Ob.lexAt_succ, en, em]
      show _ = HT.lexLt (m :: ms) (n :: ns)
      rw [HT.lexLt_cons]
      by_cases c : n = m
      · rw [if_pos (decide_eq_true c), if_pos c.symm]
        rw [List.drop_eq_getElem_cons hlp] at hn
        rw [List.drop_eq_getElem_cons hlq] at hm
        injection hn with h1 h2
        injection hm with h3 h4
        refine ih (k + 1) ms h2 h4 ?_ hlp hlq
        rw [List.take_add_one, List.take_add_one, ht, List.getElem?_eq_getElem hlp, List.getElem?_eq_getElem hlq, ← h1, ← h3, c]
      · rw [if_neg (by rw [decide_eq_false c]; exact Bool.false_ne_true), if_neg (Ne.symm c)]
theorem gtAt_tupI (hb : IsTup s.heap b us.toArray) (hb' : IsTup s.heap b' ws.toArray) (i : IntsAre us p) (i' : IntsAre ws q) (hu : A.units < cLine) : Ob.RcOp .Gt A s (.ref b) (.ref b') (lexLt q p) := by
  have at1 : ∀ j (h1 : j < us.toArray.size), ∃ t, us.toArray[j] = .int (p.getD j 0) t := fun j h1 => PyProof.Rows.IntsAre.int_at i _ _ (by simp at h1; simp [h1])
  have at2 : ∀ j (h1 : j < ws.toArray.size), ∃ t, ws.toArray[j] = .int (q.getD j 0) t := fun j h1 => PyProof.Rows.IntsAre.int_at i' _ _ (by simp at h1; simp [h1])
  have e1 : us.toArray.size = p.length := by rw [List.size_toArray]; exact i.length
  have e2 : ws.toArray.size = q.length := by rw [List.size_toArray]; exact i'.length
  have R := Ob.RcOp.tuples_gt (A := A) (s := s) (e := fun j => decide (p.getD j 0 = q.getD j 0)) (r := fun j => decide (q.getD j 0 < p.getD j 0)) hb hb' hu (fun j h1 h2 => by
    obtain ⟨t, et⟩ := at1 j h1
    obtain ⟨t', et'⟩ := at2 j h2
    rw [et, et']
    have z : (p.getD j 0 == q.getD j 0) = decide (p.getD j 0 = q.getD j 0) := Bool.beq_eq_decide_eq _ _
    rw [← z]
    exact SeqAt.EqAt.int_int _ _ _ _) (fun j h1 h2 _ => by
    obtain ⟨t, et⟩ := at1 j h1
    obtain ⟨t', et'⟩ := at2 j h2
    rw [et, et']
    exact Ob.RcOp.gt_int _ _ _ _)
  rw [e1, e2] at R
  have z := lexAt_gt p q 0 p q rfl rfl rfl (Nat.zero_le _) (Nat.zero_le _)
  rw [Nat.sub_zero] at z
  rwa [z] at R
end
/-- (a number, a row) > (a number, a row) -/
def rRkGt (K : PySem.W.Frag) : R2 := fun x y H Q => ∃ (a b c d : Addr) (m n : Int) (p q : List Int), x = .ref a ∧ y = .ref b ∧ SqT K H a [.int m, .ref c] ∧ SqT K H b [.int n, .ref d] ∧ SqT K H c (p.map V.int) ∧ SqT K H d (q.map V.int) ∧ Q (.bl (rkLt (n, q, []) (m, p, []))) H
theorem op_rkGt {X : Cx} (hu : X.A.units + 64 < cLine) : OpR X (compareOp .Gt) (rRkGt X.K) := by
  intro pins s σ H x y v u Q I rx ry h
  obtain ⟨a, b, c, d, m, n, p, q, rfl, rfl, ha, hb, hc, hd, hq⟩ := h
  cases rx
  cases ry
  obtain ⟨its, r1, p1, _⟩ := I.tuple ha
  obtain ⟨its2, r2, p2, _⟩ := I.tuple hb
  obtain ⟨jts, r3, p3, _⟩ := I.tuple hc
  obtain ⟨jts2, r4, p4, _⟩ := I.tuple hd
  have i3 : IntsAre jts p := Vals.ints r3
  have i4 : IntsAre jts2 q := Vals.ints r4
  cases r1 with
  | cons a1 a2 =>
    cases a2 with
    | cons a2 a3 =>
      cases a3
      cases r2 with
      | cons b1 b2 =>
        cases b2 with
        | cons b2 b3 =>
          cases b3
          obtain ⟨t1, rfl⟩ := a1
          obtain ⟨t2, rfl⟩ := b1
          cases a2
          cases b2
          have R := Ob.RcOp.tuples_gt (A := X.A) (s := s) (e := fun j => if j = 0 then decide (m = n) else decide (p = q)) (r := fun j => if j = 0 then decide (n < m) else lexLt q p) p1 p2 (by omega) (fun j h1 h2 => by
            match j, h1 with
            | 0, _ =>
              have z : (m == n) = decide (m = n) := Bool.beq_eq_decide_eq _ _
              show SeqAt.EqAt X.A.in1 s (.int m t1) (.int n t2) (decide (m = n))
              rw [← z]
              exact SeqAt.EqAt.int_int _ _ _ _
            | 1, _ => exact eqAt_tupI p3 p4 i3 i4 (by show X.A.units + 1 + 1 < cLine; omega)) (fun j h1 h2 _ => by
            match j, h1 with
            | 0, _ => exact Ob.RcOp.gt_int _ _ _ _
            | 1, _ => exact gtAt_tupI p3 p4 i3 i4 (by show X.A.units + 1 < cLine; omega))
          have z : wpAny (model X.prog X.w) X.A (compareOp .Gt (.ref a) (.ref b)) (EP X pins σ Q) X.xe s := R X.prog X.w X.xe (EP X pins σ Q) (by
            refine ⟨.bl _, H, I, rfl, ?_⟩
            have e : Ob.lexAt (fun j => if j = 0 then decide (m = n) else decide (p = q)) (fun j => if j = 0 then decide (n < m) else lexLt q p) (decide ([Value.int m t1, Value.ref c].toArray.size > [Value.int n t2, Value.ref d].toArray.size)) 0
                (min [Value.int m t1, Value.ref c].toArray.size [Value.int n t2, Value.ref d].toArray.size) = rkLt (n, q, []) (m, p, []) := by
              show (if decide (m = n) = true then (if decide (p = q) = true then false else lexLt q p) else decide (n < m)) = _
              unfold rkLt
              show _ = if n = m then (if q = p then lexLt [] [] else lexLt q p) else decide (n < m)
              by_cases h1 : m = n
              · rw [if_pos (decide_eq_true h1), if_pos h1.symm]
                by_cases h2 : p = q
                · rw [if_pos (decide_eq_true h2), if_pos h2.symm]; rfl
                · rw [if_neg (by rw [decide_eq_false h2]; exact Bool.false_ne_true), if_neg (Ne.symm h2)]
              · rw [if_neg (by rw [decide_eq_false h1]; exact Bool.false_ne_true), if_neg (Ne.symm h1)]
            rw [e]
            exact hq)
          exact z
section
variable {X : Cx} {ρ : Ro} {a b : Expr} {pos : Pos} {m n : Int} {p q : List Int}
abbrev pwD (p : List Int) : PyData := .tuple (p.map .int)
theorem e_rkGt (hu : X.A.units + 64 < cLine) (ha : E X ρ a (.tuple [.int m, pwD p])) (hb : E X ρ b (.tuple [.int n, pwD q])) : E X ρ (.Compare a [.Gt] [b] pos) (.bool (rkLt (n, q, []) (m, p, []))) :=
  e_two (pe_cmpR (op_rkGt hu) pe_we pe_we (nomark _)) ha hb fun I H hx x y rx ry Q k => by
    cases rx with
    | tup ea ra =>
      cases ry with
      | tup eb rb =>
        cases ra with
        | cons a1 a2 =>
          cases a2 with
          | cons a2 a3 =>
            cases a3
            cases rb with
            | cons b1 b2 =>
              cases b2 with
              | cons b2 b3 =>
                cases b3
                cases a1
                cases b1
                obtain ⟨c, rfl, hc⟩ := a2.tupI
                obtain ⟨d, rfl, hd⟩ := b2.tupI
                exact ⟨_, _, c, d, m, n, p, q, rfl, rfl, SqT.of (hx _ _ ea), SqT.of (hx _ _ eb), SqT.of (hx _ _ hc), SqT.of (hx _ _ hd), k _ I H (.refl hx) (.bl _)⟩
end
end R1

set_option Elab.async false
set_option linter.all false
set_option maxRecDepth 100000
set_option maxHeartbeats 4000000
/-! CoreT: sorted(tuples that tell ranks, reverse=True); sorted(things, key=own def that answers ranks, reverse=True). -/
namespace R1
open PySem PySem.Spec PyProof.Rows L2 Evl

theorem intsAre_inj : ∀ {us : List Value} {p q : List Int}, IntsAre us p → IntsAre us q → p = q
  | _, _, _, .nil, .nil => rfl
  | _, _, _, .cons n t h, .cons _ _ h' => by rw [intsAre_inj h h']
theorem IsRk.inj {h : Heap} {v : Value} {k k' : Rk} (a : IsRk h v k) (b : IsRk h v k') : k = k' := by
  obtain ⟨⟨x, o, t, y, us, cs, n, rfl, ho, hc, hd, hy, i1, i2⟩⟩ := a
  obtain ⟨⟨x', o', t', y', us', cs', n', e, ho', hc', hd', hy', i1', i2'⟩⟩ := b
  cases e
  rw [ho] at ho'
  cases ho'
  rw [hd] at hd'
  injection hd' with z1 z2
  have z3 : Value.int k.1 t :: Value.ref y :: cs = Value.int k'.1 t' :: Value.ref y' :: cs' := by
    have := congrArg Array.toList z1
    simpa using this
  injection z3 with z4 z5
  injection z5 with z6 z7
  injection z4 with z8 z9
  injection z6 with z10
  subst z7
  subst z10
  obtain ⟨w, hw, _, m, hwd⟩ := hy
  obtain ⟨w', hw', _, m', hwd'⟩ := hy'
  rw [hw] at hw'
  cases hw'
  rw [hwd] at hwd'
  injection hwd' with y1 y2
  have y3 : us = us' := by
    have := congrArg Array.toList y1
    simpa using this
  subst y3
  exact Prod.ext z8 (Prod.ext (intsAre_inj i1 i1') (intsAre_inj i2 i2'))
theorem IsRk.keeps {h h' : Heap} {v : Value} {k : Rk} (a : IsRk h v k) (keep : ∀ b o, h.get? b = some o → o.cls = .type "tuple" → h'.get? b = some o) : IsRk h' v k := by
  obtain ⟨⟨x, o, t, y, us, cs, n, rfl, ho, hc, hd, hy, i1, i2⟩⟩ := a
  obtain ⟨w, hw, hwc, m, hwd⟩ := hy
  exact ⟨x, o, t, y, us, cs, n, rfl, keep _ _ ho hc, hc, hd, ⟨w, keep _ _ hw hwc, hwc, m, hwd⟩, i1, i2⟩

section
variable {prog : Program} {w : World} {A : Around} {E : Value → Shared → Prop} {s : Shared} {Q : Bool → Shared → Prop}
theorem lex_intsR {b : Bool} {xs ys : List Value} {ns ms : List Int} (i : Nat) (hx : IntsAre xs ns) (hy : IntsAre ys ms) (h : Q (lexLt ns ms) s) {fin : Bool} (hf : fin = decide (xs.length < ys.length)) : PySem.W.KatLex prog w A b fin Q (xs.zip ys) i s := by
  induction hx generalizing ys ms i with
  | nil =>
    cases hy with
    | nil => subst hf; exact PySem.W.kat_nil h
    | cons q u hy => subst hf; exact PySem.W.kat_nil h
  | @cons p t xs ns hx ih =>
    cases hy with
    | nil => subst hf; exact PySem.W.kat_nil h
    | @cons q u ys ms hy =>
      show PySem.W.KatLex prog w A b fin Q ((Value.int p t, Value.int q u) :: xs.zip ys) i s
      refine PySem.W.kat_cons (wpAny_eqBool_int ?_)
      have h' : Q (HT.lexLt (p :: ns) (q :: ms)) s := h
      rw [HT.lexLt_cons] at h'
      by_cases e : p = q
      · subst e
        rw [beq_self_eq_true]
        rw [if_pos rfl] at h'
        refine PySem.W.kat_yes ?_
        refine ih (i + 1) hy h' ?_
        rw [hf]
        simp
      · have e' : (p == q) = false := beq_false_of_ne e
        rw [e']
        rw [if_neg e] at h'
        exact PySem.W.kat_no (TS.oneLt_ints _ h')
theorem rk_cmp {vs : List Value} {k : Value → Rk} (hu : A.units + 64 < cLine) (hp : ∀ v ∈ vs, IsRk s.heap v (k v)) : SrtO.Cmp prog w A s (tuples' true) (fun p => p.1 ∈ vs) (SrtO.lt2 fun v u => rkLt (k v) (k u)) := by
  intro p q hm hm'
  have h1 := hp _ hm
  have h2 := hp _ hm'
  show wpAny (model prog w) A (keyLt' (tuples' true) p.1 q.1) (fun r s' => s' = s ∧ r = rkLt (k p.1) (k q.1)) (fun _ _ => False) s
  generalize k p.1 = kx at h1 ⊢
  generalize k q.1 = ky at h2 ⊢
  obtain ⟨⟨a, o, t, y, us, cs, n, e, ho, hc, hd, hy, i1, i2⟩⟩ := h1
  obtain ⟨⟨a', o', t', y', us', cs', n', e', ho', hc', hd', hy', i1', i2'⟩⟩ := h2
  rw [e, e']
  refine PySem.W.kat_lt ho hd ho' hd' ?_
  show PySem.W.KatLex prog w A true _ _ ((.int kx.1 t, .int ky.1 t') :: (.ref y, .ref y') :: cs.zip cs') 0 s
  have hsz : decide ((Value.int kx.1 t :: Value.ref y :: cs).toArray.size < (Value.int ky.1 t' :: Value.ref y' :: cs').toArray.size) = decide (cs.length < cs'.length) := by simp
  rw [hsz]
  unfold rkLt
  refine PySem.W.kat_cons (SeqAt.EqAt.int_int kx.1 t ky.1 t' prog w _ _ ?_)
  refine PySem.W.kat_go (fun e1 => ?_) (fun e1 => ?_)
  · have ex : kx.1 = ky.1 := by simpa using e1
    refine PySem.W.kat_yes (PySem.W.kat_cons (eqAt_tupI hy hy' i1 i1' (by omega) prog w _ _ ?_))
    refine PySem.W.kat_go (fun e2 => ?_) (fun e2 => ?_)
    · have ey : kx.2.1 = ky.2.1 := of_decide_eq_true e2
      refine PySem.W.kat_yes (lex_intsR 2 i2 i2' ⟨rfl, ?_⟩ rfl)
      rw [if_pos ex, if_pos ey]
    · have ey : ¬ kx.2.1 = ky.2.1 := of_decide_eq_false e2
      refine PySem.W.kat_no (PySem.W.kat_one _ _ ?_)
      refine ltAt_tupI hy hy' i1 i1' (by omega) prog w _ _ ?_
      exact (show s = s ∧ lexLt kx.2.1 ky.2.1 = _ from ⟨rfl, by rw [if_pos ex, if_neg ey]⟩)
  · have ex : ¬ kx.1 = ky.1 := by simpa using e1
    exact PySem.W.kat_no (oneLt_int ⟨rfl, by rw [if_neg ex]⟩)
theorem rk_firsts {h : Heap} : ∀ {vs : List Value}, (∀ v ∈ vs, ∃ k, IsRk h v k) → ∃ fs, PySem.W.KatTups h vs fs ∧ fs.length = vs.length ∧ ∀ f ∈ fs, ∃ x t, f = Value.int x t
  | [], _ => ⟨[], PySem.W.KatTups.nil, rfl, fun _ z => nomatch z⟩
  | v :: vs, hp => by
    obtain ⟨fs, h1, h2, h3⟩ := rk_firsts (vs := vs) fun u hu => hp u (.tail _ hu)
    obtain ⟨k, ⟨a, o, t, y, us, cs, n, rfl, ho, hc, hd, hy, i1, i2⟩⟩ := hp v (.head _)
    refine ⟨.int k.1 t :: fs, PySem.W.KatTups.cons ho hc hd (by simp) h1, by rw [List.length_cons, List.length_cons, h2], fun f hf => ?_⟩
    rcases List.mem_cons.mp hf with rfl | hf
    · exact ⟨_, _, rfl⟩
    · exact h3 f hf
theorem rk_kind {vs : List Value} {k : Value → Rk} {Q : SortKind → Shared → Prop} (h0 : 0 < vs.length) (hp : ∀ v ∈ vs, IsRk s.heap v (k v)) (hq : Q (tuples' true) s) : wpAny (model prog w) A (keyKind' vs.toArray) Q E s := by
  obtain ⟨fs, h1, h2, h3⟩ := rk_firsts fun v hm => ⟨_, hp v hm⟩
  refine PySem.W.kat_kind (T := .type "int") h1 (by omega) (fun f hm => ?_) (by rfl) ?_
  · obtain ⟨x, t, rfl⟩ := h3 f hm
    exact PySem.W.Looks.now
  · have e : (Value.type "int" != Value.type "tuple") = true := by first | decide +kernel | rfl | decide
    rw [e]
    exact hq
theorem rk_sortable {a : Addr} {vs : List Value} {k : Value → Rk} (hu : A.units + 64 < cLine) (h0 : 0 < vs.length) (hp : ∀ v ∈ vs, IsRk s.heap v (k v)) (ha : ∀ o, s.heap.get? a = some o → o.cls ≠ .type "tuple") : SrtO.SortableO prog w A s a vs fun v u => rkLt (k v) (k u) := by
  intro h' keep
  have hp' : ∀ v ∈ vs, IsRk h' v (k v) := fun v hm => (hp v hm).keeps fun b o e c => keep b o (fun z => by subst z; exact ha o e c) e
  exact ⟨tuples' true, fun Q E hq => rk_kind (s := { s with heap := h' }) h0 hp' hq, rk_cmp (s := { s with heap := h' }) hu hp'⟩
end
noncomputable def rkOf (h : Heap) (v : Value) : Rk := by
  classical
  exact if z : ∃ k, IsRk h v k then z.choose else (0, [], [])
theorem rkOf_eq {h : Heap} {v : Value} {k : Rk} (a : IsRk h v k) : rkOf h v = k := by
  unfold rkOf
  have z : ∃ k, IsRk h v k := ⟨k, a⟩
  rw [dif_pos z]
  exact z.choose_spec.inj a
/-- data that tells a rank, as the heap lays it -/
theorem Rp.isRk {X : Cx} {pins : List (Addr × Obj)} {s : Shared} {σ : L2.St} {I H : Hp} {x : V} {v : Value} {k : Rk} (i : Inv X pins σ H s) (e : Ex I H) (r : Rp I x (rkD k)) (rv : RelV x v) : IsRk s.heap v k := by
  cases r with
  | tup ha hr =>
    cases rv
    cases hr with
    | cons r1 hr =>
      cases hr with
      | cons r2 hr =>
        cases r1
        obtain ⟨b, rfl, hb⟩ := r2.tupI
        obtain ⟨_, its, rv1, o, ho, hc, n, hd⟩ := i.hok _ _ (e _ _ ha)
        obtain ⟨_, its2, rv2, hd2⟩ := i.hok _ _ (e _ _ hb)
        cases rv1 with
        | cons v1 rv1 =>
          cases rv1 with
          | cons v2 rv1 =>
            obtain ⟨t, rfl⟩ := v1
            cases v2
            rw [hr.ints] at rv1
            exact ⟨_, o, t, b, its2, _, n, rfl, ho, hc, hd, hd2, Vals.ints rv2, Vals.ints rv1⟩

/-! ### the row of ranks, the greatest first -/
def rkGe (a b : Rk) : Bool := !rkLt a b
def srtD (ks : List Rk) : List Rk := ks.mergeSort rkGe
theorem srtD_perm (ks : List Rk) : (srtD ks).Perm ks := List.mergeSort_perm _ _
theorem srtD_pw (ks : List Rk) : (srtD ks).Pairwise fun a b => rkLt a b = false := by
  have h := List.pairwise_mergeSort (le := rkGe) (fun a b c h1 h2 => by
    unfold rkGe at h1 h2 ⊢
    rw [Bool.not_eq_true'] at h1 h2 ⊢
    exact rkLt_ntr c b a h2 h1) (fun a b => by
    unfold rkGe
    cases h : rkLt a b with
    | false => rfl
    | true => rw [rkLt_asym _ _ h]; rfl) ks
  refine h.imp fun {a b} z => ?_
  unfold rkGe at z
  rwa [Bool.not_eq_true'] at z
theorem srtD_eq {ks ns : List Rk} (hp : ns.Perm ks) (hs : ns.Pairwise fun a b => rkLt a b = false) : ns = srtD ks :=
  List.Perm.eq_of_pairwise (le := fun a b => rkLt a b = false) (fun a b _ _ h1 h2 => rkLt_tri a b h1 h2) hs (srtD_pw ks) (hp.trans (srtD_perm ks).symm)
theorem rpAll_map {I : Hp} {α β : Type} {f : α → V} {g : β → PyData} {l : List α} {m : α → β} (h : ∀ x ∈ l, Rp I (f x) (g (m x))) : RpAll I (l.map f) ((l.map m).map g) := by
  induction l with
  | nil => exact .nil
  | cons x l ih => exact .cons (h x (.head _)) (ih fun y hy => h y (.tail _ hy))
theorem rpAll_mem {I : Hp} : ∀ {vs : List V} {ds : List PyData}, RpAll I vs ds → ∀ v ∈ vs, ∃ d ∈ ds, Rp I v d
  | _, _, .nil, v, hv => nomatch hv
  | _, _, .cons h hs, v, hv => by
    rcases List.mem_cons.mp hv with rfl | hv
    · exact ⟨_, .head _, h⟩
    · obtain ⟨d, hd, r⟩ := rpAll_mem hs v hv
      exact ⟨d, .tail _ hd, r⟩
def rSortRk (K : PySem.W.Frag) : List V → List V → Hp → VK → Prop := fun vs zs H Q => ∃ (a : Addr) (xs : List V) (I : Hp) (ks : List Rk), vs = [V.ref a] ∧ zs = [.bl true] ∧ SqL K H a xs ∧ Ex I H ∧ RpAll I xs (ks.map rkD) ∧
  ∀ (ys : List V) (p : Addr), RpAll I ys ((srtD ks).map rkD) → H p = none → Q (.ref p) (upd H p (.lst ys))
theorem rk_back {X : Cx} {pins : List (Addr × Obj)} {s : Shared} {σ : L2.St} {I H : Hp} (i : Inv X pins σ H s) (e : Ex I H) : ∀ {xs : List V} {its : List Value} {ks : List Rk}, RpAll I xs (ks.map rkD) → Vals xs its →
    (∀ v ∈ its, IsRk s.heap v (rkOf s.heap v) ∧ Rp I (backV v) (rkD (rkOf s.heap v)) ∧ ∃ a, v = .ref a) ∧ its.map (rkOf s.heap) = ks
  | [], [], [], .nil, .nil => ⟨fun _ h => (nomatch h), rfl⟩
  | x :: xs, v :: its, k :: ks, .cons r rs, .cons q qs => by
    obtain ⟨h1, h2⟩ := rk_back i e rs qs
    have z := Rp.isRk i e r q
    have z' := rkOf_eq z
    refine ⟨fun u hu => ?_, by rw [List.map_cons, z', h2]⟩
    rcases List.mem_cons.mp hu with rfl | hu
    · rw [z']
      refine ⟨z, ?_, ?_⟩
      · cases r with
        | tup ha hr => cases q; exact .tup ha hr
      · cases r with
        | tup ha hr => cases q; exact ⟨_, rfl⟩
    · exact h1 u hu
theorem cr_sortRk {X : Cx} (hu : X.A.units + 70 < cLine) : CallRK X (.builtin "sorted") [Str.ofString "reverse"] (rSortRk X.K) := by
  intro pins s σ H vs zs us ws Q I r rz h
  obtain ⟨a, xs, I0, ks, rfl, rfl, hs, hx, hr, q⟩ := h
  obtain rfl := Vals.ref1 r
  obtain ⟨w1, rfl, e1⟩ := vals1 rz
  obtain rfl : w1 = Value.bool true := e1
  obtain ⟨its, rv, hl, hz⟩ := I.list hs
  obtain ⟨hb, hk⟩ := rk_back I hx hr rv
  refine SrtR.sorted_ordK (b := true) (ltv := fun v u => rkLt (rkOf s.heap v) (rkOf s.heap u)) (fun _ => rfl) (PyProof.Rows.args_sorted_rev _ _) (fun _ => PyProof.Rows.args_list_sort_rev _ _) (swo_rk _) hl.isList (by rw [← rv.length]; exact hz) (fun h2 h₁ a' ha kk => ?_) fun out h1 h2 => ?_
  · refine rk_sortable (s := { s with heap := h₁ }) (k := rkOf s.heap) (by show X.A.units + 1 + 1 + 64 < cLine; omega) (by omega) (fun v hv => (hb v hv).1.keeps fun b o e _ => (kk b o e).2) fun o e => ?_
    have e' : some o = some (seqObj "list" its.toArray 0) := e.symm.trans ha
    cases e'
    intro c
    exact absurd (Value.type.inj c) (by decide)
  · have hp : out.Perm its := h2.perm.trans (List.reverse_perm _)
    have hm : ∀ v ∈ out.reverse, IsRk s.heap v (rkOf s.heap v) ∧ Rp I0 (backV v) (rkD (rkOf s.heap v)) ∧ ∃ a, v = .ref a := fun v hv => hb v (hp.mem_iff.mp (List.mem_reverse.mp hv))
    have hks : out.reverse.map (rkOf s.heap) = srtD ks := by
      refine srtD_eq ?_ ?_
      · rw [← hk]
        exact ((List.reverse_perm _).trans hp).map _
      · rw [List.map_reverse, List.pairwise_reverse, List.pairwise_map]
        exact h1
    obtain ⟨ep, he'⟩ := PyProof.Rows.sortedAll_at s.heap its (if true = true then out.toArray.reverse else out.toArray)
    have e0 : (out.reverse).toArray = out.toArray.reverse := by
      apply Array.ext'
      rw [Array.toList_reverse]
    have hlen : (out.reverse.map backV).length ≤ sizeLine := by
      rw [List.length_map, List.length_reverse, hp.length_eq, ← rv.length]
      exact hz
    refine ⟨.ref _, upd H (s.heap.objs.size + 1) (.lst (out.reverse.map backV)), I.laid (t' := s.toks) (fun _ _ => PyProof.Rows.sortedAll_old) (Nat.le_succ _) ⟨hlen, out.reverse, ep, vals_back fun u hu => (hm u hu).2.2, by rw [e0]; exact he'⟩, rfl, q _ _ ?_ (I.hok.fresh (Nat.le_succ _))⟩
    rw [← hks]
    exact rpAll_map fun v hv => (hm v hv).2.1
section
variable {X : Cx} {ρ : Ro} {e f : Expr} {ks : List Rk} {pos p q kp : Pos} {j : Nat}
/-- sorted(xs, reverse=True) of tuples that tell ranks -/
theorem e_sortRk (hu : X.A.units + 70 < cLine) (hg : Gl X "sorted") (hm : X.mg "sorted" = none) (ha : E X ρ e (.list (ks.map rkD)))
    (hs : starEach [e] X.env = [(false, eval e X.env)] := by rfl) : E X ρ (.Call (.Name "sorted" p) [e] [⟨some "reverse", .Constant (.bool true) j q, kp⟩] pos) (.list ((srtD ks).map rkD)) :=
  e_of (pe_callBK (ks := [Str.ofString "reverse"]) (cr_sortRk hu) hg hm (by decide +kernel) (pa1 hs) (pk_cons pe_bl pk_nil) (by decide) (by decide) (by rw [hs]; rfl) (by rw [hs]; rfl) (by rfl) (by rfl) (by rfl)) fun I σ H hx vs Q k =>
    ha I σ H hx vs _ fun v I1 H1 n1 r1 => by
      cases r1 with
      | lst ea ra =>
        exact ⟨_, _, I1, ks, rfl, rfl, SqL.of (n1.j _ _ ea), n1.j, ra, fun ys l ry hl => k _ _ _ (n1.trans (Nw.new n1.j hl)) (.lst upd_same (ry.up (Nw.new (o := .lst ys) n1.j hl).i))⟩
end
end R1

set_option Elab.async false
set_option linter.all false
set_option maxRecDepth 100000
set_option maxHeartbeats 4000000
/-! CoreU: sorted(rows of whole numbers, key=an own def that answers their rank, reverse=True). -/
namespace R1
open PySem PySem.Spec PyProof.Rows L2 Evl

def rkP (p : List Int) : Rk := (p.sum, p, [])
/-- rank_of -/
def RkR (ds : List PyData) (d : PyData) : Prop := ∃ p : List Int, ds = [pwD p] ∧ d = rkD (rkP p)
/-- rows of whole numbers, the greatest rank first -/
def srtP (ps : List (List Int)) : List (List Int) := (srtD (ps.map rkP)).map (·.2.1)
theorem srtP_perm (ps : List (List Int)) : (srtP ps).Perm ps := by
  have h := (srtD_perm (ps.map rkP)).map (·.2.1)
  rw [List.map_map] at h
  have e : ps.map ((fun k : Rk => k.2.1) ∘ rkP) = ps := by
    show ps.map (fun p => p) = ps
    exact List.map_id _
  rw [e] at h
  exact h
theorem srtP_rk (ps : List (List Int)) : (srtP ps).map rkP = srtD (ps.map rkP) := by
  unfold srtP
  rw [List.map_map]
  conv => rhs; rw [← List.map_id (srtD (ps.map rkP))]
  refine List.map_congr_left fun k hk => ?_
  obtain ⟨p, _, rfl⟩ := List.mem_map.mp ((srtD_perm _).mem_iff.mp hk)
  rfl
theorem srtP_eq {ps ns : List (List Int)} (hp : ns.Perm ps) (hs : ns.Pairwise fun a b => rkLt (rkP a) (rkP b) = false) : ns = srtP ps := by
  have h : ns.map rkP = srtD (ps.map rkP) := srtD_eq (hp.map _) (List.pairwise_map.mpr hs)
  have e : ns = (ns.map rkP).map (·.2.1) := by
    rw [List.map_map]
    show ns = ns.map (fun p => p)
    exact (List.map_id _).symm
  rw [e, h]
  rfl

section
variable {X : Cx} {pins : List (Addr × Obj)} {s : Shared} {σ : L2.St} {I H : Hp} {f : Addr} {fd : FuncData} {ps : List Str} {k : Nat}
theorem key_run {R : List PyData → PyData → Prop} {v : Value} {x : V} {d e : PyData} {C : Value → Shared → Prop} (F : FnOk X.prog X.w X.K X.mg X.base CX0 k f fd ps (spP R)) (hr : Room (k + 2) X.A) (hb : Binds X.K fd ps []) (i : Inv X pins σ H s) (rv : RelV x v) (hx : Ex I H) (rx : Rp I x d) (hR : R [d] e) :
    wpAny (model X.prog X.w) X.A.in1.in1 (call (.ref f) [v]) (EP X pins σ fun u H' => ∃ I', Nw I H I' H' ∧ Rp I' u e) C s := by
  have r2 : Vals [x] [v] := .cons rv .nil
  have h : spP R [x] H (fun u H' => ∃ I', Nw I H I' H' ∧ Rp I' u e) E0 := ⟨I, [d], e, hx, .cons rx .nil, hR, fun u I' H' n r => ⟨I', n, r⟩⟩
  have hl : ([v] : List Value).length = ps.length := by rw [← r2.length]; exact F.len _ _ _ _ h
  refine wpAny_call (codeAny_mono (F.run X.A.in1.in1 X.stack s H ⟨[v], []⟩ [v] [x] _ E0 hr.in1.in1 i.env0.in1.in1 (by have z := hb s [v] i.kIn (by simpa using hl); simpa using z) r2 h) fun r s' hq => ?_)
  cases r with
  | error e => exact hq.elim
  | ok fl =>
    cases fl with
    | ret u => exact i.after hq
    | next => exact False.elim hq
    | brk => exact False.elim hq
    | cont => exact False.elim hq
end

/-- pairs (key, item) in some order: the keys tell ranks, the items are the rows -/
structure Prd (h : Heap) (I : Hp) (q : Keyed) (p : List Int) : Prop where
  k : IsRk h q.1 (rkP p)
  i : Rp I (backV q.2) (pwD p)
  r : ∃ a, q.2 = Value.ref a
inductive PrdAll (h : Heap) (I : Hp) : List Keyed → List (List Int) → Prop
  | nil : PrdAll h I [] []
  | cons {q p l ps} : Prd h I q p → PrdAll h I l ps → PrdAll h I (q :: l) (p :: ps)
theorem PrdAll.mem {h : Heap} {I : Hp} : ∀ {l : List Keyed} {ps : List (List Int)}, PrdAll h I l ps → ∀ q ∈ l, ∃ p, Prd h I q p
  | _, _, .nil, q, z => nomatch z
  | _, _, .cons a b, q, z => by
    rcases List.mem_cons.mp z with rfl | z
    · exact ⟨_, a⟩
    · exact b.mem q z
theorem PrdAll.keys {h : Heap} {I : Hp} : ∀ {l : List Keyed} {ps : List (List Int)}, PrdAll h I l ps → l.map (fun q => rkOf h q.1) = ps.map rkP
  | _, _, .nil => rfl
  | _, _, .cons a b => by rw [List.map_cons, List.map_cons, b.keys, rkOf_eq a.k]

section
variable {X : Cx} {pins : List (Addr × Obj)} {s : Shared} {σ : L2.St} {I H : Hp} {a kS : Addr} {e1 : Nat} {b : Bool}
/-- the end: what was sorted is written back -/
theorem keys_end {its : List Value} {keys : Array Value} {ps : List (List Int)} {n : Nat} {xs ys : List V} {P : PySem.Fin → Shared → Prop} (hu : X.A.units + 70 < cLine) (i : Inv X pins σ H s)
    (ha : s.heap.get? a = some (seqObj "list" #[] e1)) (hHa : Mut (H a)) (hk : H kS = some (.lst xs)) (hks : s.heap.get? kS = some (seqObj "list" keys n)) (hne : kS ≠ a) (hsz : its.length ≤ sizeLine) (hlen : keys.size = its.length)
    (hp : PrdAll s.heap I (keys.zip its.toArray).toList ps)
    (h : ∀ (s' : Shared) (out : List V), RpAll I out ((srtP ps).map pwD) → Inv X pins σ (upd (upd H kS (.lst [])) a (.lst out)) s' → P (.done (.ret .none)) s') :
    wpAny (model X.prog X.w) X.A.in1.in1 (ksk_end a true its.toArray e1 (.ref kS) keys) P (fun _ _ => False) s := by
  have hzs : (keys.zip its.toArray).size = its.length := by rw [Array.size_zip, hlen, List.size_toArray, Nat.min_self]
  have fin : ∀ st' : SortSt, SrtO.Srtd (SrtO.lt2 fun v u => rkLt (rkOf s.heap v) (rkOf s.heap u)) (arrOf st').toList → (arrOf st').toList.Perm (keys.zip its.toArray).toList → failedOf st' = none →
      wpAny (model X.prog X.w) X.A.in1.in1 (ksk_tail a true e1 (.ref kS) st') P (fun _ _ => False) s := by
    intro st' h1 h2 h3
    have hl : (arrOf st').toList.length = its.length := by rw [h2.length_eq, Array.length_toList, hzs]
    have hm : ∀ q ∈ (arrOf st').toList.reverse, ∃ p, Prd s.heap I q p := fun q hq => hp.mem q (h2.mem_iff.mp (List.mem_reverse.mp hq))
    have hks' : (arrOf st').toList.reverse.map (fun q => rkOf s.heap q.1) = srtD (ps.map rkP) := by
      refine srtD_eq ?_ ?_
      · rw [← hp.keys]
        exact ((List.reverse_perm _).trans h2).map _
      · rw [List.map_reverse, List.pairwise_reverse, List.pairwise_map]
        exact h1
    have ho : (((arrOf st').map (·.2)).reverse).toList = (arrOf st').toList.reverse.map (·.2) := by
      rw [Array.toList_reverse, Array.toList_map, List.map_reverse]
    have s1 := Heap.SameBut.update s.heap kS (Obj.mapSeq fun _ => (#[] : Array Value))
    have na1 : (s.heap.update kS (Obj.mapSeq fun _ => (#[] : Array Value))).get? a = some (seqObj "list" #[] e1) := (s1.2 a hne.symm).trans ha
    unfold ksk_tail
    try dsimp only
    refine wpAny_bind (listUpdate_at hks rfl ?_ (by rw [hlen]; exact hsz) (Nat.zero_le _))
    refine wpAny_bind (wpAny_letGo ?_)
    refine wpAny_bind (seqEpoch_at na1 rfl ?_)
    refine wpAny_bind (listUpdate_at na1 rfl ?_ (Nat.zero_le _) ?_)
    · rw [h3]
      simp only [bne_self_eq_false, Bool.false_eq_true, if_false]
      have i1 : Inv X pins σ (upd H kS (.lst [])) { s with heap := s.heap.update kS (Obj.mapSeq fun _ => (#[] : Array Value)), toks := s.toks } := by
        have hks2 : s.heap.get? kS = some { cls := .type "list", data := .seq keys.toList.toArray n } := by rw [Array.toArray_toList]; exact hks
        have q := get?_update_seq hks fun _ => (#[] : Array Value)
        refine i.write (x := kS) (e := kS) (o := .lst []) (by rw [hk]; trivial) (.inl rfl) (fun b u hb z => (Heap.get?_update_other _ _ (Ne.symm hb)).trans z) ⟨_, q⟩ ⟨Nat.zero_le _, [], _, .nil, q⟩
      obtain ⟨c2, q2⟩ : ∃ c2, ((s.heap.update kS (Obj.mapSeq fun _ => (#[] : Array Value))).update a (Obj.mapSeq fun _ => if true = true then ((arrOf st').map (·.2)).reverse else (arrOf st').map (·.2))).get? a = some (seqObj "list" ((arrOf st').map (·.2)).reverse c2) :=
        ⟨_, get?_update_seq na1 fun _ => if true = true then ((arrOf st').map (·.2)).reverse else (arrOf st').map (·.2)⟩
      refine wpAny_pure (h _ ((arrOf st').toList.reverse.map fun q => backV q.2) ?_ ?_)
      · have e0 : (srtP ps).map pwD = (((arrOf st').toList.reverse.map (fun q => rkOf s.heap q.1)).map fun k => pwD k.2.1) := by
          rw [hks']
          unfold srtP
          rw [List.map_map]
          rfl
        rw [e0]
        exact rpAll_map (g := fun k : Rk => pwD k.2.1) fun q hq => by
          obtain ⟨p, hpr⟩ := hm q hq
          rw [rkOf_eq hpr.k]
          exact hpr.i
      · refine i1.write (x := a) (e := a) (t' := s.toks) ?_ (.inl rfl) (fun b u hb z => (Heap.get?_update_other _ _ (Ne.symm hb)).trans z) ⟨_, q2⟩ ?_
        · rw [upd_ne hne.symm]
          exact hHa
        · refine ⟨?_, (arrOf st').toList.reverse.map (·.2), c2, ?_, ?_⟩
          · rw [List.length_map, List.length_reverse, hl]
            exact hsz
          · have := vals_back (us := (arrOf st').toList.reverse.map (·.2)) fun u hu => by
              obtain ⟨q, hq, rfl⟩ := List.mem_map.mp hu
              obtain ⟨p, hpr⟩ := hm q hq
              exact hpr.r
            rw [List.map_map] at this
            exact this
          · rw [← ho, Array.toArray_toList]
            exact q2
    · show (((arrOf st').map (·.2)).reverse).size ≤ _
      have : (arrOf st').size = its.length := by rw [← Array.length_toList]; exact hl
      simp only [Array.size_reverse, Array.size_map]
      omega
  have est : ((keys.zip its.toArray).reverse).toList.Perm (keys.zip its.toArray).toList := by rw [Array.toList_reverse]; exact List.reverse_perm _
  unfold ksk_end
  try dsimp only
  rw [if_pos rfl]
  refine wpAny_bind (wpAny_rule ?_)
  by_cases h2 : its.toArray.size < 2
  · rw [if_pos h2, if_pos h2]
    refine wpAny_bind (wpAny_pure ?_)
    rw [StateT.run_pure]
    refine wpAny_bind (wpAny_pure ?_)
    try dsimp only
    rw [if_pos rfl]
    refine fin (SortSt.mk' general' (keys.zip its.toArray).reverse #[] 7 none) ?_ est rfl
    show SrtO.Srtd _ ((keys.zip its.toArray).reverse).toList
    have hl : ((keys.zip its.toArray).reverse).toList.length < 2 := by
      rw [est.length_eq, Array.length_toList, hzs]
      simpa using h2
    revert hl
    generalize ((keys.zip its.toArray).reverse).toList = l
    intro hl
    match l, hl with
    | [], _ => exact List.Pairwise.nil
    | [v], _ => exact List.pairwise_singleton _ _
  · rw [if_neg h2, if_neg h2]
    have h2' : 2 ≤ its.length := by simpa using h2
    have hkm : ∀ v ∈ keys.toList, IsRk s.heap v (rkOf s.heap v) := fun v hv => by
      have hz : (keys.zip its.toArray).toList = keys.toList.zip its := ksk_zip keys its
      obtain ⟨j, hj, rfl⟩ := List.getElem_of_mem hv
      have hj1 : j < keys.toList.length := hj
      rw [Array.length_toList] at hj1
      have hjz : j < (keys.toList.zip its).length := by rw [List.length_zip, Array.length_toList]; omega
      have hq : (keys.toList.zip its)[j] ∈ (keys.zip its.toArray).toList := by rw [hz]; exact List.getElem_mem hjz
      obtain ⟨p, hpr⟩ := hp.mem _ hq
      have e : ((keys.toList.zip its)[j]).1 = keys.toList[j] := by rw [List.getElem_zip]
      have k := hpr.k
      rw [e] at k
      rw [rkOf_eq k]
      exact k
    have ek : keys = keys.toList.toArray := (Array.toArray_toList).symm
    refine wpAny_bind (m := keyKind' keys) ?_
    have hkk := rk_kind (prog := X.prog) (w := X.w) (A := X.A.in1.in1) (s := s) (E := fun _ _ => False) (vs := keys.toList) (k := rkOf s.heap) (by rw [Array.length_toList]; omega) hkm (Q := fun κ s' => κ = tuples' true ∧ s' = s) ⟨rfl, rfl⟩
    rw [Array.toArray_toList] at hkk
    refine wpAny_mono hkk ?_ fun _ _ e => e
    rintro κ s' ⟨rfl, rfl⟩
    have hall : SrtO.AllL (fun p : Keyed => p.1 ∈ keys.toList) ((keys.zip its.toArray).reverse).toList := fun p hm => by
      have hm' := est.mem_iff.mp hm
      rw [ksk_zip] at hm'
      obtain ⟨x, y⟩ := p
      exact (List.of_mem_zip hm').1
    refine wpAny_bind (wpAny_mono (SrtO.wpS_sortO (st0 := SortSt.mk' (tuples' true) (keys.zip its.toArray).reverse #[] 7 none)
      (Q := fun _ st' => SrtO.Srtd (SrtO.lt2 fun v u => rkLt (rkOf s'.heap v) (rkOf s'.heap u)) (arrOf st').toList ∧ (arrOf st').toList.Perm (keys.zip its.toArray).toList ∧ failedOf st' = none)
      (SrtO.swo2 (swo_rk fun v => rkOf s'.heap v)) (rk_cmp (k := rkOf s'.heap) (by show X.A.units + 1 + 1 + 64 < cLine; omega) hkm) rfl hall rfl rfl fun st' a1 a2 a3 => ⟨a1, a2.perm.trans est, a3⟩) ?_ fun _ _ e => e)
    rintro ⟨⟨⟩, st'⟩ s'' ⟨rfl, hp1, hp2, hf⟩
    try dsimp only
    exact fin st' hp1 hp2 hf
end
end R1

set_option Elab.async false
set_option linter.all false
set_option maxRecDepth 100000
set_option maxHeartbeats 4000000
/-! CoreV: the keys are made; sorted(..) as a whole. -/
namespace R1
open PySem PySem.Spec PyProof.Rows L2 Evl

theorem RpAll.nth {I : Hp} {vs : List V} {ds : List PyData} (h : RpAll I vs ds) {j : Nat} {v : V} (hv : vs[j]? = some v) : ∃ d, ds[j]? = some d ∧ Rp I v d := by
  have hl := h.length
  obtain ⟨hj, _⟩ := List.getElem?_eq_some_iff.mp hv
  obtain ⟨u, a, b⟩ := h.get (List.getElem?_eq_getElem (by omega : j < ds.length))
  rw [hv] at a
  cases a
  exact ⟨_, List.getElem?_eq_getElem (by omega), b⟩
theorem vals_nth : ∀ {xs : List V} {its : List Value}, Vals xs its → ∀ {j : Nat} {v : Value}, its[j]? = some v → ∃ x, xs[j]? = some x ∧ RelV x v
  | _, _, .nil, j, v, h => by simp at h
  | _, _, .cons a b, 0, v, h => by simp at h; subst h; exact ⟨_, rfl, a⟩
  | _, _, .cons a b, j + 1, v, h => vals_nth b (j := j) (by simpa using h)
theorem back_eq {I : Hp} {x : V} {v : Value} {p : List Int} (r : Rp I x (pwD p)) (rv : RelV x v) : Rp I (backV v) (pwD p) ∧ ∃ a, v = .ref a := by
  cases r with
  | tup ha hr => cases rv; exact ⟨.tup ha hr, _, rfl⟩
theorem prd_all {h : Heap} {I : Hp} : ∀ {ks xs : List V} {kv its : List Value} {ps : List (List Int)}, (∀ (x : V) (v : Value) (k : Rk), Rp I x (rkD k) → RelV x v → IsRk h v k) → Vals ks kv → RpAll I ks (ps.map fun p => rkD (rkP p)) → Vals xs its → RpAll I xs (ps.map pwD) → PrdAll h I (kv.zip its) ps
  | _, _, _, _, [], _, .nil, .nil, .nil, .nil => .nil
  | _, _, _, _, p :: ps, hk, .cons a as, .cons b bs, .cons c cs, .cons d ds => by
    obtain ⟨e, f⟩ := back_eq d c
    exact .cons ⟨hk _ _ _ b a, e, f⟩ (prd_all hk as bs cs ds)
theorem vals_snoc {xs : List V} {us : List Value} {x : V} {u : Value} (a : Vals xs us) (b : RelV x u) : Vals (xs ++ [x]) (us ++ [u]) := a.append (.cons b .nil)

section
variable {X : Cx} {pins : List (Addr × Obj)} {s : Shared} {σ : L2.St} {H : Hp} {I : Hp} {f : Addr} {fd : FuncData} {ps : List Str} {k : Nat}
theorem nw_mut {I H I' H' : Hp} {p : Addr} {o : HO} (n : Nw I H I' H') (h : H p = none) (hi : I' p = none) : Nw I H I' (upd H' p o) := ⟨n.i, ex_mut n.j hi, ex_mut n.h h, n.k⟩
theorem keys_rest {H0 : Hp} {its : List Value} {xs : List V} {rs : List (List Int)} {a kS : Addr} {e1 : Nat} {P : PySem.Fin → Shared → Prop} (hu : X.A.units + 70 < cLine) (F : FnOk X.prog X.w X.K X.mg X.base CX0 k f fd ps (spP RkR)) (hr : Room (k + 2) X.A) (hb : Binds X.K fd ps [])
    (i : Inv X pins σ H s) (hx : Nw I H0 I H) (h0a : H0 a = none) (h0k : H0 kS = none) (hHa : H a = some (.ext fun h => h.get? a = some (seqObj "list" #[] e1))) (hIa : I a = none) (hHk : H kS = some (.lst [])) (hIk : I kS = none) (hne : kS ≠ a)
    (rv : Vals xs its) (rx : RpAll I xs (rs.map pwD)) (hsz : its.length ≤ sizeLine)
    (h : ∀ (s' : Shared) (out : List V) (I' H' : Hp), Nw I H0 I' H' → RpAll I' out ((srtP rs).map pwD) → I' a = none → I' kS = none → Inv X pins σ (upd (upd H' kS (.lst [])) a (.lst out)) s' → P (.done (.ret .none)) s') :
    wpAny (model X.prog X.w) X.A.in1.in1 (ksk_rest a (.ref f) true its.toArray e1 (.ref kS)) P (fun _ _ => False) s := by
  have hlx : xs.length = rs.length := by rw [rx.length, List.length_map]
  have hli : its.length = rs.length := by rw [← rv.length, hlx]
  unfold ksk_rest
  refine wpAny_bind (wpAny_rule ?_)
  first
    | rw [List.forIn_toArray]
    | (rw [← Array.forIn_toList]; simp only [List.toList_toArray])
    | rw [← Array.forIn_toList]
  refine wpAny_bind (ksk_fold (fun j s' => ∃ (I' H' : Hp) (ks : List V), Inv X pins σ H' s' ∧ Nw I H0 I' H' ∧ RpAll I' ks ((rs.take j).map fun p => rkD (rkP p)) ∧ H' kS = some (.lst ks) ∧ H' a = some (.ext fun h => h.get? a = some (seqObj "list" #[] e1)) ∧ I' a = none ∧ I' kS = none) its 0 s
    ⟨I, H, [], i, hx, .nil, hHk, hHa, hIa, hIk⟩ ?step ?done)
  case step =>
    rintro j x s' hj ⟨I1, H1, ks, i1, n1, r1, e1k, e1a, q1, q2⟩
    simp only [Nat.zero_add] at r1 ⊢
    obtain ⟨y, hy, ry⟩ := vals_nth rv hj
    obtain ⟨d, hd, rd⟩ := rx.nth hy
    obtain ⟨p, hp, rfl⟩ : ∃ p, rs[j]? = some p ∧ pwD p = d := by
      rw [List.getElem?_map] at hd
      cases q : rs[j]? with
      | none => rw [q] at hd; simp at hd
      | some p => rw [q] at hd; simp at hd; exact ⟨p, rfl, hd⟩
    have hjl : j < its.length := (List.getElem?_eq_some_iff.mp hj).1
    refine wpAny_bind (wpAny_attempt (wpAny_mono (key_run (C := fun _ _ => False) F hr hb i1 ry n1.j (rd.up n1.i) ⟨p, rfl, rfl⟩) (fun u s'' he => ?_) fun _ _ z => z.elim))
    obtain ⟨v, H2, i2, rv2, I2, n2, r2⟩ := he
    try dsimp only
    obtain ⟨k1, k2⟩ := n2.keep e1k q2
    obtain ⟨k3, k4⟩ := n2.keep e1a q1
    obtain ⟨hz, kit, kn, rk, hob⟩ := i2.hok kS _ k1
    have hkl : ks.length = j := by
      rw [r1.length, List.length_map, List.length_take]
      omega
    have hkit : kit.length = j := by rw [← rk.length, hkl]
    have hz2 := hsz
    rw [sizeLine_eq] at hz2
    refine wpAny_bind (listUpdate_at hob rfl ?_ (by rw [List.size_toArray, sizeLine_eq]; omega) (by rw [Array.size_push, List.size_toArray, sizeLine_eq]; omega))
    have hlen : (ks ++ [v]).length ≤ sizeLine := by rw [List.length_append, List.length_singleton, sizeLine_eq]; omega
    obtain ⟨c2, hc2⟩ : ∃ c2, (s''.heap.update kS (Obj.mapSeq (·.push u))).get? kS = some (seqObj "list" (kit.toArray.push u) c2) := ⟨_, get?_update_seq hob (·.push u)⟩
    rw [List.push_toArray] at hc2
    have i3 : Inv X pins σ (upd H2 kS (.lst (ks ++ [v]))) { s'' with heap := s''.heap.update kS (Obj.mapSeq (·.push u)), toks := s''.toks } :=
      i2.write (x := kS) (e := kS) (by rw [k1]; trivial) (.inl rfl) (fun b u hb z => (Heap.get?_update_other _ _ (Ne.symm hb)).trans z) ⟨_, hc2⟩ ⟨hlen, kit ++ [u], _, vals_snoc rk rv2, hc2⟩
    refine wpAny_pure ⟨rfl, I2, _, ks ++ [v], i3, nw_mut (n1.trans n2) h0k k2, ?_, upd_same, ?_, k4, k2⟩
    · rw [List.take_add_one, hp]
      simp only [Option.toList_some, List.map_append, List.map_cons, List.map_nil]
      exact (r1.up n2.i).append (.cons r2 .nil)
    · rw [upd_ne hne.symm]
      exact k3
  case done =>
    rintro s' ⟨I1, H1, ks, i1, n1, r1, e1k, e1a, q1, q2⟩
    rw [Nat.zero_add, hli, List.take_length] at r1
    obtain ⟨hz, kit, kn, rk, hob⟩ := i1.hok kS _ e1k
    obtain ⟨ha, _⟩ := i1.hok a _ e1a
    refine wpAny_bind (listItems_at hob rfl ?_)
    refine keys_end (I := I1) (ys := []) (ps := rs) (keys := kit.toArray) (n := kn) hu i1 ha (by rw [e1a]; trivial) e1k hob hne hsz ?_ ?_ fun s3 out ro i3 => h s3 out I1 H1 n1 ro q1 q2 i3
    · rw [List.size_toArray, ← rk.length, r1.length, List.length_map, hli]
    · rw [ksk_zip]
      exact prd_all (fun x v k r rv => Rp.isRk i1 n1.j r rv) rk r1 rv (rx.up n1.i)

/-- sorted(rows, key=rank_of, reverse=True) -/
def rSortKey (K : PySem.W.Frag) (f : Addr) : List V → List V → Hp → VK → Prop := fun vs zs H Q => ∃ (a : Addr) (xs : List V) (I : Hp) (rs : List (List Int)), vs = [V.ref a] ∧ zs = [V.ref f, .bl true] ∧ SqL K H a xs ∧ Ex I H ∧ RpAll I xs (rs.map pwD) ∧
  ∀ (v : V) (I' H' : Hp), Nw I H I' H' → Rp I' v (.list ((srtP rs).map pwD)) → Q v H'
theorem cr_sortKey (hu : X.A.units + 70 < cLine) (F : FnOk X.prog X.w X.K X.mg X.base CX0 k f fd ps (spP RkR)) (hr : Room (k + 2) X.A) (hb : Binds X.K fd ps []) : CallRK X (.builtin "sorted") [Str.ofString "key", Str.ofString "reverse"] (rSortKey X.K f) := by
  intro pins s σ H vs zs us ws Q i r rz h
  obtain ⟨l, xs, I0, rs, rfl, rfl, hs, hx, hr', q⟩ := h
  obtain rfl := Vals.ref1 r
  obtain ⟨w1, w2, rfl, e1, e2⟩ := vals2 rz
  cases e1
  obtain rfl : w2 = Value.bool true := e2
  obtain ⟨its, rv, hl, hz⟩ := i.list hs
  have hzi : its.length ≤ sizeLine := by rw [← rv.length]; exact hz
  have ha1 := PyProof.Rows.ksk_s2 (.ref l) (.ref f) (.bool true)
  refine call_function_entry_kw kind_sorted plain_sorted entry_sorted ha1 ?_
  unfold Builtin.«sorted»
  refine wpAny_bind (m := checkCount "sorted" 1 1 _) (wpAny_pure ?_)
  refine wpAny_bind (collect_list hl.isList ?_ hzi)
  refine wpAny_bind (wpAny_newList ?_ hzi)
  have hsz : ((s.heap.push (seqObj "list" #[] 0)).update s.heap.objs.size (Obj.mapSeq (· ++ its.toArray))).objs.size = s.heap.objs.size + 1 := by
    rw [Heap.size_update, size_push']
  have hoL : (((s.heap.push (seqObj "list" #[] 0)).update s.heap.objs.size (Obj.mapSeq (· ++ its.toArray))).push (seqObj "list" its.toArray 0)).get? (s.heap.objs.size + 1) = some (seqObj "list" its.toArray 0) := by
    rw [← hsz]; exact Heap.get?_push_size _ rfl
  have keep : ∀ b o, s.heap.get? b = some o → b ≠ s.heap.objs.size + 1 ∧ (((s.heap.push (seqObj "list" #[] 0)).update s.heap.objs.size (Obj.mapSeq (· ++ its.toArray))).push (seqObj "list" its.toArray 0)).get? b = some o := fun b o q => by
    have hlt : b < s.heap.objs.size := Heap.lt_size q
    refine ⟨Nat.ne_of_lt (Nat.lt_succ_of_lt hlt), Heap.get?_push_of_some _ ?_⟩
    rw [Heap.get?_update_ne _ _ _ _ (Nat.ne_of_lt hlt)]
    exact Heap.get?_push_of_some _ q
  show wpAny _ _ _ _ _ { s with heap := ((s.heap.push (seqObj "list" #[] 0)).update s.heap.objs.size (Obj.mapSeq (· ++ its.toArray))).push (seqObj "list" its.toArray 0) }
  rw [hsz]
  generalize hg : ((s.heap.push (seqObj "list" #[] 0)).update s.heap.objs.size (Obj.mapSeq (· ++ its.toArray))).push (seqObj "list" its.toArray 0) = h1 at hoL keep ⊢
  have hs1 : h1.objs.size = s.heap.objs.size + 2 := by rw [← hg, size_push', hsz]
  clear hg hsz
  generalize ha : s.heap.objs.size + 1 = a at hoL keep ⊢
  refine wpAny_bind (wpAny_holding (wpAny_call_entry_kw slot_list_sort ⟨_, hoL, rfl⟩ entry_list_sort ?body (PyProof.Rows.ksk_l2 _ _ _)))
  case body =>
    show wpAny (model X.prog X.w) X.A.in1.in1 (Builtin.«list.sort» ⟨[.ref a], [(Str.ofString "key", .ref f), (Str.ofString "reverse", .bool true)]⟩) _ _ _
    rw [ksk_t2]
    obtain ⟨e1, ho1⟩ : ∃ e1, (h1.update a (Obj.mapSeq fun _ => (#[] : Array Value))).get? a = some (seqObj "list" #[] e1) := ⟨_, get?_update_seq hoL fun _ => #[]⟩
    have hkS : ((h1.update a (Obj.mapSeq fun _ => (#[] : Array Value))).push (seqObj "tuple" its.toArray 0)).objs.size = a + 2 := by rw [size_push', Heap.size_update, hs1, ← ha]
    unfold ksk_tree
    refine wpAny_bind (listItems_at hoL rfl ?_)
    refine wpAny_bind (listUpdate_at hoL rfl ?_ (by rw [List.size_toArray]; exact hzi) (Nat.zero_le _))
    refine wpAny_bind (seqEpoch_at ho1 rfl ?_)
    refine wpAny_bind (wpAny_newTuple ?_ hzi)
    refine wpAny_bind (wpAny_newList ?_ (Nat.zero_le _))
    refine wpAny_holding ?_
    have hHa : H a = none := i.hok.fresh (by omega)
    have i1 : Inv X pins σ (upd H a (.ext fun h => h.get? a = some (seqObj "list" #[] e1))) { s with heap := h1.update a (Obj.mapSeq fun _ => (#[] : Array Value)), toks := s.toks } :=
      i.laid (fun b u z => (Heap.get?_update_other _ _ (Ne.symm (keep b u z).1)).trans (keep b u z).2) (by omega) ⟨ho1, ⟨_, ho1⟩, fun h1 h2 z1 z2 => z2 _ z1⟩
    have hHk : (upd H a (.ext fun h => h.get? a = some (seqObj "list" #[] e1))) (a + 2) = none := by
      rw [upd_ne (show a + 2 ≠ a by omega)]
      exact i.hok.fresh (by omega)
    have hHk0 : H (a + 2) = none := i.hok.fresh (by omega)
    have ekS : (((h1.update a (Obj.mapSeq fun _ => (#[] : Array Value))).push (seqObj "tuple" its.toArray 0)).push (seqObj "list" #[] 0)).get? (a + 2) = some (seqObj "list" #[] 0) := by
      rw [← hkS]; exact Heap.get?_push_size _ rfl
    have i2 := i1.laid (a := a + 2) (o := .lst []) (h' := ((h1.update a (Obj.mapSeq fun _ => (#[] : Array Value))).push (seqObj "tuple" its.toArray 0)).push (seqObj "list" #[] 0)) (t' := s.toks) (fun b u z => Heap.get?_push_of_some _ (Heap.get?_push_of_some _ z)) (by
      show (h1.update a (Obj.mapSeq fun _ => (#[] : Array Value))).objs.size ≤ a + 2
      rw [Heap.size_update, hs1]
      omega) ⟨Nat.zero_le _, [], 0, .nil, ekS⟩
    have hIa : I0 a = none := fresh_back hx hHa
    have hIk : I0 (a + 2) = none := fresh_back hx hHk0
    have n0 : Nw I0 H I0 (upd (upd H a (.ext fun h => h.get? a = some (seqObj "list" #[] e1))) (a + 2) (.lst [])) := nw_mut (nw_mut (Nw.refl hx) hHa hIa) hHk0 hIk
    show wpAny _ _ (ksk_rest a (.ref f) true its.toArray e1 (.ref _)) _ _ _
    have ekk : (Value.ref ((h1.update a (Obj.mapSeq fun _ => (#[] : Array Value))).push (seqObj "tuple" its.toArray 0)).objs.size) = .ref (a + 2) := by rw [hkS]
    rw [ekk]
    refine wpAny_mono (keys_rest (I := I0) (H0 := H) (kS := a + 2) hu F hr hb i2 n0 hHa hHk0 ?_ hIa upd_same hIk (show a + 2 ≠ a by omega) rv hr' hzi (P := fun r s' => ∃ (out : List V) (I' H' : Hp), r = .done (.ret .none) ∧ Nw I0 H I' H' ∧ RpAll I' out ((srtP rs).map pwD) ∧ I' a = none ∧ I' (a + 2) = none ∧ Inv X pins σ (upd (upd H' (a + 2) (.lst [])) a (.lst out)) s')
      fun s' out I' H' n ro za zk i3 => ⟨out, I', H', rfl, n, ro, za, zk, i3⟩) ?_ fun _ _ z => z.elim
    · rw [upd_ne (show a ≠ a + 2 by omega)]
      exact upd_same
    · rintro r s' ⟨out, I', H', rfl, n, ro, za, zk, i3⟩
      refine ⟨_, rfl, ?_⟩
      refine wpAny_pure ⟨_, rfl, ?_⟩
      have n1 : Nw I0 H I' (upd (upd H' (a + 2) (.lst [])) a (.lst out)) := nw_mut (nw_mut n hHk0 zk) hHa za
      have n2 : Nw I0 H (upd I' a (.lst out)) (upd (upd H' (a + 2) (.lst [])) a (.lst out)) := by
        refine ⟨n.i.trans (Ex.new za), fun b u z => ?_, n1.h, fun b z1 z2 => ?_⟩
        · by_cases hb : b = a
          · subst hb; rw [upd_same] at z ⊢; exact z
          · rw [upd_ne hb] at z ⊢; exact (ex_mut n.j zk) b u z
        · have hb : b ≠ a := z2.ne hHa
          rw [upd_ne hb]
          exact n.k b z1 z2
      exact ⟨.ref a, _, i3, rfl, q _ _ _ n2 (.lst upd_same (ro.up (Ex.new za)))⟩
end
section
variable {X : Cx} {ρ : Ro} {e : Expr} {rs : List (List Int)} {pos p q kp kp2 pk : Pos} {j k : Nat} {ps : List Str} {x : Str}
/-- sorted(xs, key=rank_of, reverse=True) -/
theorem e_sortKey (F : Fn X.prog X.w X.K X.mg X.base x k ps (spP RkR)) (hr : Room (k + 2) X.A) (hgx : Gl X x) (hg : Gl X "sorted") (hm : X.mg "sorted" = none) (ha : E X ρ e (.list (rs.map pwD)))
    (hdb : (x == ("__debug__" : Str)) = false := by decide) (hs : starEach [e] X.env = [(false, eval e X.env)] := by rfl) :
    E X ρ (.Call (.Name "sorted" p) [e] [⟨some "key", .Name x pk, kp⟩, ⟨some "reverse", .Constant (.bool true) j q, kp2⟩] pos) (.list ((srtP rs).map pwD)) := by
  obtain ⟨f, fd, qn, st, hmf, hF, hb, ok⟩ := F.ex
  have hu : X.A.units + 70 < cLine := by have := hr.un; omega
  exact e_of (pe_callBK (ks := [Str.ofString "key", Str.ofString "reverse"]) (cr_sortKey hu ok hr hb) hg hm (by decide +kernel) (pa1 hs) (pk_cons (pe_glob (v := .ref f) hgx hmf rfl hdb) (pk_cons pe_bl pk_nil)) (by decide) (by decide) (by rw [hs]; rfl) (by rw [hs]; rfl) (by rfl) (by rfl) (by rfl)) fun I σ H hx vs Q k =>
    ha I σ H hx vs _ fun v I1 H1 n1 r1 => by
      cases r1 with
      | lst ea ra =>
        exact ⟨_, _, I1, rs, rfl, rfl, SqL.of (n1.j _ _ ea), n1.j, ra, fun v I2 H2 n2 r2 => k _ _ _ (n1.trans n2) r2⟩
end
end R1

set_option Elab.async false
set_option linter.all false
set_option maxRecDepth 100000
set_option maxHeartbeats 4000000
/-! CoreW: frames: what stays (rows of data) and what changes (lists, dicts from rows of whole numbers, the state of draws). -/
namespace R1
open PySem PySem.Spec PyProof.Rows L2 Evl

/-! ### what may change -/
/-- the state of draws at a: a list of the cells, an index up to n, a rest -/
def penPhi (a c : Addr) (n : Nat) (h : Heap) : Prop := ∃ (at' rest : Int) (t u : Tok) (e : Nat), h.get? a = some { cls := .type "list", data := .seq #[.ref c, .int at' t, .int rest u] e } ∧ 0 ≤ at' ∧ at' ≤ n
inductive MD
  | lst (ds : List PyData)
  | dct (kvs : List (List Int × PyData))
  | pen (n : Nat)
  /-- the list of the state of draws itself -/
  | opn (ds : List PyData)
  /-- a dict that was handed in -/
  | dcs (kvs : List (List Int × PyData))
def MD.isPen : MD → Bool
  | .pen _ => true
  | .opn _ => true
  | .dcs _ => true
  | _ => false
def keyP (p : List Int) : List L2.Key := p.map Sum.inl
theorem keyP_kV (p : List Int) : (keyP p).map kV = p.map V.int := by
  unfold keyP
  rw [List.map_map]
  rfl
theorem keyP_inj {p q : List Int} (h : keyP p = keyP q) : p = q := by
  have e : (keyP p).filterMap (fun z => match z with | .inl i => some i | .inr _ => none) = (keyP q).filterMap (fun z => match z with | .inl i => some i | .inr _ => none) := by rw [h]
  have k : ∀ l : List Int, (keyP l).filterMap (fun z => match z with | .inl i => some i | .inr _ => none) = l := fun l => by
    unfold keyP
    rw [List.filterMap_map]
    exact List.filterMap_some
  rw [k, k] at e
  exact e
inductive RpKv (I : Hp) : List (List L2.Key × V) → List (List Int × PyData) → Prop
  | nil : RpKv I [] []
  | cons {p v d ws kvs} : Rp I v d → RpKv I ws kvs → RpKv I ((keyP p, v) :: ws) ((p, d) :: kvs)
def MdAt (I H : Hp) (a : Addr) : MD → Prop
  | .lst ds => ∃ xs, H a = some (.lst xs) ∧ RpAll I xs ds
  | .dct kvs => ∃ ws, H a = some (.dT ws) ∧ RpKv I ws kvs
  | .pen n => ∃ (c : Addr) (cs : List Int), H a = some (.ext (penPhi a c n)) ∧ I c = some (.lst (cs.map V.int))
  | .opn ds => ∃ xs, H a = some (.lst xs) ∧ RpAll I xs ds
  | .dcs kvs => ∃ ws, H a = some (.dT ws) ∧ RpKv I ws kvs
theorem RpKv.up {I J : Hp} (e : Ex I J) : ∀ {ws kvs}, RpKv I ws kvs → RpKv J ws kvs
  | _, _, .nil => .nil
  | _, _, .cons h t => .cons (h.up e) (t.up e)
theorem RpKv.length {I : Hp} : ∀ {ws kvs}, RpKv I ws kvs → ws.length = kvs.length
  | _, _, .nil => rfl
  | _, _, .cons h t => congrArg (· + 1) t.length
/-- what a dict of data holds -/
def kvGet (kvs : List (List Int × PyData)) (p : List Int) : Option PyData := (kvs.find? fun kv => decide (kv.1 = p)).map (·.2)
def kvPut (kvs : List (List Int × PyData)) (p : List Int) (d : PyData) : List (List Int × PyData) :=
  if (kvs.any fun kv => decide (kv.1 = p)) = true then kvs.map (fun kv => if kv.1 = p then (kv.1, d) else kv) else kvs ++ [(p, d)]
theorem kvGet_nil {p : List Int} : kvGet [] p = none := rfl
theorem kvGet_pos {q : List Int × PyData} {r : List (List Int × PyData)} {p : List Int} (e : q.1 = p) : kvGet (q :: r) p = some q.2 := by simp [kvGet, List.find?_cons, e]
theorem kvGet_neg {q : List Int × PyData} {r : List (List Int × PyData)} {p : List Int} (e : ¬ q.1 = p) : kvGet (q :: r) p = kvGet r p := by simp [kvGet, List.find?_cons, e]
theorem keyP_dec (p q : List Int) : decide (keyP p = keyP q) = decide (p = q) := by
  by_cases e : p = q
  · subst e; simp
  · rw [decide_eq_false e, decide_eq_false fun z => e (keyP_inj z)]
theorem RpKv.get {I : Hp} {p : List Int} : ∀ {ws kvs}, RpKv I ws kvs → (kvGet kvs p = none → valV ws (keyP p) = none) ∧ ∀ d, kvGet kvs p = some d → ∃ v, valV ws (keyP p) = some v ∧ Rp I v d
  | _, _, .nil => ⟨fun _ => rfl, fun d h => by cases h⟩
  | _, _, .cons (p := q) (v := v) (d := d) (ws := ws) (kvs := kvs) h t => by
    by_cases e : q = p
    · subst e
      refine ⟨fun z => ?_, fun d' z => ?_⟩
      · rw [kvGet_pos (q := (q, d)) rfl] at z
        cases z
      · rw [kvGet_pos (q := (q, d)) rfl] at z
        cases z
        exact ⟨v, valV_pos (p := (keyP q, v)) rfl, h⟩
    · have e' : ¬ (keyP q = keyP p) := fun z => e (keyP_inj z)
      rw [kvGet_neg (q := (q, d)) e, valV_neg (p := (keyP q, v)) e']
      exact t.get
theorem RpKv.any {I : Hp} {p : List Int} : ∀ {ws kvs}, RpKv I ws kvs → (ws.any fun kv => decide (kv.1 = keyP p)) = (kvs.any fun kv => decide (kv.1 = p))
  | _, _, .nil => rfl
  | _, _, .cons (p := q) (v := v) h t => by
    rw [List.any_cons, List.any_cons, t.any]
    show (decide (keyP q = keyP p) || _) = _
    rw [keyP_dec]
theorem RpKv.map {I : Hp} {p : List Int} {v : V} {d : PyData} (r : Rp I v d) : ∀ {ws kvs}, RpKv I ws kvs → RpKv I (ws.map fun kv => if kv.1 = keyP p then (kv.1, v) else kv) (kvs.map fun kv => if kv.1 = p then (kv.1, d) else kv)
  | _, _, .nil => .nil
  | _, _, .cons (p := q) (v := u) h t => by
    rw [List.map_cons, List.map_cons]
    by_cases e : q = p
    · subst e
      rw [if_pos rfl, if_pos rfl]
      exact .cons r (t.map r)
    · have e' : ¬ (keyP q = keyP p) := fun z => e (keyP_inj z)
      rw [if_neg e, if_neg e']
      exact .cons h (t.map r)
theorem RpKv.snoc {I : Hp} {p : List Int} {v : V} {d : PyData} (r : Rp I v d) : ∀ {ws kvs}, RpKv I ws kvs → RpKv I (ws ++ [(keyP p, v)]) (kvs ++ [(p, d)])
  | _, _, .nil => .cons r .nil
  | _, _, .cons h t => .cons h (t.snoc r)
theorem RpKv.put {I : Hp} {p : List Int} {v : V} {d : PyData} {ws kvs} (t : RpKv I ws kvs) (r : Rp I v d) : RpKv I (putK ws (keyP p) v) (kvPut kvs p d) := by
  unfold putK kvPut
  rw [t.any]
  split
  · exact t.map r
  · exact t.snoc r
theorem kvGet_any (p : List Int) : ∀ kvs : List (List Int × PyData), (kvs.any fun kv => decide (kv.1 = p)) = (kvGet kvs p).isSome
  | [] => rfl
  | q :: r => by
    rw [List.any_cons]
    by_cases e : q.1 = p
    · simp only [kvGet_pos e, decide_eq_true e, Bool.true_or, Option.isSome_some]
    · rw [kvGet_neg e, decide_eq_false e, Bool.false_or]; exact kvGet_any p r
theorem kvGet_map (p q : List Int) (y : PyData) : ∀ kvs : List (List Int × PyData), kvGet (kvs.map fun kv => if kv.1 = p then (kv.1, y) else kv) q = (kvGet kvs q).map fun x => if q = p then y else x
  | [] => rfl
  | z :: r => by
    have ih := kvGet_map p q y r
    rw [List.map_cons]
    by_cases h : z.1 = p
    · rw [if_pos h]
      by_cases e : z.1 = q
      · rw [kvGet_pos (q := (z.1, y)) e, kvGet_pos e, Option.map_some, if_pos (e.symm.trans h)]
      · rw [kvGet_neg (q := (z.1, y)) e, kvGet_neg e, ih]
    · rw [if_neg h]
      by_cases e : z.1 = q
      · rw [kvGet_pos (q := z) e, kvGet_pos e, Option.map_some, if_neg (fun w => h (e.trans w))]
      · rw [kvGet_neg (q := z) e, kvGet_neg e, ih]
theorem kvGet_snoc (p q : List Int) (y : PyData) : ∀ kvs : List (List Int × PyData), kvGet kvs p = none → kvGet (kvs ++ [(p, y)]) q = if q = p then some y else kvGet kvs q
  | [], _ => by
    by_cases e : p = q
    · rw [if_pos e.symm]; exact kvGet_pos (q := (p, y)) e
    · rw [if_neg (fun z => e z.symm)]; exact kvGet_neg (q := (p, y)) e
  | z :: r, hn => by
    rw [List.cons_append]
    have hk : ¬ z.1 = p := fun w => by rw [kvGet_pos w] at hn; cases hn
    rw [kvGet_neg hk] at hn
    have ih := kvGet_snoc p q y r hn
    by_cases e : z.1 = q
    · rw [kvGet_pos e, kvGet_pos e, if_neg (fun w => hk (e.trans w))]
    · rw [kvGet_neg e, kvGet_neg e, ih]
theorem kvGet_put (p q : List Int) (y : PyData) (kvs : List (List Int × PyData)) : kvGet (kvPut kvs p y) q = if q = p then some y else kvGet kvs q := by
  unfold kvPut
  rw [kvGet_any]
  cases h : kvGet kvs p with
  | none =>
    rw [if_neg (by simp)]
    exact kvGet_snoc p q y kvs h
  | some d =>
    rw [if_pos (by rfl), kvGet_map]
    by_cases e : q = p
    · subst e
      rw [h, Option.map_some, if_pos rfl, if_pos rfl]
    · rw [if_neg e]
      cases kvGet kvs q with
      | none => rfl
      | some x => rw [Option.map_some, if_neg e]
theorem kvPut_len (p : List Int) (y : PyData) (kvs : List (List Int × PyData)) : (kvPut kvs p y).length ≤ kvs.length + 1 := by
  unfold kvPut
  split
  · rw [List.length_map]; omega
  · rw [List.length_append, List.length_singleton]; omega
theorem kvPut_keys (p : List Int) (y : PyData) (kvs : List (List Int × PyData)) : (kvPut kvs p y).map (·.1) = if (kvGet kvs p).isSome then kvs.map (·.1) else kvs.map (·.1) ++ [p] := by
  unfold kvPut
  rw [kvGet_any]
  cases kvGet kvs p with
  | none => rw [if_neg (by simp), if_neg (by simp), List.map_append]; rfl
  | some d =>
    rw [if_pos (by rfl), if_pos (by rfl), List.map_map]
    refine List.map_congr_left fun z _ => ?_
    show (if z.1 = p then (z.1, y) else z).1 = z.1
    split <;> rfl
theorem kvGet_mem {p : List Int} : ∀ {kvs : List (List Int × PyData)}, (kvGet kvs p).isSome = true ↔ p ∈ kvs.map (·.1)
  | [] => by simp [kvGet]
  | q :: r => by
    by_cases e : q.1 = p
    · rw [kvGet_pos e]
      simp [e]
    · rw [kvGet_neg e, kvGet_mem (kvs := r), List.map_cons, List.mem_cons]
      constructor
      · intro z; exact .inr z
      · intro z; exact z.resolve_left fun w => e w.symm
theorem kvPut_nodup {p : List Int} {y : PyData} {kvs : List (List Int × PyData)} (h : (kvs.map (·.1)).Nodup) : ((kvPut kvs p y).map (·.1)).Nodup := by
  rw [kvPut_keys]
  cases e : (kvGet kvs p).isSome with
  | true => rw [if_pos rfl]; exact h
  | false =>
    rw [if_neg (by simp)]
    refine List.nodup_append.mpr ⟨h, List.Pairwise.cons (fun _ z => nomatch z) List.Pairwise.nil, fun a ha b hb => ?_⟩
    rw [List.mem_singleton.mp hb]
    intro z
    subst z
    rw [kvGet_mem.mpr ha] at e
    cases e

/-! ### from one point to another, what S may change -/
structure Nx (S : Addr → Prop) (I H I' H' : Hp) : Prop where
  i : Ex I I'
  j : Ex I' H'
  h : ∀ a o, ¬ S a → H a = some o → H' a = some o
  s : ∀ a, H a ≠ none → H' a ≠ none
  t : ∀ a, Ob H a → Ob H' a
  k : ∀ a, I a = none → Ob H a → I' a = none
theorem Nw.nx {S : Addr → Prop} {I H I' H' : Hp} (n : Nw I H I' H') : Nx S I H I' H' := ⟨n.i, n.j, fun a o _ e => n.h a o e, fun a z => ex_some n.h z, fun a z => z.up n.h, n.k⟩
theorem Nx.refl {S : Addr → Prop} {I H : Hp} (e : Ex I H) : Nx S I H I H := (Nw.refl e).nx
theorem Nx.trans {S : Addr → Prop} {I H I1 H1 I2 H2 : Hp} (a : Nx S I H I1 H1) (b : Nx S I1 H1 I2 H2) : Nx S I H I2 H2 :=
  ⟨a.i.trans b.i, b.j, fun x o n e => b.h x o n (a.h x o n e), fun x z => b.s x (a.s x z), fun x z => b.t x (a.t x z), fun x e z => b.k x (a.k x e z) (a.t x z)⟩
theorem Nx.more {S S' : Addr → Prop} {I H I' H' : Hp} (a : Nx S I H I' H') (h : ∀ x, S x → S' x) : Nx S' I H I' H' := ⟨a.i, a.j, fun x o n e => a.h x o (fun z => n (h x z)) e, a.s, a.t, a.k⟩
/-- later knowledge as the start's -/
theorem Nx.rise {S : Addr → Prop} {I H I1 H1 : Hp} (a : Nx S I H I1 H1) : Nx S I1 H I1 H1 := ⟨Ex.refl _, a.j, a.h, a.s, a.t, fun _ e _ => e⟩
theorem Nx.sink {S : Addr → Prop} {I H I1 H1 I2 H2 : Hp} (a : Nx S I H I1 H1) (b : Nx S I1 H I2 H2) : Nx S I H I2 H2 := ⟨a.i.trans b.i, b.j, b.h, b.s, b.t, fun x e z => b.k x (a.k x e z) z⟩

/-! ### frames -/
abbrev Mo := Nat → Option MD
def mu (μ : Mo) (i : Nat) (m : Option MD) : Mo := fun j => if j = i then m else μ j
theorem mu_same {μ : Mo} {i : Nat} {m : Option MD} : mu μ i m i = m := if_pos rfl
theorem mu_ne {μ : Mo} {i j : Nat} {m : Option MD} (h : j ≠ i) : mu μ i m j = μ j := if_neg h
structure Fr (S : Addr → Prop) (I0 H0 I H : Hp) (σ : L2.St) (ρ : Ro) (μ : Mo) (α : Nat → Addr) : Prop where
  x : Nx S I0 H0 I H
  v : VS I σ ρ
  m : ∀ i md, μ i = some md → σ[i]? = some (some (.ref (α i))) ∧ MdAt I H (α i) md ∧ I (α i) = none ∧ (md.isPen = false → H0 (α i) = none) ∧ (md.isPen = true → S (α i))
  inj : ∀ i j, μ i ≠ none → μ j ≠ none → α i = α j → i = j
section
variable {S : Addr → Prop} {I0 H0 I H I1 H1 : Hp} {σ : L2.St} {ρ ρ' : Ro} {μ : Mo} {α : Nat → Addr} {i : Nat} {md md' : MD} {d : PyData} {v : V}
theorem Fr.e (F : Fr S I0 H0 I H σ ρ μ α) : Ex I H := F.x.j
/-- a thing that may change is kept by what touches nothing that is there -/
theorem MdAt.keep {a : Addr} (h : MdAt I H a md) (hi : I a = none) (n : Nw I H I1 H1) : MdAt I1 H1 a md ∧ I1 a = none := by
  cases md with
  | lst ds =>
    obtain ⟨xs, e, r⟩ := h
    obtain ⟨p, q⟩ := n.keep e hi
    exact ⟨⟨xs, p, r.up n.i⟩, q⟩
  | dct kvs =>
    obtain ⟨ws, e, r⟩ := h
    obtain ⟨p, q⟩ := n.keep e hi
    exact ⟨⟨ws, p, r.up n.i⟩, q⟩
  | dcs kvs =>
    obtain ⟨ws, e, r⟩ := h
    obtain ⟨p, q⟩ := n.keep e hi
    exact ⟨⟨ws, p, r.up n.i⟩, q⟩
  | pen k =>
    obtain ⟨c, cs, e, r⟩ := h
    obtain ⟨p, q⟩ := n.keep e hi
    exact ⟨⟨c, cs, p, n.i _ _ r⟩, q⟩
  | opn ds =>
    obtain ⟨xs, e, r⟩ := h
    obtain ⟨p, q⟩ := n.keep e hi
    exact ⟨⟨xs, p, r.up n.i⟩, q⟩
theorem MdAt.keepX {a : Addr} (h : MdAt I H a md) (hi : I a = none) (n : Nx S I H I1 H1) (ns : ¬ S a) : MdAt I1 H1 a md ∧ I1 a = none := by
  have hs : ∀ o, (∀ xs, o ≠ .tup xs) → H a = some o → H1 a = some o ∧ I1 a = none := fun o ho e => ⟨n.h a o ns e, n.k a hi ⟨o, e, ho⟩⟩
  cases md with
  | lst ds =>
    obtain ⟨xs, e, r⟩ := h
    exact ⟨⟨xs, (hs _ (by intro _ z; cases z) e).1, r.up n.i⟩, (hs _ (by intro _ z; cases z) e).2⟩
  | dct kvs =>
    obtain ⟨ws, e, r⟩ := h
    exact ⟨⟨ws, (hs _ (by intro _ z; cases z) e).1, r.up n.i⟩, (hs _ (by intro _ z; cases z) e).2⟩
  | dcs kvs =>
    obtain ⟨ws, e, r⟩ := h
    exact ⟨⟨ws, (hs _ (by intro _ z; cases z) e).1, r.up n.i⟩, (hs _ (by intro _ z; cases z) e).2⟩
  | pen k =>
    obtain ⟨c, cs, e, r⟩ := h
    exact ⟨⟨c, cs, (hs _ (by intro _ z; cases z) e).1, n.i _ _ r⟩, (hs _ (by intro _ z; cases z) e).2⟩
  | opn ds =>
    obtain ⟨xs, e, r⟩ := h
    exact ⟨⟨xs, (hs _ (by intro _ z; cases z) e).1, r.up n.i⟩, (hs _ (by intro _ z; cases z) e).2⟩
theorem Fr.step (F : Fr S I0 H0 I H σ ρ μ α) (n : Nw I H I1 H1) : Fr S I0 H0 I1 H1 σ ρ μ α := by
  refine ⟨F.x.trans n.nx, F.v.up n.i, fun i md e => ?_, F.inj⟩
  obtain ⟨a, b, c, d, f⟩ := F.m i md e
  obtain ⟨p, q⟩ := b.keep c n
  exact ⟨a, p, q, d, f⟩
/-- less is told -/
theorem Fr.less {μ' : Mo} (F : Fr S I0 H0 I H σ ρ μ α) (hl : ρ'.length = ρ.length) (hw : ∀ (i : Nat) (d : PyData), ρ'[i]? = some (some d) → ρ[i]? = some (some d)) (hm : ∀ i md, μ' i = some md → μ i = some md) : Fr S I0 H0 I H σ ρ' μ' α := by
  refine ⟨F.x, F.v.less hl hw, fun i md e => F.m i md (hm i md e), fun i j a b => F.inj i j (fun z => ?_) fun z => ?_⟩
  · cases q : μ' i with
    | none => exact a q
    | some x => rw [hm i x q] at z; cases z
  · cases q : μ' j with
    | none => exact b q
    | some x => rw [hm j x q] at z; cases z
/-- a slot takes data -/
theorem Fr.set (F : Fr S I0 H0 I H σ ρ μ α) (r : Rp I v d) : Fr S I0 H0 I H (σ.set i (some v)) (ρ.set i (some d)) (mu μ i none) α := by
  refine ⟨F.x, F.v.set r, fun j md e => ?_, fun j k a b => F.inj j k (fun z => ?_) fun z => ?_⟩
  · have hj : j ≠ i := fun z => by rw [z, mu_same] at e; cases e
    rw [mu_ne hj] at e
    obtain ⟨a, b⟩ := F.m j md e
    exact ⟨by rw [List.getElem?_set_ne (Ne.symm hj)]; exact a, b⟩
  · have hj : j ≠ i := fun w => a (by rw [w, mu_same])
    rw [mu_ne hj] at a
    exact a z
  · have hj : k ≠ i := fun w => b (by rw [w, mu_same])
    rw [mu_ne hj] at b
    exact b z
/-- a slot takes a new thing that may change -/
theorem Fr.own {p : Addr} {o : HO} (F : Fr S I0 H0 I H σ ρ μ α) (hp : H p = none) (hm : MdAt I (upd H p o) p md) (hn : md.isPen = false) (hl : i < σ.length) :
    Fr S I0 H0 I (upd H p o) (σ.set i (some (.ref p))) (ρ.set i none) (mu μ i (some md)) (fun j => if j = i then p else α j) := by
  have F1 := F.step (Nw.own (o := o) F.e hp)
  have h0 : H0 p = none := by
    cases q : H0 p with
    | none => rfl
    | some u => exact absurd hp (F.x.s p (by rw [q]; exact fun z => nomatch z))
  have ne : ∀ j, μ j ≠ none → α j ≠ p := fun j hj z => by
    cases q : μ j with
    | none => exact hj q
    | some x =>
      obtain ⟨_, b, _⟩ := F.m j x q
      rw [z] at b
      cases x with
      | lst ds => obtain ⟨_, e, _⟩ := b; rw [hp] at e; cases e
      | dct kvs => obtain ⟨_, e, _⟩ := b; rw [hp] at e; cases e
      | dcs kvs => obtain ⟨_, e, _⟩ := b; rw [hp] at e; cases e
      | pen k => obtain ⟨_, _, e, _⟩ := b; rw [hp] at e; cases e
      | opn ds => obtain ⟨_, e, _⟩ := b; rw [hp] at e; cases e
  refine ⟨F1.x, F1.v.forget i _, fun j x e => ?_, fun j k a b c => ?_⟩
  · by_cases hj : j = i
    · subst hj
      rw [mu_same] at e
      cases e
      show (σ.set j (some (.ref p)))[j]? = some (some (.ref (if j = j then p else α j))) ∧ _
      rw [if_pos rfl]
      exact ⟨List.getElem?_set_self hl, hm, fresh_back F.e hp, fun _ => h0, fun z => by rw [hn] at z; cases z⟩
    · rw [mu_ne hj] at e
      show (σ.set i (some (.ref p)))[j]? = some (some (.ref (if j = i then p else α j))) ∧ _
      rw [if_neg hj, List.getElem?_set_ne (Ne.symm hj)]
      exact F1.m j x e
  · have c : (if j = i then p else α j) = (if k = i then p else α k) := c
    by_cases hj : j = i
    · by_cases hk : k = i
      · rw [hj, hk]
      · rw [if_pos hj, if_neg hk] at c
        rw [mu_ne hk] at b
        exact absurd c.symm (ne k b)
    · rw [mu_ne hj] at a
      by_cases hk : k = i
      · rw [if_neg hj, if_pos hk] at c
        exact absurd c (ne j a)
      · rw [mu_ne hk] at b
        rw [if_neg hj, if_neg hk] at c
        exact F.inj j k a b c
/-- a thing changes -/
theorem Fr.put {o : HO} (F : Fr S I0 H0 I H σ ρ μ α) (hi : μ i = some md) (hm : MdAt I (upd H (α i) o) (α i) md') (hn : md.isPen = md'.isPen) : Fr S I0 H0 I (upd H (α i) o) σ ρ (mu μ i (some md')) α := by
  obtain ⟨a, b, c, d, f⟩ := F.m i md hi
  have nn : μ i ≠ none := by rw [hi]; exact fun z => nomatch z
  have ho : ∀ xs, o ≠ .tup xs := fun xs z => by
    subst z
    cases md' with
    | lst _ => obtain ⟨_, q, _⟩ := hm; rw [upd_same] at q; cases q
    | dct _ => obtain ⟨_, q, _⟩ := hm; rw [upd_same] at q; cases q
    | dcs _ => obtain ⟨_, q, _⟩ := hm; rw [upd_same] at q; cases q
    | pen _ => obtain ⟨_, _, q, _⟩ := hm; rw [upd_same] at q; cases q
    | opn _ => obtain ⟨_, q, _⟩ := hm; rw [upd_same] at q; cases q
  refine ⟨⟨F.x.i, ex_mut F.e c, fun x u ns e => ?_, fun x z => ?_, fun x z => ?_, F.x.k⟩, F.v, fun j x e => ?_, fun j k p q r => F.inj j k (fun z => ?_) (fun z => ?_) r⟩
  · have hx : x ≠ α i := fun z => by
      subst z
      cases hp : md.isPen with
      | true => exact ns (f hp)
      | false => rw [d hp] at e; cases e
    rw [upd_ne hx]
    exact F.x.h x u ns e
  · by_cases hx : x = α i
    · rw [hx, upd_same]
      exact fun w => nomatch w
    · rw [upd_ne hx]
      exact F.x.s x z
  · by_cases hx : x = α i
    · rw [hx]
      exact ⟨o, upd_same, ho⟩
    · obtain ⟨u, q, t⟩ := F.x.t x z
      exact ⟨u, by rw [upd_ne hx]; exact q, t⟩
  · by_cases hj : j = i
    · subst hj
      rw [mu_same] at e
      cases e
      exact ⟨a, hm, c, fun z => d (hn.trans z), fun z => f (hn.trans z)⟩
    · rw [mu_ne hj] at e
      obtain ⟨p1, p2, p3, p4⟩ := F.m j x e
      have hne : α j ≠ α i := fun z => hj (F.inj j i (by rw [e]; exact fun z => nomatch z) nn z)
      refine ⟨p1, ?_, p3, p4⟩
      cases x with
      | lst ds => obtain ⟨xs, q, r⟩ := p2; exact ⟨xs, by rw [upd_ne hne]; exact q, r⟩
      | dct kvs => obtain ⟨xs, q, r⟩ := p2; exact ⟨xs, by rw [upd_ne hne]; exact q, r⟩
      | dcs kvs => obtain ⟨xs, q, r⟩ := p2; exact ⟨xs, by rw [upd_ne hne]; exact q, r⟩
      | pen k => obtain ⟨x1, x2, q, r⟩ := p2; exact ⟨x1, x2, by rw [upd_ne hne]; exact q, r⟩
      | opn ds => obtain ⟨xs, q, r⟩ := p2; exact ⟨xs, by rw [upd_ne hne]; exact q, r⟩
  · by_cases hj : j = i
    · rw [hj] at z; exact nn z
    · rw [mu_ne hj] at p; exact p z
  · by_cases hj : k = i
    · rw [hj] at z; exact nn z
    · rw [mu_ne hj] at q; exact q z
/-- a call that draws -/
theorem Fr.drawn {n m : Nat} {pn : Nat} (F : Fr S I0 H0 I H σ ρ μ α) (hp : μ pn = some (.pen n)) (x : Nx (fun a => a = α pn) I H I1 H1) (hm : MdAt I1 H1 (α pn) (.pen m)) (hi : I1 (α pn) = none) : Fr S I0 H0 I1 H1 σ ρ (mu μ pn (some (.pen m))) α := by
  obtain ⟨a, b, c, d, f⟩ := F.m pn _ hp
  have nn : μ pn ≠ none := by rw [hp]; exact fun z => nomatch z
  refine ⟨F.x.trans (x.more fun y z => by rw [z]; exact f rfl), F.v.up x.i, fun j y e => ?_, fun j k p q r => F.inj j k (fun z => ?_) (fun z => ?_) r⟩
  · by_cases hj : j = pn
    · subst hj
      rw [mu_same] at e
      cases e
      exact ⟨a, hm, hi, d, f⟩
    · rw [mu_ne hj] at e
      obtain ⟨p1, p2, p3, p4⟩ := F.m j y e
      have hne : α j ≠ α pn := fun z => hj (F.inj j pn (by rw [e]; exact fun z => nomatch z) nn z)
      obtain ⟨q1, q2⟩ := p2.keepX p3 x hne
      exact ⟨p1, q1, q2, p4⟩
  · by_cases hj : j = pn
    · rw [hj] at z; exact nn z
    · rw [mu_ne hj] at p; exact p z
  · by_cases hj : k = pn
    · rw [hj] at z; exact nn z
    · rw [mu_ne hj] at q; exact q z
end
end R1

set_option Elab.async false
set_option linter.all false
set_option maxRecDepth 100000
set_option maxHeartbeats 4000000
/-! CoreX: expressions and blocks over frames. -/
namespace R1
open PySem PySem.Spec PyProof.Rows L2 Evl

theorem VS.lay {I : Hp} {σ : L2.St} {ρ : Ro} {i : Nat} {v : V} {d : PyData} (h : VS I σ ρ) (hs : σ[i]? = some (some v)) (r : Rp I v d) : VS I σ (ρ.set i (some d)) := by
  refine ⟨by rw [List.length_set, h.len], fun j d' q => ?_⟩
  by_cases e : i = j
  · subst e
    have hl : i < ρ.length := by
      have := (List.getElem?_eq_some_iff.mp q).1
      rwa [List.length_set] at this
    rw [List.getElem?_set_self hl] at q
    cases q
    exact ⟨v, hs, r⟩
  · rw [List.getElem?_set_ne e] at q
    exact h.at' j d' q
open Classical in
noncomputable def cutI (I H J : Hp) : Hp := fun a => if I a = none ∧ Ob H a then none else J a
theorem Nw.cut {I J H J' H' : Hp} (e : Ex I J) (n : Nw J H J' H') : Nw I H (cutI I H J') H' := by
  refine ⟨fun a o q => ?_, fun a o q => ?_, n.h, fun a q z => ?_⟩
  · unfold cutI
    rw [if_neg fun z => by rw [z.1] at q; cases q]
    exact n.i a o (e a o q)
  · unfold cutI at q
    split at q
    · cases q
    · exact n.j a o q
  · unfold cutI
    rw [if_pos ⟨q, z⟩]
/-- numbers, texts: nothing of the heap is in them -/
def Scal : PyData → Prop
  | .none | .bool _ | .int _ | .str _ => True
  | _ => False
theorem Rp.scal {I J : Hp} {v : V} : ∀ {d : PyData}, Scal d → Rp I v d → Rp J v d
  | .none, _, .non => .non
  | .bool _, _, .bl _ => .bl _
  | .int _, _, .int _ => .int _
  | .str _, _, .str _ => .str _

/-! ### expressions -/
def Ef (X : Cx) (ρ : Ro) (μ : Mo) (e : Expr) (R : PyData → Prop) (μ' : Mo) : Prop := ∀ (S : Addr → Prop) (I0 H0 I H : Hp) (σ : L2.St) (α : Nat → Addr), Fr S I0 H0 I H σ ρ μ α → ∀ Q : VK,
  (∀ v d I' H', Fr S I0 H0 I' H' σ ρ μ' α → Ex I I' → Rp I' v d → R d → Q v H') → WE X e σ H Q
def Tf (X : Cx) (ρ : Ro) (μ : Mo) (e : Expr) (B : Bool → Prop) (μ' : Mo) : Prop := ∀ (S : Addr → Prop) (I0 H0 I H : Hp) (σ : L2.St) (α : Nat → Addr), Fr S I0 H0 I H σ ρ μ α → ∀ Q : Bool → Hp → Prop,
  (∀ b I' H', Fr S I0 H0 I' H' σ ρ μ' α → Ex I I' → B b → Q b H') → WT X e σ H Q
def IntP (P : Int → Prop) (d : PyData) : Prop := ∃ i, d = .int i ∧ P i
section
variable {X : Cx} {ρ : Ro} {μ μ1 μ2 μ3 : Mo} {e a b c : Expr} {es : List Expr} {d : PyData} {ds : List PyData} {R R' A1 A2 : PyData → Prop} {pos p : Pos} {x : Str} {i : Nat}
theorem ef_e (h : E X ρ e d) : Ef X ρ μ e (fun z => z = d) μ := fun S I0 H0 I H σ α F Q q => h I σ H F.e F.v _ fun v I' H' n r => q v d I' H' (F.step n) n.i r rfl
theorem ef_of (h : E X ρ e d) (hR : R d) : Ef X ρ μ e R μ := fun S I0 H0 I H σ α F Q q => h I σ H F.e F.v _ fun v I' H' n r => q v d I' H' (F.step n) n.i r hR
theorem ef_mono (h : Ef X ρ μ e R μ1) (k : ∀ d, R d → R' d) : Ef X ρ μ e R' μ1 := fun S I0 H0 I H σ α F Q q => h S I0 H0 I H σ α F Q fun v d I' H' F' x r z => q v d I' H' F' x r (k d z)
theorem tf_t {k : Bool} (h : T X ρ e k) : Tf X ρ μ e (fun z => z = k) μ := fun S I0 H0 I H σ α F Q q => h I σ H F.e F.v _ fun I' H' n => q k I' H' (F.step n) n.i rfl
/-- a list that may change, as data -/
theorem Fr.peek {S : Addr → Prop} {I0 H0 I H : Hp} {σ : L2.St} {α : Nat → Addr} (F : Fr S I0 H0 I H σ ρ μ α) (hi : μ i = some (.lst ds)) : ∃ J, Ex I J ∧ Ex J H ∧ VS J σ (ρ.set i (some (.list ds))) := by
  obtain ⟨hs, ⟨xs, hx, hr⟩, hn, _, _⟩ := F.m i _ hi
  refine ⟨upd I (α i) (.lst xs), Ex.new hn, fun b o q => ?_, ?_⟩
  · by_cases h : b = α i
    · subst h; rw [upd_same] at q; rw [hx]; exact q
    · rw [upd_ne h] at q; exact F.e b o q
  · exact (F.v.up (Ex.new hn)).lay hs (.lst upd_same (hr.up (Ex.new hn)))
theorem ef_peek (hi : μ i = some (.lst ds)) (h : E X (ρ.set i (some (.list ds))) e d) (sc : Scal d) : Ef X ρ μ e (fun z => z = d) μ := fun S I0 H0 I H σ α F Q q => by
  obtain ⟨J, j1, j2, vs⟩ := F.peek hi
  refine h J σ H j2 vs _ fun v J' H' n r => ?_
  have n' := Nw.cut j1 n
  exact q v d _ H' (F.step n') n'.i (r.scal sc) rfl
theorem tf_peek {k : Bool} (hi : μ i = some (.lst ds)) (h : T X (ρ.set i (some (.list ds))) e k) : Tf X ρ μ e (fun z => z = k) μ := fun S I0 H0 I H σ α F Q q => by
  obtain ⟨J, j1, j2, vs⟩ := F.peek hi
  refine h J σ H j2 vs _ fun J' H' n => ?_
  have n' := Nw.cut j1 n
  exact q k _ H' (F.step n') n'.i rfl
/-- the list of draws, as data -/
theorem Fr.peekO {S : Addr → Prop} {I0 H0 I H : Hp} {σ : L2.St} {α : Nat → Addr} (F : Fr S I0 H0 I H σ ρ μ α) (hi : μ i = some (.opn ds)) : ∃ J, Ex I J ∧ Ex J H ∧ VS J σ (ρ.set i (some (.list ds))) := by
  obtain ⟨hs, ⟨xs, hx, hr⟩, hn, _, _⟩ := F.m i _ hi
  refine ⟨upd I (α i) (.lst xs), Ex.new hn, fun b o q => ?_, ?_⟩
  · by_cases h : b = α i
    · subst h; rw [upd_same] at q; rw [hx]; exact q
    · rw [upd_ne h] at q; exact F.e b o q
  · exact (F.v.up (Ex.new hn)).lay hs (.lst upd_same (hr.up (Ex.new hn)))
theorem ef_peekO (hi : μ i = some (.opn ds)) (h : E X (ρ.set i (some (.list ds))) e d) (sc : Scal d) : Ef X ρ μ e (fun z => z = d) μ := fun S I0 H0 I H σ α F Q q => by
  obtain ⟨J, j1, j2, vs⟩ := F.peekO hi
  refine h J σ H j2 vs _ fun v J' H' n r => ?_
  have n' := Nw.cut j1 n
  exact q v d _ H' (F.step n') n'.i (r.scal sc) rfl
theorem tf_peekO {k : Bool} (hi : μ i = some (.opn ds)) (h : T X (ρ.set i (some (.list ds))) e k) : Tf X ρ μ e (fun z => z = k) μ := fun S I0 H0 I H σ α F Q q => by
  obtain ⟨J, j1, j2, vs⟩ := F.peekO hi
  refine h J σ H j2 vs _ fun J' H' n => ?_
  have n' := Nw.cut j1 n
  exact q k _ H' (F.step n') n'.i rfl
theorem ef_two {r : R2} (h : PE X e (tOp r (WE X a) (WE X b))) (ha : Ef X ρ μ a A1 μ1) (hb : Ef X ρ μ1 b A2 μ2)
    (q : ∀ (I H : Hp) (x y : V) (d d' : PyData), Ex I H → Rp I x d → Rp I y d' → A1 d → A2 d' → ∀ Q : VK, (∀ v dz I' H', Nw I H I' H' → Rp I' v dz → R dz → Q v H') → r x y H Q) : Ef X ρ μ e R μ2 := fun S I0 H0 I H σ α F Q k =>
  we_of h (ha S I0 H0 I H σ α F _ fun x d I1 H1 F1 e1 r1 p1 => hb S I0 H0 I1 H1 σ α F1 _ fun y d' I2 H2 F2 e2 r2 p2 =>
    q I2 H2 x y d d' F2.e (r1.up e2) r2 p1 p2 Q fun v dz I3 H3 n3 r3 z => k v dz I3 H3 (F2.step n3) ((e1.trans e2).trans n3.i) r3 z)
theorem ef_op0 {op : Operator} {f : Int → Int → Int} {P P' : Int → Prop} (ho : OpR X (binaryOp op) (rI0 fun i j => .int (f i j))) (ha : Ef X ρ μ a (IntP P) μ1) (hb : Ef X ρ μ1 b (IntP P') μ2) : Ef X ρ μ (.BinOp a op b pos) (IntP fun k => ∃ i j, P i ∧ P' j ∧ k = f i j) μ2 :=
  ef_two (pe_op ho pe_we pe_we) ha hb fun I H x y d d' hx rx ry p1 p2 Q q => by
    obtain ⟨i, rfl, pi⟩ := p1
    obtain ⟨j, rfl, pj⟩ := p2
    cases rx; cases ry
    exact ⟨i, j, rfl, rfl, q _ _ I H (.refl hx) (.int _) ⟨_, rfl, i, j, pi, pj, rfl⟩⟩
theorem ef_opC {op : Operator} {C : Int → Int → Prop} {f : Int → Int → Int} {P P' : Int → Prop} (ho : OpR X (binaryOp op) (rI C fun i j => .int (f i j))) (ha : Ef X ρ μ a (IntP P) μ1) (hb : Ef X ρ μ1 b (IntP P') μ2) (hc : ∀ i j, P i → P' j → C i j) : Ef X ρ μ (.BinOp a op b pos) (IntP fun k => ∃ i j, P i ∧ P' j ∧ k = f i j) μ2 :=
  ef_two (pe_op ho pe_we pe_we) ha hb fun I H x y d d' hx rx ry p1 p2 Q q => by
    obtain ⟨i, rfl, pi⟩ := p1
    obtain ⟨j, rfl, pj⟩ := p2
    cases rx; cases ry
    exact ⟨i, j, rfl, rfl, hc i j pi pj, q _ _ I H (.refl hx) (.int _) ⟨_, rfl, i, j, pi, pj, rfl⟩⟩
theorem ef_add {P P' : Int → Prop} (ha : Ef X ρ μ a (IntP P) μ1) (hb : Ef X ρ μ1 b (IntP P') μ2) : Ef X ρ μ (.BinOp a .Add b pos) (IntP fun k => ∃ i j, P i ∧ P' j ∧ k = i + j) μ2 := ef_op0 op_add ha hb
theorem ef_sub {P P' : Int → Prop} (ha : Ef X ρ μ a (IntP P) μ1) (hb : Ef X ρ μ1 b (IntP P') μ2) : Ef X ρ μ (.BinOp a .Sub b pos) (IntP fun k => ∃ i j, P i ∧ P' j ∧ k = i - j) μ2 := ef_op0 op_sub ha hb
theorem ef_mul {P P' : Int → Prop} (ha : Ef X ρ μ a (IntP P) μ1) (hb : Ef X ρ μ1 b (IntP P') μ2) (hc : ∀ i j, P i → P' j → CMul i j) : Ef X ρ μ (.BinOp a .Mult b pos) (IntP fun k => ∃ i j, P i ∧ P' j ∧ k = i * j) μ2 := ef_opC op_mul ha hb hc
theorem ef_int (h : E X ρ e (.int j)) : Ef X ρ μ e (IntP fun k => k = j) μ := ef_of h ⟨j, rfl, rfl⟩
theorem tf_eqI {P P' : Int → Prop} (ha : Ef X ρ μ a (IntP P) μ1) (hb : Ef X ρ μ1 b (IntP P') μ2) : Tf X ρ μ (.Compare a [.Eq] [b] pos) (fun k => ∃ i j, P i ∧ P' j ∧ k = decide (i = j)) μ2 := fun S I0 H0 I H σ α F Q k =>
  wt_of (pt_cmpR op_eq pe_we pe_we (nomark _)) (ha S I0 H0 I H σ α F _ fun x d I1 H1 F1 e1 r1 p1 => hb S I0 H0 I1 H1 σ α F1 _ fun y d' I2 H2 F2 e2 r2 p2 => by
    obtain ⟨i, rfl, pi⟩ := p1
    obtain ⟨j, rfl, pj⟩ := p2
    cases r1; cases r2
    have z := k (decide (i = j)) I2 H2 F2 (e1.trans e2) ⟨i, j, pi, pj, rfl⟩
    refine ⟨rfl, _, rfl, ?_⟩
    have e : (decide (V.int i = V.int j)) = decide (i = j) := by rw [dec_int]; rw [Bool.beq_eq_decide_eq]
    rw [e]
    exact z)
theorem ef_ifExp {B : Bool → Prop} (h : Tf X ρ μ c B μ1) (h1 : B true → Ef X ρ μ1 a R μ2) (h2 : B false → Ef X ρ μ1 b R μ2) : Ef X ρ μ (.IfExp c a b pos) R μ2 := fun S I0 H0 I H σ α F Q k =>
  we_of (pe_ifExp pt_wt pe_we pe_we) (h S I0 H0 I H σ α F _ fun z I1 H1 F1 e1 hz => by
    cases z with
    | true =>
      rw [if_pos rfl]
      exact h1 hz S I0 H0 I1 H1 σ α F1 _ fun v d I2 H2 F2 e2 r2 p2 => k v d I2 H2 F2 (e1.trans e2) r2 p2
    | false =>
      rw [if_neg Bool.false_ne_true]
      exact h2 hz S I0 H0 I1 H1 σ α F1 _ fun v d I2 H2 F2 e2 r2 p2 => k v d I2 H2 F2 (e1.trans e2) r2 p2)
/-- the slot's budget may be told greater -/
def penMax : Nat := 1048576
def spD (cost : Nat) (Pre : List PyData → Prop) (R : List PyData → PyData → Prop) : Sp := fun vs H Q _ => ∃ I pa us ds n, vs = V.ref pa :: us ∧ Ex I H ∧ MdAt I H pa (.pen n) ∧ I pa = none ∧ n + cost ≤ penMax ∧ RpAll I us ds ∧ Pre ds ∧
  ∀ v d I' H', Nx (fun a => a = pa) I H I' H' → MdAt I' H' pa (.pen (n + cost)) → I' pa = none → Rp I' v d → R ds d → Q v H'
theorem ef_draw {n cost k : Nat} {ps : List Str} {y : Str} {Pre : List PyData → Prop} {Rr : List PyData → PyData → Prop} {p2 : Pos} (F : Fn X.prog X.w X.K X.mg X.base x k ps (spD cost Pre Rr)) (hr : Room k X.A) (hg : Gl X x) (hi : μ i = some (.pen n)) (hN : X.N[i]? = some y) (hv : Vis X.env.scope y)
    (hb : n + cost ≤ penMax) (ha : As X ρ es ds) (hp : Pre ds) (hdb : (x == ("__debug__" : Str)) = false := by decide) (hd : (y == ("__debug__" : Str)) = false := by decide) (hcd : (y == ("__classdict__" : Str)) = false := by decide)
    (he : starEach (.Name y p2 :: es) X.env = (false, eval (.Name y p2) X.env) :: starEach es X.env := by rfl) (hpl : (backTo pos (starEach es X.env)).any (·.1) = false := by rfl) :
    Ef X ρ μ (.Call (.Name x p) (.Name y p2 :: es) [] pos) (Rr ds) (mu μ i (some (.pen (n + cost)))) := fun S I0 H0 I H σ α G Q q => by
  obtain ⟨hs, hm, hn, _, _⟩ := G.m i _ hi
  refine we_call F hr hg (wa_of (pa_cons pe_we pa_wa he) ?_) hdb he hpl
  refine we_of (pe_var hN hv hd hcd) ⟨.ref (α i), hs, ?_⟩
  refine ha I σ H G.e G.v _ fun us I1 H1 n1 r1 => ?_
  have G1 := G.step n1
  obtain ⟨_, hm1, hn1, _, _⟩ := G1.m i _ hi
  exact ⟨I1, α i, us, ds, n, rfl, G1.e, hm1, hn1, hb, r1, hp, fun v d I2 H2 x2 m2 z2 r2 p2 => q v d I2 H2 (G1.drawn hi x2 m2 z2) (n1.i.trans x2.i) r2 p2⟩
end

/-! ### new things that may change -/
def EN (X : Cx) (ρ : Ro) (e : Expr) (md : MD) : Prop := ∀ (I : Hp) (σ : L2.St) (H : Hp), Ex I H → VS I σ ρ → ∀ Q : VK, (∀ p o I' H', Nw I H I' H' → H' p = none → MdAt I' (upd H' p o) p md → Q (.ref p) (upd H' p o)) → WE X e σ H Q
section
variable {X : Cx} {ρ : Ro} {μ μ1 μ2 μ3 : Mo} {e a b c : Expr} {es : List Expr} {d : PyData} {ds : List PyData} {R R' A1 A2 : PyData → Prop} {pos p : Pos} {x : Str} {i : Nat}
theorem en_lst (h : As X ρ es ds) (hl : ds.length ≤ 100000) : EN X ρ (.List es pos) (.lst ds) := fun I σ H hx vs Q q =>
  we_of (pe_lst pa_wa) (h I σ H hx vs _ fun us I1 H1 n1 r1 => ⟨by rw [r1.length]; exact sz_of hl, fun p hp => q p _ I1 H1 n1 hp ⟨us, upd_same, r1⟩⟩)
theorem en_rep {n : Int} (ha : E X ρ a (.list ds)) (hb : E X ρ b (.int n)) (hl : ds.length * n.toNat ≤ 100000) (h1 : -(2 ^ 63) ≤ n := by omega) (h2 : n < 2 ^ 63 := by omega) : EN X ρ (.BinOp a .Mult b pos) (.lst (List.replicate n.toNat ds).flatten) := fun I σ H hx vs Q q =>
  we_of (pe_op op_rep pe_we pe_we) (ha I σ H hx vs _ fun x I1 H1 n1 r1 => hb I1 σ H1 n1.j (vs.up n1.i) _ fun y I2 H2 n2 r2 => by
    cases r2
    cases r1 with
    | lst ea ra =>
      exact ⟨_, n, _, rfl, rfl, n2.j _ _ (n2.i _ _ ea), h1, h2, by rw [ra.length]; exact sz_of hl, fun c hc => q c _ I2 H2 (n1.trans n2) hc ⟨_, upd_same, rpAll_flat (ra.up n2.i) _⟩⟩)
theorem en_dict : EN X ρ (.Dict [] [] pos) (.dct []) := fun I σ H hx vs Q q => we_of pe_dnewT fun p hp => q p _ I H (.refl hx) hp ⟨[], upd_same, .nil⟩
end

/-! ### blocks -/
def Bk (X : Cx) (ρ : Ro) (μ : Mo) (b : List Stmt) (N : Ro → Mo → Prop) (R : PyData → Mo → Prop) : Prop := ∀ (S : Addr → Prop) (I0 H0 I H : Hp) (σ : L2.St) (α : Nat → Addr) (D : Ends), Fr S I0 H0 I H σ ρ μ α →
  (∀ I' H' σ' ρ' μ' α', Fr S I0 H0 I' H' σ' ρ' μ' α' → N ρ' μ' → D.nx σ' H') → (∀ v d I' H' σ' ρ' μ' α', Fr S I0 H0 I' H' σ' ρ' μ' α' → Rp I' v d → R d μ' → D.rt v H') → WSs X b D σ H
section
variable {X : Cx} {ρ : Ro} {μ μ1 μ2 μ3 : Mo} {e a b c : Expr} {es : List Expr} {d : PyData} {ds : List PyData} {A1 A2 : PyData → Prop} {R : PyData → Mo → Prop} {N N' : Ro → Mo → Prop} {pos p pos' : Pos} {x y : Str} {i j : Nat} {rest b1 b2 body : List Stmt} {md : MD}
theorem bk_nil (h : N ρ μ) : Bk X ρ μ [] N R := fun S I0 H0 I H σ α D F q _ => ws_nil (q I H σ ρ μ α F h)
theorem bk_ret {R' : PyData → Prop} (h : Ef X ρ μ e R' μ1) (k : ∀ d, R' d → R d μ1) : Bk X ρ μ (.Return (some e) pos :: rest) N R := fun S I0 H0 I H σ α D F _ q =>
  ws_ret (h S I0 H0 I H σ α F _ fun v d I' H' F' x r z => q v d I' H' σ ρ μ1 α F' r (k d z))
theorem bk_set (hN : X.N.Nodup) (hi : X.N[i]? = some x) (hl : Loc X.env.scope x) (h : Ef X ρ μ e A1 μ1) (k : ∀ d, A1 d → Bk X (ρ.set i (some d)) (mu μ1 i none) rest N R) (hs : swapsWith e (some (.Name x p)) pos.line X.env = pure false := by rfl)
    (hf : X.fn x = true ∨ X.env.scope.names.lookup x = some .local := by first | exact .inl rfl | exact .inr rfl | assumption) : Bk X ρ μ (.Assign [.Name x p] e pos :: rest) N R := fun S I0 H0 I H σ α D F qn qr =>
  ws_set hN hi hl (h S I0 H0 I H σ α F _ fun v d I' H' F' x r z => k d z S I0 H0 I' H' _ α D (F'.set r) qn qr) hs hf
theorem bk_own (hN : X.N.Nodup) (hi : X.N[i]? = some x) (hl : Loc X.env.scope x) (h : EN X ρ e md) (hm : md.isPen = false) (hlen : i < ρ.length) (k : Bk X (ρ.set i none) (mu μ i (some md)) rest N R) (hs : swapsWith e (some (.Name x p)) pos.line X.env = pure false := by rfl)
    (hf : X.fn x = true ∨ X.env.scope.names.lookup x = some .local := by first | exact .inl rfl | exact .inr rfl | assumption) : Bk X ρ μ (.Assign [.Name x p] e pos :: rest) N R := fun S I0 H0 I H σ α D F qn qr =>
  ws_set hN hi hl (h I σ H F.e F.v _ fun q o I' H' n hq m => k S I0 H0 I' _ _ _ D ((F.step n).own hq m hm (by rw [F.v.len]; exact hlen)) qn qr) hs hf
theorem bk_if {B : Bool → Prop} (hc : Tf X ρ μ c B μ1) (h1 : B true → Bk X ρ μ1 b1 (fun ρ' μ' => Bk X ρ' μ' rest N R) R) (h2 : B false → Bk X ρ μ1 b2 (fun ρ' μ' => Bk X ρ' μ' rest N R) R) : Bk X ρ μ (.If c b1 b2 pos :: rest) N R := fun S I0 H0 I H σ α D F qn qr =>
  ws_if (hc S I0 H0 I H σ α F _ fun z I1 H1 F1 e1 hz => by
    cases z with
    | true =>
      rw [if_pos rfl]
      exact h1 hz S I0 H0 I1 H1 σ α _ F1 (fun I' H' σ' ρ' μ' α' F' k => k S I0 H0 I' H' σ' α' D F' qn qr) qr
    | false =>
      rw [if_neg Bool.false_ne_true]
      exact h2 hz S I0 H0 I1 H1 σ α _ F1 (fun I' H' σ' ρ' μ' α' F' k => k S I0 H0 I' H' σ' α' D F' qn qr) qr)
/-- if c: (returns) rest -/
theorem bk_if1 {B : Bool → Prop} (hc : Tf X ρ μ c B μ1) (h1 : B true → Bk X ρ μ1 b1 (fun ρ' μ' => Bk X ρ' μ' rest N R) R) (h2 : B false → Bk X ρ μ1 rest N R) : Bk X ρ μ (.If c b1 [] pos :: rest) N R := bk_if hc h1 fun z => bk_nil (h2 z)
theorem bk_less {ρ' : Ro} {μ' : Mo} (hl : ρ'.length = ρ.length) (hw : ∀ (i : Nat) (d : PyData), ρ'[i]? = some (some d) → ρ[i]? = some (some d)) (hm : ∀ i md, μ' i = some md → μ i = some md) (h : Bk X ρ' μ' rest N R) : Bk X ρ μ rest N R := fun S I0 H0 I H σ α D F qn qr =>
  h S I0 H0 I H σ α D (F.less hl hw hm) qn qr
/-- a list changes no more -/
theorem bk_freeze (hi : μ i = some (.lst ds)) (h : Bk X (ρ.set i (some (.list ds))) (mu μ i none) rest N R) : Bk X ρ μ rest N R := fun S I0 H0 I H σ α D F qn qr => by
  obtain ⟨hs, ⟨xs, hx, hr⟩, hn, h0, _⟩ := F.m i _ hi
  have e : Ex I (upd I (α i) (.lst xs)) := Ex.new hn
  have j : Ex (upd I (α i) (.lst xs)) H := fun b o q => by
    by_cases h : b = α i
    · subst h; rw [upd_same] at q; rw [hx]; exact q
    · rw [upd_ne h] at q; exact F.e b o q
  refine h S I0 H0 (upd I (α i) (.lst xs)) H σ α D ⟨⟨F.x.i.trans e, j, F.x.h, F.x.s, F.x.t, fun b q z => ?_⟩, (F.v.up e).lay hs (.lst upd_same (hr.up e)), fun k md' q => ?_, fun k l q r z => ?_⟩ qn qr
  · have hb : b ≠ α i := z.ne (h0 rfl)
    rw [upd_ne hb]
    exact F.x.k b q z
  · have hk : k ≠ i := fun w => by subst w; rw [mu_same] at q; cases q
    rw [mu_ne hk] at q
    obtain ⟨a1, a2, a3, a4⟩ := F.m k md' q
    have hne : α k ≠ α i := fun w => hk (F.inj k i (by rw [q]; exact fun z => nomatch z) (by rw [hi]; exact fun z => nomatch z) w)
    refine ⟨a1, ?_, by rw [upd_ne hne]; exact a3, a4⟩
    cases md' with
    | lst es => obtain ⟨ys, u, w⟩ := a2; exact ⟨ys, u, w.up e⟩
    | dct es => obtain ⟨ys, u, w⟩ := a2; exact ⟨ys, u, w.up e⟩
    | dcs es => obtain ⟨ys, u, w⟩ := a2; exact ⟨ys, u, w.up e⟩
    | pen m => obtain ⟨u1, u2, u, w⟩ := a2; exact ⟨u1, u2, u, e _ _ w⟩
    | opn es => obtain ⟨ys, u, w⟩ := a2; exact ⟨ys, u, w.up e⟩
  · have hk : k ≠ i := fun w => q (by rw [w, mu_same])
    have hl : l ≠ i := fun w => r (by rw [w, mu_same])
    rw [mu_ne hk] at q
    rw [mu_ne hl] at r
    exact F.inj k l q r z
end
end R1

set_option Elab.async false
set_option linter.all false
set_option maxRecDepth 100000
set_option maxHeartbeats 4000000
/-! CoreY: dicts as data, statements that change things, loops. -/
namespace R1
open PySem PySem.Spec PyProof.Rows L2 Evl

/-! ### dicts from rows of whole numbers, once they change no more -/
def kvD (kvs : List (List Int × PyData)) : PyData := .dict (kvs.map fun q => (pwD q.1, q.2))
theorem RpKv.ps {I : Hp} : ∀ {ws kvs}, RpKv I ws kvs → RpPs I ws (kvs.map fun q => (pwD q.1, q.2))
  | _, _, .nil => .nil
  | _, _, .cons h t => .cons h t.ps
theorem ints_inj : ∀ {p q : List Int}, p.map PyData.int = q.map PyData.int → p = q
  | [], [], _ => rfl
  | [], _ :: _, h => nomatch h
  | _ :: _, [], h => nomatch h
  | a :: p, b :: q, h => by
    rw [List.map_cons, List.map_cons] at h
    injection h with h1 h2
    injection h1 with h3
    rw [h3, ints_inj h2]
theorem RpPs.kv {I : Hp} : ∀ {ws l}, RpPs I ws l → ∀ kvs : List (List Int × PyData), l = kvs.map (fun q => (pwD q.1, q.2)) → RpKv I ws kvs
  | _, _, .nil, [], _ => .nil
  | _, _, .nil, _ :: _, e => nomatch e
  | _, _, .cons h t, [], e => nomatch e
  | _, _, .cons (p := p) h t, (q, d) :: kvs, e => by
    rw [List.map_cons] at e
    injection e with e1 e2
    injection e1 with e3 e4
    injection e3 with e5
    have e6 := ints_inj e5
    subst e6
    subst e4
    exact .cons h (RpPs.kv t kvs e2)
theorem Rp.dctI {I : Hp} {v : V} {kvs : List (List Int × PyData)} (r : Rp I v (kvD kvs)) : ∃ a o ws, v = .ref a ∧ I a = some (.frz o (.dT ws)) ∧ RpKv I ws kvs := by
  cases r with
  | dct h hs => exact ⟨_, _, _, rfl, h, hs.kv kvs rfl⟩
theorem RpKv.nth {I : Hp} : ∀ {ws kvs} {i : Nat} {k : List L2.Key} {v : V}, RpKv I ws kvs → ws[i]? = some (k, v) → ∃ p d, kvs[i]? = some (p, d) ∧ k = keyP p ∧ Rp I v d
  | _, _, _, _, _, .nil, e => by simp at e
  | _, _, 0, _, _, .cons h _, e => by
    simp at e
    obtain ⟨rfl, rfl⟩ := e
    exact ⟨_, _, rfl, rfl, h⟩
  | _, _, i + 1, _, _, .cons _ t, e => RpKv.nth (i := i) t (by simpa using e)
/-- a tuple that is there may be known -/
theorem Nw.tup {I H : Hp} {q : Addr} {xs : List V} (e : Ex I H) (h : H q = some (.tup xs)) : ∃ I', Nw I H I' H ∧ I' q = some (.tup xs) := by
  cases z : I q with
  | some o =>
    have := e q o z
    rw [h] at this
    cases this
    exact ⟨I, .refl e, z⟩
  | none =>
    refine ⟨upd I q (.tup xs), ⟨Ex.new z, fun a o w => ?_, Ex.refl H, fun a w n => ?_⟩, upd_same⟩
    · by_cases ha : a = q
      · subst ha; rw [upd_same] at w; rw [h]; exact w
      · rw [upd_ne ha] at w; exact e a o w
    · have ha : a ≠ q := fun y => by
        obtain ⟨o, r, t⟩ := n
        rw [y, h] at r
        cases r
        exact t _ rfl
      rw [upd_ne ha]
      exact w
theorem tupI_of {I : Hp} {q : Addr} {p : List Int} (h : I q = some (.tup ((keyP p).map kV))) : Rp I (.ref q) (pwD p) := by
  rw [keyP_kV] at h
  exact .tup h (rpAll_ints p)
section
variable {X : Cx} {ρ : Ro} {μ μ1 : Mo} {e o k z : Expr} {d : PyData} {kvs : List (List Int × PyData)} {p : List Int} {pos apos cpos : Pos} {elts : List Expr} {kk : Nat} {tpos : Pos} {i : Nat} {x : Str}
theorem it_items (h : E X ρ e (kvD kvs)) (hbase : attributeBase e "items" X.env (eval e X.env) = eval e X.env := by rfl) (hline : (apos.endLine == cpos.line) = true := by rfl) :
    IT X ρ (.Tuple elts kk tpos) (.Call (.Attribute e "items" apos) [] [] cpos) (kvs.map fun q => .tuple [pwD q.1, q.2]) := it_of (pi_itemsT pe_we hbase hline) fun I σ H hx vs R k => h I σ H hx vs _ fun v I1 H1 n1 r1 => by
  obtain ⟨a, o, ws, rfl, ea, rk⟩ := r1.dctI
  refine ⟨a, o, ws, rfl, n1.j _ _ ea, k _ I1 H1 n1 ⟨fun i I2 H2 e1 e2 _ hi => ⟨e2 _ _ (e1 _ _ ea), ?_⟩, fun i I2 H2 x H3 e1 e2 _ hi y => ?_, fun I2 H2 e1 e2 _ => ⟨e2 _ _ (e1 _ _ ea), ?_⟩⟩⟩
  · rw [List.length_map] at hi
    rw [rk.length]
    exact hi
  · obtain ⟨T, k', v', q, hkv, hq, rfl, hT, rfl⟩ := y
    obtain ⟨p, d, hd, rfl, rd⟩ := rk.nth hkv
    obtain ⟨I3, n3, e3⟩ := Nw.tup e2 hq
    have n4 := Nw.new (o := .tup [.ref q, v']) n3.j hT
    refine ⟨_, _, n3.trans n4, by rw [List.getElem?_map, hd]; rfl, .tup upd_same (.cons ((tupI_of e3).up n4.i) (.cons (rd.up ((e1.trans n3.i).trans n4.i)) .nil))⟩
  · rw [List.length_map, rk.length]
    exact Nat.le_refl _
theorem it_keys (h : E X ρ e (kvD kvs)) {tg : Expr} : IT X ρ tg e (kvs.map fun q => pwD q.1) := it_of (pi_keys pe_we) fun I σ H hx vs R k => h I σ H hx vs _ fun v I1 H1 n1 r1 => by
  obtain ⟨a, o, ws, rfl, ea, rk⟩ := r1.dctI
  refine ⟨a, o, rfl, .inr ⟨ws, n1.j _ _ ea, k _ I1 H1 n1 ⟨fun i I2 H2 e1 e2 _ hi => ⟨e2 _ _ (e1 _ _ ea), ?_⟩, fun i I2 H2 x H3 e1 e2 _ hi y => ?_, fun I2 H2 e1 e2 _ => ⟨e2 _ _ (e1 _ _ ea), ?_⟩⟩⟩⟩
  · rw [List.length_map] at hi
    rw [rk.length]
    exact hi
  · obtain ⟨rfl, k', v', q, hkv, rfl, hq⟩ := y
    obtain ⟨p, d, hd, rfl, rd⟩ := rk.nth hkv
    obtain ⟨I3, n3, e3⟩ := Nw.tup e2 hq
    exact ⟨I3, _, n3, by rw [List.getElem?_map, hd]; rfl, tupI_of e3⟩
  · rw [List.length_map, rk.length]
    exact Nat.le_refl _
theorem dget_of {I H : Hp} {a b : Addr} {ob : Obj} {ws : List (List L2.Key × V)} (hx : Ex I H) (ea : I a = some (.frz ob (.dT ws)) ∨ H a = some (.dT ws)) (eb : I b = some (.tup (p.map V.int))) : DGet H a (.ref b) (valV ws (keyP p)) := by
  refine .inr ⟨ws, keyP p, b, ?_, rfl, by rw [keyP_kV]; exact hx _ _ eb, rfl⟩
  rcases ea with ea | ea
  · exact .inr ⟨ob, hx _ _ ea⟩
  · exact .inl ea
/-- d[k], there -/
theorem e_dget (hu : X.A.units + 1 < cLine) (ho : E X ρ o (kvD kvs)) (hk : E X ρ k (pwD p)) (h : kvGet kvs p = some d) (hs : NoSl k := by intro _ _; rfl) : E X ρ (.Subscript o k pos) d :=
  e_of (pe_dget hu pe_we pe_we hs) fun I σ H hx vs Q q => ho I σ H hx vs _ fun v I1 H1 n1 r1 => hk I1 σ H1 n1.j (vs.up n1.i) _ fun y I2 H2 n2 r2 => by
    obtain ⟨a, ob, ws, rfl, ea, rk⟩ := r1.dctI
    obtain ⟨b, rfl, eb⟩ := r2.tupI
    obtain ⟨v', hv, rv⟩ := rk.get.2 d h
    refine ⟨a, v', rfl, ?_, q v' I2 H2 (n1.trans n2) (rv.up n2.i)⟩
    rw [← hv]
    exact dget_of n2.j (.inl (n2.i _ _ ea)) eb
/-- x.get(k, z), x a dict that may change -/
theorem ef_dget (hu : X.A.units + 1 < cLine) {xp : Pos} {dz : PyData} (hi : μ i = some (.dct kvs)) (hN : X.N[i]? = some x) (hv : Vis X.env.scope x) (hk : E X ρ k (pwD p)) (hz : E X ρ z dz)
    (m : M2 X (.Name x xp) "get" apos k z cpos := by exact ⟨rfl, rfl, rfl, rfl⟩) (hd : (x == ("__debug__" : Str)) = false := by decide) (hcd : (x == ("__classdict__" : Str)) = false := by decide) :
    Ef X ρ μ (.Call (.Attribute (.Name x xp) "get" apos) [k, z] [] cpos) (fun d => d = (kvGet kvs p).getD dz) μ := fun S I0 H0 I H σ α F Q q => by
  obtain ⟨hs, ⟨ws, hw, rk⟩, hn, h0, _⟩ := F.m i _ hi
  refine we_of (pe_dget2 hu (pe_var hN hv hd hcd) pe_we pe_we m) ⟨.ref (α i), hs, α i, rfl, .inr ⟨ws, .inl hw⟩, ?_⟩
  refine hk I σ H F.e F.v _ fun y I1 H1 n1 r1 => hz I1 σ H1 n1.j (F.v.up n1.i) _ fun u I2 H2 n2 r2 => ?_
  obtain ⟨b, rfl, eb⟩ := r1.tupI
  have n3 := n1.trans n2
  have F3 := F.step n3
  obtain ⟨_, ⟨ws', hw', rk'⟩, hn', _, _⟩ := F3.m i _ hi
  refine ⟨valV ws' (keyP p), dget_of (ob := default) F3.e (.inr hw') (n2.i _ _ eb), ?_⟩
  have g := rk'.get (p := p)
  cases hg : kvGet kvs p with
  | none =>
    rw [g.1 hg]
    exact q _ _ I2 H2 F3 n3.i r2 (by rw [hg]; rfl)
  | some d =>
    obtain ⟨v', hv', rv⟩ := g.2 d hg
    rw [hv']
    exact q _ _ I2 H2 F3 n3.i rv (by rw [hg]; rfl)
end

/-! ### statements -/
section
variable {X : Cx} {ρ : Ro} {μ μ1 μ2 μ3 : Mo} {e a b c ix kx : Expr} {es : List Expr} {d : PyData} {ds : List PyData} {A1 A2 : PyData → Prop} {R : PyData → Mo → Prop} {N N' : Ro → Mo → Prop} {pos p pos' apos cpos xp : Pos} {x y : Str} {i j : Nat} {rest b1 b2 body : List Stmt} {md : MD} {kvs : List (List Int × PyData)} {pw : List Int}
/-- a dict changes no more -/
theorem bk_lock (hi : μ i = some (.dct kvs)) (h : Bk X (ρ.set i (some (kvD kvs))) (mu μ i none) rest N R) : Bk X ρ μ rest N R := fun S I0 H0 I H σ α D F qn qr pins s iv => by
  obtain ⟨hs, ⟨ws, hw, rk⟩, hn, h0, _⟩ := F.m i _ hi
  obtain ⟨od, i1⟩ := iv.lock hw trivial
  have e : Ex I (upd I (α i) (.frz od (.dT ws))) := Ex.new hn
  have j : Ex (upd I (α i) (.frz od (.dT ws))) (upd H (α i) (.frz od (.dT ws))) := fun b o q => by
    by_cases h : b = α i
    · subst h; rw [upd_same] at q ⊢; exact q
    · rw [upd_ne h] at q ⊢; exact F.e b o q
  refine h S I0 H0 (upd I (α i) (.frz od (.dT ws))) (upd H (α i) (.frz od (.dT ws))) σ α D ⟨⟨F.x.i.trans e, j, fun b o ns q => ?_, fun b q => ?_, fun b q => ?_, fun b q z => ?_⟩, (F.v.up e).lay hs (.dct upd_same (rk.up e).ps), fun k md' q => ?_, fun k l q r z => ?_⟩ qn qr pins s i1
  · have hb : b ≠ α i := fun w => by subst w; rw [h0 rfl] at q; cases q
    rw [upd_ne hb]
    exact F.x.h b o ns q
  · by_cases hb : b = α i
    · rw [hb, upd_same]; exact fun w => nomatch w
    · rw [upd_ne hb]; exact F.x.s b q
  · by_cases hb : b = α i
    · rw [hb]; exact ⟨_, upd_same, by intro _ w; cases w⟩
    · obtain ⟨o, w, t⟩ := F.x.t b q
      exact ⟨o, by rw [upd_ne hb]; exact w, t⟩
  · have hb : b ≠ α i := z.ne (h0 rfl)
    rw [upd_ne hb]
    exact F.x.k b q z
  · have hk : k ≠ i := fun w => by subst w; rw [mu_same] at q; cases q
    rw [mu_ne hk] at q
    obtain ⟨a1, a2, a3, a4⟩ := F.m k md' q
    have hne : α k ≠ α i := fun w => hk (F.inj k i (by rw [q]; exact fun z => nomatch z) (by rw [hi]; exact fun z => nomatch z) w)
    refine ⟨a1, ?_, by rw [upd_ne hne]; exact a3, a4⟩
    cases md' with
    | lst es => obtain ⟨ys, u, w⟩ := a2; exact ⟨ys, by rw [upd_ne hne]; exact u, w.up e⟩
    | dct es => obtain ⟨ys, u, w⟩ := a2; exact ⟨ys, by rw [upd_ne hne]; exact u, w.up e⟩
    | dcs es => obtain ⟨ys, u, w⟩ := a2; exact ⟨ys, by rw [upd_ne hne]; exact u, w.up e⟩
    | pen m => obtain ⟨u1, u2, u, w⟩ := a2; exact ⟨u1, u2, by rw [upd_ne hne]; exact u, e _ _ w⟩
    | opn es => obtain ⟨ys, u, w⟩ := a2; exact ⟨ys, by rw [upd_ne hne]; exact u, w.up e⟩
  · have hk : k ≠ i := fun w => q (by rw [w, mu_same])
    have hl : l ≠ i := fun w => r (by rw [w, mu_same])
    rw [mu_ne hk] at q
    rw [mu_ne hl] at r
    exact F.inj k l q r z
/-- x.append(e) -/
theorem bk_append (hi : μ i = some (.lst ds)) (hN : X.N[i]? = some x) (hv : Vis X.env.scope x) (h : Ef X ρ μ e A1 μ1) (hi1 : μ1 i = some (.lst ds)) (hl : ds.length < 100000) (k : ∀ d, A1 d → Bk X ρ (mu μ1 i (some (.lst (ds ++ [d])))) rest N R)
    (hd : (x == ("__debug__" : Str)) = false := by decide) (hcd : (x == ("__classdict__" : Str)) = false := by decide) (hs : swapsWith (.Call (.Attribute (.Name x xp) "append" apos) [e] [] cpos) none pos.line X.env = pure false := by rfl)
    (hbase : attributeBase (.Name x xp) "append" X.env (eval (.Name x xp) X.env) = eval (.Name x xp) X.env := by rfl)
    (hfew : ((backTo cpos (starEach [e] X.env)).all (fun x => !x.1) && (backToKw cpos (keywordEach [] X.env)).all (fun x => x.1.isSome) && decide ([e].length + ([] : List Keyword).length + (if ([] : List Keyword).isEmpty then 0 else 1) < 30)) = true := by rfl)
    (hline : (apos.endLine == cpos.line) = true := by rfl) (hst : starEach [e] X.env = [(false, eval e X.env)] := by rfl) : Bk X ρ μ (.Expr (.Call (.Attribute (.Name x xp) "append" apos) [e] [] cpos) pos :: rest) N R := fun S I0 H0 I H σ α D F qn qr => by
  obtain ⟨hs', ⟨ws, hw, rk⟩, hn, h0, _⟩ := F.m i _ hi
  refine ws_cons (ps_expr (pe_bm PySem.F.plainAttrs_list PySem.F.slot_list_append PySem.type_list_append mt_append (pe_var hN hv hd hcd) (pa1 hst) hbase hfew hline hst rfl) hs) ⟨.ref (α i), hs', .inl ⟨rfl, ws, .inl (.inl hw)⟩, ?_⟩
  refine h S I0 H0 I H σ α F _ fun v d I1 H1 F1 e1 r1 p1 => ?_
  obtain ⟨_, ⟨ws', hw', rk'⟩, hn', h0', _⟩ := F1.m i _ hi1
  refine ⟨α i, ws', v, rfl, rfl, hw', sz_lt (by rw [rk'.length]; exact hl), ?_⟩
  exact k d p1 S I0 H0 I1 _ σ α D (F1.put hi1 (md' := .lst (ds ++ [d])) ⟨ws' ++ [v], upd_same, rk'.snoc r1⟩ rfl) qn qr
/-- x[ix] = e -/
theorem bk_lput {n : Int} {m : Nat} (h : Ef X ρ μ e A1 μ1) (hi : μ1 i = some (.lst ds)) (hN : X.N[i]? = some x) (hv : Vis X.env.scope x) (hx : E X ρ ix (.int n)) (hix : ixN ds.length n = some m) (k : ∀ d, A1 d → Bk X ρ (mu μ1 i (some (.lst (ds.set m d)))) rest N R)
    (hd : (x == ("__debug__" : Str)) = false := by decide) (hcd : (x == ("__classdict__" : Str)) = false := by decide) (hs : swapsWithSole [.Subscript (.Name x xp) ix pos'] e pos.line X.env = pure false := by rfl) (hw : swappedStores [.Subscript (.Name x xp) ix pos'] e X.env = pure none := by rfl)
    (h1 : (assignEach [.Subscript (.Name x xp) ix pos'] X.env).map (·.2) = [assign (.Subscript (.Name x xp) ix pos') X.env] := by rfl)
    (ha : ∀ v, assign (.Subscript (.Name x xp) ix pos') X.env v = (do
      let ov ← holding [v] (eval (.Name x xp) X.env)
      let iv ← holding [v, ov] (eval ix X.env)
      standAt pos'
      holding [v, ov, iv] (setItem ov iv v)
      release [v, ov, iv] []) := by intro _; rfl) : Bk X ρ μ (.Assign [.Subscript (.Name x xp) ix pos'] e pos :: rest) N R := fun S I0 H0 I H σ α D F qn qr => by
  refine ws_cons (ps_asg pe_we (pg_sub (pe_var hN hv hd hcd) pe_we set_list ha) hs hw h1) ?_
  refine h S I0 H0 I H σ α F _ fun v d I1 H1 F1 e1 r1 p1 => ?_
  obtain ⟨hs', ⟨ws, hw1, rk⟩, hn, h0, _⟩ := F1.m i _ hi
  refine ⟨.ref (α i), hs', hx I1 σ H1 F1.e F1.v _ fun u I2 H2 n2 r2 => ?_⟩
  cases r2
  have F2 := F1.step n2
  obtain ⟨_, ⟨ws', hw', rk'⟩, hn', h0', _⟩ := F2.m i _ hi
  refine ⟨α i, ws', n, m, rfl, rfl, hw', by rw [rk'.length]; exact hix, ?_⟩
  exact k d p1 S I0 H0 I2 _ σ α D (F2.put hi (md' := .lst (ds.set m d)) ⟨ws'.set m v, upd_same, rk'.set m (r1.up n2.i)⟩ rfl) qn qr
/-- x[ix] = e -/
theorem bk_lputO {n : Int} {m : Nat} (h : Ef X ρ μ e A1 μ1) (hi : μ1 i = some (.opn ds)) (hN : X.N[i]? = some x) (hv : Vis X.env.scope x) (hx : E X ρ ix (.int n)) (hix : ixN ds.length n = some m) (k : ∀ d, A1 d → Bk X ρ (mu μ1 i (some (.opn (ds.set m d)))) rest N R)
    (hd : (x == ("__debug__" : Str)) = false := by decide) (hcd : (x == ("__classdict__" : Str)) = false := by decide) (hs : swapsWithSole [.Subscript (.Name x xp) ix pos'] e pos.line X.env = pure false := by rfl) (hw : swappedStores [.Subscript (.Name x xp) ix pos'] e X.env = pure none := by rfl)
    (h1 : (assignEach [.Subscript (.Name x xp) ix pos'] X.env).map (·.2) = [assign (.Subscript (.Name x xp) ix pos') X.env] := by rfl)
    (ha : ∀ v, assign (.Subscript (.Name x xp) ix pos') X.env v = (do
      let ov ← holding [v] (eval (.Name x xp) X.env)
      let iv ← holding [v, ov] (eval ix X.env)
      standAt pos'
      holding [v, ov, iv] (setItem ov iv v)
      release [v, ov, iv] []) := by intro _; rfl) : Bk X ρ μ (.Assign [.Subscript (.Name x xp) ix pos'] e pos :: rest) N R := fun S I0 H0 I H σ α D F qn qr => by
  refine ws_cons (ps_asg pe_we (pg_sub (pe_var hN hv hd hcd) pe_we set_list ha) hs hw h1) ?_
  refine h S I0 H0 I H σ α F _ fun v d I1 H1 F1 e1 r1 p1 => ?_
  obtain ⟨hs', ⟨ws, hw1, rk⟩, hn, h0, _⟩ := F1.m i _ hi
  refine ⟨.ref (α i), hs', hx I1 σ H1 F1.e F1.v _ fun u I2 H2 n2 r2 => ?_⟩
  cases r2
  have F2 := F1.step n2
  obtain ⟨_, ⟨ws', hw', rk'⟩, hn', h0', _⟩ := F2.m i _ hi
  refine ⟨α i, ws', n, m, rfl, rfl, hw', by rw [rk'.length]; exact hix, ?_⟩
  exact k d p1 S I0 H0 I2 _ σ α D (F2.put hi (md' := .opn (ds.set m d)) ⟨ws'.set m v, upd_same, rk'.set m (r1.up n2.i)⟩ rfl) qn qr
/-- x[k] = e, x a dict -/
theorem bk_dput (hu : X.A.units + 1 < cLine) (h : Ef X ρ μ e A1 μ1) (hi : μ1 i = some (.dct kvs)) (hN : X.N[i]? = some x) (hv : Vis X.env.scope x) (hx : E X ρ kx (pwD pw)) (hl : kvs.length < 100000) (k : ∀ d, A1 d → Bk X ρ (mu μ1 i (some (.dct (kvPut kvs pw d)))) rest N R)
    (hd : (x == ("__debug__" : Str)) = false := by decide) (hcd : (x == ("__classdict__" : Str)) = false := by decide) (hs : swapsWith e (some (.Subscript (.Name x xp) kx pos')) pos.line X.env = pure false := by rfl) : Bk X ρ μ (.Assign [.Subscript (.Name x xp) kx pos'] e pos :: rest) N R := fun S I0 H0 I H σ α D F qn qr => by
  refine ws_cons (ps_dput hu (pe_var hN hv hd hcd) pe_we pe_we hs) ?_
  refine h S I0 H0 I H σ α F _ fun v d I1 H1 F1 e1 r1 p1 => ?_
  obtain ⟨hs', ⟨ws, hw1, rk⟩, hn, h0, _⟩ := F1.m i _ hi
  refine ⟨.ref (α i), hs', hx I1 σ H1 F1.e F1.v _ fun u I2 H2 n2 r2 => ?_⟩
  obtain ⟨b, rfl, eb⟩ := r2.tupI
  have F2 := F1.step n2
  obtain ⟨_, ⟨ws', hw', rk'⟩, hn', h0', _⟩ := F2.m i _ hi
  refine ⟨α i, upd H2 (α i) (.dT (putK ws' (keyP pw) v)), rfl, DPut.t hw' (by rw [keyP_kV]; exact n2.j _ _ eb) (sz_lt (by rw [rk'.length]; exact hl)), ?_⟩
  exact k d p1 S I0 H0 I2 _ σ α D (F2.put hi (md' := .dct (kvPut kvs pw d)) ⟨_, upd_same, rk'.put (r1.up n2.i)⟩ rfl) qn qr
/-- x = y, y a thing that may change and is spoken of by x alone from here on -/
theorem bk_move (hN : X.N.Nodup) (hi : X.N[i]? = some x) (hl : Loc X.env.scope x) (hj : X.N[j]? = some y) (hvy : Vis X.env.scope y) (hij : i ≠ j) (hm : μ j = some md) (hlen : i < ρ.length) (k : Bk X (ρ.set i none) (mu (mu μ i (some md)) j none) rest N R)
    (hd : (y == ("__debug__" : Str)) = false := by decide) (hcd : (y == ("__classdict__" : Str)) = false := by decide) (hs : swapsWith (.Name y xp) (some (.Name x p)) pos.line X.env = pure false := by rfl)
    (hf : X.fn x = true ∨ X.env.scope.names.lookup x = some .local := by first | exact .inl rfl | exact .inr rfl | assumption) : Bk X ρ μ (.Assign [.Name x p] (.Name y xp) pos :: rest) N R := fun S I0 H0 I H σ α D F qn qr => by
  obtain ⟨hs', hmd, hn, h0, hp⟩ := F.m j _ hm
  refine ws_set hN hi hl (we_of (pe_var hj hvy hd hcd) ⟨.ref (α j), hs', ?_⟩) hs hf
  refine k S I0 H0 I H _ (fun m => if m = i then α j else α m) D ⟨F.x, F.v.forget i _, fun m md' e => ?_, fun m l q r z => ?_⟩ qn qr
  · by_cases h1 : m = j
    · rw [h1, mu_same] at e; cases e
    · rw [mu_ne h1] at e
      by_cases h2 : m = i
      · subst h2
        rw [mu_same] at e
        cases e
        show (σ.set m (some (.ref (α j))))[m]? = some (some (.ref (if m = m then α j else α m))) ∧ _
        rw [if_pos rfl]
        exact ⟨List.getElem?_set_self (by rw [F.v.len]; exact hlen), hmd, hn, h0, hp⟩
      · rw [mu_ne h2] at e
        show (σ.set i (some (.ref (α j))))[m]? = some (some (.ref (if m = i then α j else α m))) ∧ _
        rw [if_neg h2, List.getElem?_set_ne (Ne.symm h2)]
        exact F.m m md' e
  · have z : (if m = i then α j else α m) = (if l = i then α j else α l) := z
    have ne : ∀ t, mu (mu μ i (some md)) j none t ≠ none → t ≠ j ∧ (t ≠ i → μ t ≠ none) := fun t q => by
      refine ⟨fun w => q (by rw [w, mu_same]), fun w => ?_⟩
      have h1 : t ≠ j := fun w => q (by rw [w, mu_same])
      rw [mu_ne h1, mu_ne w] at q
      exact q
    have nj : μ j ≠ none := by rw [hm]; exact fun z => nomatch z
    obtain ⟨q1, q2⟩ := ne m q
    obtain ⟨r1, r2⟩ := ne l r
    by_cases h1 : m = i
    · by_cases h2 : l = i
      · rw [h1, h2]
      · rw [if_pos h1, if_neg h2] at z
        exact absurd (F.inj j l nj (r2 h2) z).symm r1
    · by_cases h2 : l = i
      · rw [if_neg h1, if_pos h2] at z
        exact absurd (F.inj m j (q2 h1) nj z) q1
      · rw [if_neg h1, if_neg h2] at z
        exact F.inj m l (q2 h1) (r2 h2) z
/-- x, y = a, b -/
theorem bk_par {px py pt : Pos} {kt : Nat} {k2 : Nat} {pt2 : Pos} (hc : X.calm = true) (hN : X.N.Nodup) (hi : X.N[i]? = some x) (hj : X.N[j]? = some y) (hij : i ≠ j) (hx : X.env.scope.names.lookup x = some .local) (hy : X.env.scope.names.lookup y = some .local)
    (ha : Ef X ρ μ a A1 μ1) (hb : Ef X ρ μ1 b A2 μ2) (k : ∀ d d', A1 d → A2 d' → Bk X ((ρ.set i (some d)).set j (some d')) (mu (mu μ2 i none) j none) rest N R)
    (hw : swappedStores [.Tuple [.Name x px, .Name y py] kt pt] (.Tuple [a, b] k2 pt2) X.env = pure (some [x, y]) := by rfl) (hs : swapsWithSole [.Tuple [.Name x px, .Name y py] kt pt] (.Tuple [a, b] k2 pt2) pos.line X.env = pure false := by rfl)
    (hst : starEach [a, b] X.env = (false, eval a X.env) :: starEach [b] X.env := by rfl) (hst2 : starEach [b] X.env = [(false, eval b X.env)] := by rfl) :
    Bk X ρ μ (.Assign [.Tuple [.Name x px, .Name y py] kt pt] (.Tuple [a, b] k2 pt2) pos :: rest) N R := fun S I0 H0 I H σ α D F qn qr => by
  refine ws_cons (ps_par hc hN hi hj hij hx hy (pa2 hst hst2) hw hs) ?_
  refine ha S I0 H0 I H σ α F _ fun v d I1 H1 F1 e1 r1 p1 => hb S I0 H0 I1 H1 σ α F1 _ fun u d' I2 H2 F2 e2 r2 p2 => ⟨v, u, rfl, ?_⟩
  exact k d d' p1 p2 S I0 H0 I2 H2 _ α D ((F2.set (r1.up e2)).set r2) qn qr
/-- x, y = a, a new thing that may change -/
theorem bk_parOwn {px py pt : Pos} {kt : Nat} {k2 : Nat} {pt2 : Pos} (hc : X.calm = true) (hN : X.N.Nodup) (hi : X.N[i]? = some x) (hj : X.N[j]? = some y) (hij : i ≠ j) (hx : X.env.scope.names.lookup x = some .local) (hy : X.env.scope.names.lookup y = some .local)
    (ha : Ef X ρ μ a A1 μ1) (hb : EN X ρ b md) (hm : md.isPen = false) (hlen : j < ρ.length) (k : ∀ d, A1 d → Bk X ((ρ.set i (some d)).set j none) (mu (mu μ1 i none) j (some md)) rest N R)
    (hw : swappedStores [.Tuple [.Name x px, .Name y py] kt pt] (.Tuple [a, b] k2 pt2) X.env = pure (some [x, y]) := by rfl) (hs : swapsWithSole [.Tuple [.Name x px, .Name y py] kt pt] (.Tuple [a, b] k2 pt2) pos.line X.env = pure false := by rfl)
    (hst : starEach [a, b] X.env = (false, eval a X.env) :: starEach [b] X.env := by rfl) (hst2 : starEach [b] X.env = [(false, eval b X.env)] := by rfl) :
    Bk X ρ μ (.Assign [.Tuple [.Name x px, .Name y py] kt pt] (.Tuple [a, b] k2 pt2) pos :: rest) N R := fun S I0 H0 I H σ α D F qn qr => by
  refine ws_cons (ps_par hc hN hi hj hij hx hy (pa2 hst hst2) hw hs) ?_
  refine ha S I0 H0 I H σ α F _ fun v d I1 H1 F1 e1 r1 p1 => hb I1 σ H1 F1.e F1.v _ fun q o I2 H2 n2 hq m2 => ⟨v, .ref q, rfl, ?_⟩
  exact k d p1 S I0 H0 I2 _ _ _ D (((F1.step n2).set (r1.up n2.i)).own hq m2 hm (by rw [List.length_set, F1.v.len]; exact hlen)) qn qr
end
end R1

set_option Elab.async false
set_option linter.all false
set_option maxRecDepth 100000
set_option maxHeartbeats 4000000
/-! CoreZ: loops over frames, defs over frames, defs that draw, comprehensions that draw. -/
namespace R1
open PySem PySem.Spec PyProof.Rows L2 Evl

section
variable {X : Cx} {ρ : Ro} {μ μ1 : Mo} {e a b c tg iter : Expr} {d : PyData} {ds : List PyData} {R : PyData → Mo → Prop} {N : Ro → Mo → Prop} {pos p : Pos} {x y : Str} {i j : Nat} {rest body : List Stmt} {md : MD} {g : TG} {ts : List Nat}
theorem Fr.rise {S : Addr → Prop} {I0 H0 I H : Hp} {σ : L2.St} {α : Nat → Addr} (F : Fr S I0 H0 I H σ ρ μ α) : Fr S I H0 I H σ ρ μ α := ⟨F.x.rise, F.v, F.m, F.inj⟩
theorem Fr.sink {S : Addr → Prop} {I0 H0 I H I1 H1 : Hp} {σ : L2.St} {α : Nat → Addr} (n : Nx S I0 H0 I1 H1) (F : Fr S I1 H0 I H σ ρ μ α) : Fr S I0 H0 I H σ ρ μ α := ⟨n.sink F.x, F.v, F.m, F.inj⟩
theorem Fr.tgt {S : Addr → Prop} {I0 H0 I H : Hp} {σ σ' : L2.St} {ρ' : Ro} {α : Nat → Addr} (F : Fr S I0 H0 I H σ ρ μ α) (v : VS I σ' ρ') (hs : ∀ j, j ∉ ts → σ'[j]? = σ[j]?) (hm : ∀ t, t ∈ ts → μ t = none) : Fr S I0 H0 I H σ' ρ' μ α :=
  ⟨F.x, v, fun i md e => by
    obtain ⟨a, b⟩ := F.m i md e
    refine ⟨?_, b⟩
    rw [hs i fun z => by rw [hm i z] at e; cases e]
    exact a, F.inj⟩
theorem bk_for (Iv : Nat → Ro → Mo → Prop) (hp : PassesOwn (model X.prog X.w) X.A X.env X.xe) (hc : X.calm = true) (hg : PG X tg g) (it : IT X ρ tg iter ds) (h0 : Iv 0 ρ μ)
    (step : ∀ j d ρj μj, ds[j]? = some d → Iv j ρj μj → ∃ ρt, Gt g ts ρj d ρt ∧ (∀ t, t ∈ ts → μj t = none) ∧ Bk X ρt μj body (fun ρ' μ' => Iv (j + 1) ρ' μ') R) (done : ∀ ρ' μ', Iv ds.length ρ' μ' → Bk X ρ' μ' rest N R)
    (hs : ∀ x, foldedSetIterable iter X.env x = pure x := by intro _; rfl) : Bk X ρ μ (.For tg iter body [] pos :: rest) N R := fun S I0 H0 I H σ α D F qn qr => by
  refine ws_cons (ps_for hp hc pi_wi hg ps_ws hs) ?_
  refine it I σ H F.e F.v _ fun J I1 H1 n1 ok => ?_
  have F1 := F.step n1
  refine ⟨fun i m σ' H' => m = ds.length - i ∧ i ≤ ds.length ∧ ∃ I2 ρ2 μ2 α2, Fr S I1 H0 I2 H' σ' ρ2 μ2 α2 ∧ Iv i ρ2 μ2, ⟨_, rfl, Nat.zero_le _, I1, ρ, μ, α, F1.rise, h0⟩, ?_⟩
  rintro i m σ2 H2 ⟨rfl, hi, I2, ρ2, μ2, α2, F2, iv⟩
  by_cases hlt : i < ds.length
  · refine .inr ⟨ok.go i I2 H2 F2.x.i F2.e trivial hlt, fun σ' H' => ∃ I3 ρ3 μ3 α3, Fr S I1 H0 I3 H' σ' ρ3 μ3 α3 ∧ Iv (i + 1) ρ3 μ3, fun σ' H' q => ⟨ds.length - (i + 1), by omega, rfl, hlt, q⟩, fun w H3 y => ?_⟩
    obtain ⟨I3, d, n3, hd, rd⟩ := ok.yld i I2 H2 w H3 F2.x.i F2.e trivial hlt y
    obtain ⟨ρt, gt, hm, hb⟩ := step i d ρ2 μ2 hd iv
    have F3 := F2.step n3
    refine gt.run I3 σ2 H3 w F3.e F3.v rd _ fun σ3 v3 ag hl => ?_
    refine hb S I1 H0 I3 H3 σ3 α2 _ (F3.tgt v3 ag hm) (fun I' H' σ' ρ' μ' α' F' k => ⟨I', ρ', μ', α', F', k⟩) fun v d I' H' σ' ρ' μ' α' F' r k => qr v d I' H' σ' ρ' μ' α' (F'.sink F1.x) r k
  · have e : i = ds.length := by omega
    subst e
    exact .inl ⟨ok.stop I2 H2 F2.x.i F2.e trivial, done ρ2 μ2 iv S I0 H0 I2 H2 σ2 α2 D (F2.sink F1.x) qn qr⟩
theorem bk_while (Iv : Nat → Ro → Mo → Prop) (B : Nat → Ro → Mo → Bool → Prop) (hp : PassesOwn (model X.prog X.w) X.A X.env X.xe) {m0 : Nat} (h0 : Iv m0 ρ μ)
    (test : ∀ m ρj μj, Iv m ρj μj → Tf X ρj μj c (B m ρj μj) μj) (step : ∀ m ρj μj, Iv m ρj μj → B m ρj μj true → Bk X ρj μj body (fun ρ' μ' => ∃ m', m' < m ∧ Iv m' ρ' μ') R)
    (done : ∀ m ρj μj, Iv m ρj μj → B m ρj μj false → Bk X ρj μj rest N R) : Bk X ρ μ (.While c body [] pos :: rest) N R := fun S I0 H0 I H σ α D F qn qr => by
  refine ws_cons (ps_while hp pt_wt ps_ws) ?_
  refine ⟨fun m σ' H' => ∃ I2 ρ2 μ2 α2, Fr S I0 H0 I2 H' σ' ρ2 μ2 α2 ∧ Iv m ρ2 μ2, ⟨m0, I, ρ, μ, α, F, h0⟩, ?_⟩
  rintro m σ2 H2 ⟨I2, ρ2, μ2, α2, F2, iv⟩
  refine test m ρ2 μ2 iv S I0 H0 I2 H2 σ2 α2 F2 _ fun z I3 H3 F3 e3 hz => ?_
  cases z with
  | true =>
    rw [if_pos rfl]
    exact ⟨fun σ' H' => ∃ m', m' < m ∧ ∃ I2 ρ2 μ2 α2, Fr S I0 H0 I2 H' σ' ρ2 μ2 α2 ∧ Iv m' ρ2 μ2, fun _ _ q => q, step m ρ2 μ2 iv hz S I0 H0 I3 H3 σ2 α2 _ F3 (fun I' H' σ' ρ' μ' α' F' ⟨m', hm, k⟩ => ⟨m', hm, I', ρ', μ', α', F', k⟩) qr⟩
  | false =>
    rw [if_neg Bool.false_ne_true]
    exact done m ρ2 μ2 iv hz S I0 H0 I3 H3 σ2 α2 D F3 qn qr
/-- more draws may have been made -/
theorem bk_raise {n m : Nat} (hi : μ i = some (.pen n)) (hnm : n ≤ m) (h : Bk X ρ (mu μ i (some (.pen m))) rest N R) : Bk X ρ μ rest N R := fun S I0 H0 I H σ α D F qn qr pins s iv => by
  obtain ⟨hs, ⟨cc, cs, hc, hcs⟩, hn, h0, hS⟩ := F.m i _ hi
  obtain ⟨⟨at', rest', t, u, ep, hob, h1, h2⟩, _, _⟩ := iv.hok _ _ hc
  have i1 : Inv X pins σ (upd H (α i) (.ext (penPhi (α i) cc m))) { s with heap := s.heap, toks := s.toks } := iv.write (x := α i) (e := α i) (h' := s.heap) (t' := s.toks) (by rw [hc]; trivial) (.inl rfl) (fun b v _ q => q) ⟨_, hob⟩
    ⟨⟨at', rest', t, u, ep, hob, h1, by omega⟩, ⟨_, hob⟩, fun h1 h2 ⟨a1, a2, a3, a4, a5, q, r⟩ k => ⟨a1, a2, a3, a4, a5, k _ q, r⟩⟩
  exact h S I0 H0 I _ σ α D (F.put hi (md' := .pen m) ⟨cc, cs, upd_same, hcs⟩ rfl) qn qr pins _ i1
/-- the state of draws, opened -/
theorem bk_open {n : Nat} (hi : μ i = some (.pen n)) (h : ∀ (cs : List Int) (at' rs : Int), 0 ≤ at' → at' ≤ n → Bk X ρ (mu μ i (some (.opn [.list (cs.map .int), .int at', .int rs]))) rest N R) : Bk X ρ μ rest N R := fun S I0 H0 I H σ α D F qn qr pins s iv => by
  obtain ⟨hs, ⟨cc, cs, hc, hcs⟩, hn, h0, hS⟩ := F.m i _ hi
  obtain ⟨⟨at', rest', t, u, ep, hob, h1, h2⟩, _, _⟩ := iv.hok _ _ hc
  have i1 : Inv X pins σ (upd H (α i) (.lst [.ref cc, .int at', .int rest'])) { s with heap := s.heap, toks := s.toks } := iv.write (x := α i) (e := α i) (h' := s.heap) (t' := s.toks) (by rw [hc]; trivial) (.inl rfl) (fun b v _ q => q) ⟨_, hob⟩
    ⟨by show 3 ≤ sizeLine; decide, [.ref cc, .int at' t, .int rest' u], ep, .cons rfl (.cons ⟨t, rfl⟩ (.cons ⟨u, rfl⟩ .nil)), hob⟩
  exact h cs at' rest' h1 h2 S I0 H0 I _ σ α D (F.put hi (md' := .opn [.list (cs.map .int), .int at', .int rest']) ⟨_, upd_same, .cons (.lst hcs (rpAll_ints cs)) (.cons (.int _) (.cons (.int _) .nil))⟩ rfl) qn qr pins _ i1
/-- .. and closed -/
theorem bk_close {n : Nat} {cs : List Int} {at' rs : Int} (hi : μ i = some (.opn [.list (cs.map .int), .int at', .int rs])) (h1 : 0 ≤ at') (h2 : at' ≤ n) (h : Bk X ρ (mu μ i (some (.pen n))) rest N R) : Bk X ρ μ rest N R := fun S I0 H0 I H σ α D F qn qr pins s iv => by
  obtain ⟨hs, ⟨xs, hx, hr⟩, hn, h0, hS⟩ := F.m i _ hi
  obtain ⟨_, its, ep, rv, hob⟩ := iv.hok _ _ hx
  cases hr with
  | cons r1 hr =>
    cases hr with
    | cons r2 hr =>
      cases hr with
      | cons r3 hr =>
        cases hr
        cases r2
        cases r3
        cases r1 with
        | lst hc hcr =>
          rw [hcr.ints] at hc
          cases rv with
          | cons v1 rv =>
            cases rv with
            | cons v2 rv =>
              cases rv with
              | cons v3 rv =>
                cases rv
                cases v1
                obtain ⟨t, rfl⟩ := v2
                obtain ⟨u, rfl⟩ := v3
                have i1 := iv.write (x := α i) (e := α i) (h' := s.heap) (t' := s.toks) (o := .ext (penPhi (α i) _ n)) (by rw [hx]; trivial) (.inl rfl) (fun b v _ q => q) ⟨_, hob⟩
                  ⟨⟨at', rs, t, u, ep, hob, h1, h2⟩, ⟨_, hob⟩, fun h1 h2 ⟨a1, a2, a3, a4, a5, q, r⟩ k => ⟨a1, a2, a3, a4, a5, k _ q, r⟩⟩
                exact h S I0 H0 I _ σ α D (F.put hi (md' := .pen n) ⟨_, cs, upd_same, hc⟩ rfl) qn qr pins _ i1
end

/-! ### slots forgotten -/
inductive LeR : Ro → Ro → Prop
  | nil : LeR [] []
  | keep {x a b} : LeR a b → LeR (x :: a) (x :: b)
  | drop {x a b} : LeR a b → LeR (none :: a) (x :: b)
theorem LeR.len : ∀ {a b}, LeR a b → a.length = b.length
  | _, _, .nil => rfl
  | _, _, .keep h => congrArg (· + 1) h.len
  | _, _, .drop h => congrArg (· + 1) h.len
theorem LeR.at' : ∀ {a b} {i : Nat} {d : PyData}, LeR a b → a[i]? = some (some d) → b[i]? = some (some d)
  | _, _, _, _, .nil, e => e
  | _, _, 0, _, .keep h, e => e
  | _, _, i + 1, _, .keep h, e => LeR.at' (i := i) h e
  | _, _, 0, _, .drop h, e => by simp at e
  | _, _, i + 1, _, .drop h, e => LeR.at' (i := i) h e
theorem bk_forget {X : Cx} {ρ ρ' : Ro} {μ : Mo} {rest : List Stmt} {N : Ro → Mo → Prop} {R : PyData → Mo → Prop} (h : LeR ρ' ρ) (k : Bk X ρ' μ rest N R) : Bk X ρ μ rest N R := bk_less h.len (fun _ _ e => h.at' e) (fun _ _ e => e) k

/-! ### defs -/
theorem vs_cons {I : Hp} {σ : L2.St} {ρ : Ro} {x : Option V} (h : VS I σ ρ) : VS I (x :: σ) (none :: ρ) := by
  refine ⟨by rw [List.length_cons, List.length_cons, h.len], fun i d q => ?_⟩
  cases i with
  | zero => simp at q
  | succ i =>
    obtain ⟨v, a, b⟩ := h.at' i d (by simpa using q)
    exact ⟨v, by simpa using a, b⟩
section
variable {P : Program} {w : World} {K : PySem.W.Frag} {mg : Str → Option Value} {base : Heap} {x : Str} {st : Stmt} {N ps : List Str} {k : Nat} {R : List PyData → PyData → Prop} {Pre : List PyData → Prop} {cost : Nat}
theorem fn_blk (D : Dfn K mg x st) (S : FnScope N ps (defScope st)) (len : ∀ ds d, R ds d → ds.length = ps.length)
    (hb : ∀ (kV doc pm : Value) (an : Option Addr) (cdv ct : Value) (us : List Value), us.length = ps.length → bindArgs (PySem.W.fnOf x x (defArgs st) (defBody st) (defScope st) .none kV doc pm an cdv ct) ⟨us, []⟩ = pure (ps.zip us))
    (body : ∀ (f : Addr) (cdv : Value) (A : Around) (outer : List Env) (s : Shared) (H : Hp) (E : XK), Room k (A.deeper (envOfC x (defScope st) s.heap.objs.size f cdv)) → ∀ ds d, R ds d →
      Bk (cxB P w K mg base N x st f cdv A outer s H E) (ds.map some ++ List.replicate (N.length - ds.length) none) (fun _ => none) (defBody st) (fun _ _ => False) (fun d' _ => d' = d)) : Fn P w K mg base x (k + 1) ps (spP R) := by
  refine fn_mk D S (fun vs H Q E h => ?_) hb fun f cdv A outer s H E hr vs Q h => ?_
  · obtain ⟨I, ds, d, _, r, hR, _⟩ := h
    rw [r.length]
    exact len ds d hR
  · obtain ⟨I, ds, d, hx, r, hR, q⟩ := h
    have F : Fr (fun _ => False) I H I H (L2.start N vs) (ds.map some ++ List.replicate (N.length - ds.length) none) (fun _ => none) (fun _ => 0) := by
      refine ⟨Nx.refl hx, ?_, fun i md e => (nomatch e), fun i j e => absurd rfl e⟩
      unfold L2.start
      rw [r.length]
      exact vs_start _ r
    refine body f cdv A outer s H E hr ds d hR _ I H I H _ _ _ F (fun _ _ _ _ _ _ _ z => z.elim) fun v d' I' H' σ' ρ' μ' α' F' r' e => ?_
    subst e
    exact q v I' H' ⟨F'.x.i, F'.x.j, fun a o z => F'.x.h a o id z, F'.x.k⟩ r'
/-- .. that may end without a return -/
theorem fn_blkN (D : Dfn K mg x st) (S : FnScope N ps (defScope st)) (len : ∀ ds d, R ds d → ds.length = ps.length)
    (hb : ∀ (kV doc pm : Value) (an : Option Addr) (cdv ct : Value) (us : List Value), us.length = ps.length → bindArgs (PySem.W.fnOf x x (defArgs st) (defBody st) (defScope st) .none kV doc pm an cdv ct) ⟨us, []⟩ = pure (ps.zip us))
    (body : ∀ (f : Addr) (cdv : Value) (A : Around) (outer : List Env) (s : Shared) (H : Hp) (E : XK), Room k (A.deeper (envOfC x (defScope st) s.heap.objs.size f cdv)) → ∀ ds d, R ds d →
      Bk (cxB P w K mg base N x st f cdv A outer s H E) (ds.map some ++ List.replicate (N.length - ds.length) none) (fun _ => none) (defBody st) (fun _ _ => d = .none) (fun d' _ => d' = d)) : Fn P w K mg base x (k + 1) ps (spP R) := by
  refine fn_mk D S (fun vs H Q E h => ?_) hb fun f cdv A outer s H E hr vs Q h => ?_
  · obtain ⟨I, ds, d, _, r, hR, _⟩ := h
    rw [r.length]
    exact len ds d hR
  · obtain ⟨I, ds, d, hx, r, hR, q⟩ := h
    have F : Fr (fun _ => False) I H I H (L2.start N vs) (ds.map some ++ List.replicate (N.length - ds.length) none) (fun _ => none) (fun _ => 0) := by
      refine ⟨Nx.refl hx, ?_, fun i md e => (nomatch e), fun i j e => absurd rfl e⟩
      unfold L2.start
      rw [r.length]
      exact vs_start _ r
    refine body f cdv A outer s H E hr ds d hR _ I H I H _ _ _ F (fun I' H' σ' ρ' μ' α' F' e => ?_) fun v d' I' H' σ' ρ' μ' α' F' r' e => ?_
    · subst e
      exact q .non I' H' ⟨F'.x.i, F'.x.j, fun a o z => F'.x.h a o id z, F'.x.k⟩ .non
    · subst e
      exact q v I' H' ⟨F'.x.i, F'.x.j, fun a o z => F'.x.h a o id z, F'.x.k⟩ r'
theorem fn_draw (D : Dfn K mg x st) (S : FnScope N ps (defScope st)) (len : ∀ ds, Pre ds → ds.length + 1 = ps.length)
    (hb : ∀ (kV doc pm : Value) (an : Option Addr) (cdv ct : Value) (us : List Value), us.length = ps.length → bindArgs (PySem.W.fnOf x x (defArgs st) (defBody st) (defScope st) .none kV doc pm an cdv ct) ⟨us, []⟩ = pure (ps.zip us))
    (body : ∀ (f : Addr) (cdv : Value) (A : Around) (outer : List Env) (s : Shared) (H : Hp) (E : XK), Room k (A.deeper (envOfC x (defScope st) s.heap.objs.size f cdv)) → ∀ ds n, Pre ds → n + cost ≤ penMax →
      Bk (cxB P w K mg base N x st f cdv A outer s H E) (none :: (ds.map some ++ List.replicate (N.length - (ds.length + 1)) none)) (fun j => if j = 0 then some (.pen n) else none) (defBody st) (fun _ _ => False) (fun d μ' => R ds d ∧ μ' 0 = some (.pen (n + cost)))) :
    Fn P w K mg base x (k + 1) ps (spD cost Pre R) := by
  refine fn_mk D S (fun vs H Q E h => ?_) hb fun f cdv A outer s H E hr vs Q h => ?_
  · obtain ⟨I, pa, us, ds, n, rfl, _, _, _, _, r, hp, _⟩ := h
    rw [List.length_cons, r.length]
    exact len ds hp
  · obtain ⟨I, pa, us, ds, n, rfl, hx, hm, hi, hb, r, hp, q⟩ := h
    have F : Fr (fun a => a = pa) I H I H (L2.start N (.ref pa :: us)) (none :: (ds.map some ++ List.replicate (N.length - (ds.length + 1)) none)) (fun j => if j = 0 then some (.pen n) else none) (fun _ => pa) := by
      refine ⟨Nx.refl hx, ?_, fun i md e => ?_, fun i j a b _ => ?_⟩
      · unfold L2.start
        rw [List.map_cons, List.cons_append, List.length_cons, r.length]
        exact vs_cons (vs_start _ r)
      · by_cases h0 : i = 0
        · subst h0
          rw [if_pos rfl] at e
          cases e
          exact ⟨rfl, hm, hi, fun z => (nomatch z), fun _ => rfl⟩
        · rw [if_neg h0] at e
          cases e
      · by_cases h0 : i = 0
        · by_cases h1 : j = 0
          · rw [h0, h1]
          · exact absurd (if_neg h1) b
        · exact absurd (if_neg h0) a
    refine body f cdv A outer s H E hr ds n hp hb _ I H I H _ _ _ F (fun _ _ _ _ _ _ _ z => z.elim) fun v d' I' H' σ' ρ' μ' α' F' r' e => ?_
    obtain ⟨hR, h0⟩ := e
    obtain ⟨_, m1, m2, _, m4⟩ := F'.m 0 _ h0
    have e0 : α' 0 = pa := m4 rfl
    rw [e0] at m1 m2
    exact q v d' I' H' F'.x m1 m2 r' hR
end

/-! ### comprehensions that draw -/
inductive AllR (Q : PyData → PyData → Prop) : List PyData → List PyData → Prop
  | nil : AllR Q [] []
  | cons {d e ds es} : Q d e → AllR Q ds es → AllR Q (d :: ds) (e :: es)
theorem AllR.snoc {Q : PyData → PyData → Prop} {d e : PyData} (h : Q d e) : ∀ {ds es : List PyData}, AllR Q ds es → AllR Q (ds ++ [d]) (es ++ [e])
  | _, _, .nil => .cons h .nil
  | _, _, .cons a b => .cons a (b.snoc h)
theorem AllR.length {Q : PyData → PyData → Prop} : ∀ {ds es : List PyData}, AllR Q ds es → es.length = ds.length
  | _, _, .nil => rfl
  | _, _, .cons a b => congrArg (· + 1) b.length
section
variable {X : Cx} {ρ : Ro} {μ : Mo} {tg iter elt : Expr} {ds : List PyData} {scope : Scope} {own : List (Str × Nat)} {pos : Pos} {g : TG} {ρ' : PyData → Ro} {Rel : PyData → PyData → Prop} {n cost pn : Nat}
def Efb (X : Cx) (sc : Scope) (ρ : Ro) (μ : Mo) (e : Expr) (R : PyData → Prop) (μ' : Mo) : Prop := ∀ (s : Shared) (H0 : Hp) (C : Addr) (cl : List (Str × Addr)) (fp : List Addr), Ef (X.blk s H0 sc (compEnvC sc cl C X.env) fp) ρ μ e R μ'
def penMo (pn n : Nat) : Mo := fun j => if j = pn then some (.pen n) else none
theorem penMo_same : penMo pn n pn = some (.pen n) := if_pos rfl
theorem penMo_mu {m : Nat} : mu (penMo pn n) pn (some (.pen m)) = penMo pn m := by
  funext j
  unfold mu penMo
  by_cases h : j = pn
  · rw [if_pos h, if_pos h]
  · rw [if_neg h, if_neg h, if_neg h]
theorem fr_pen {I H : Hp} {σ : L2.St} {a : Addr} (hx : Ex I H) (v : VS I σ ρ) (hs : σ[pn]? = some (some (.ref a))) (hm : MdAt I H a (.pen n)) (hi : I a = none) : Fr (fun b => b = a) I H I H σ ρ (penMo pn n) (fun _ => a) := by
  refine ⟨Nx.refl hx, v, fun i md e => ?_, fun i j p q _ => ?_⟩
  · unfold penMo at e
    by_cases h : i = pn
    · subst h
      rw [if_pos rfl] at e
      cases e
      exact ⟨hs, hm, hi, fun z => (nomatch z), fun _ => rfl⟩
    · rw [if_neg h] at e
      cases e
  · unfold penMo at p q
    by_cases h : i = pn
    · by_cases h' : j = pn
      · rw [h, h']
      · rw [if_neg h'] at q
        exact absurd rfl q
    · rw [if_neg h] at p
      exact absurd rfl p
/-- [elt for ..], each elt draws cost times; nothing else of the frame may change -/
theorem ef_lc (hc : X.calm = true) (hN : X.N.Nodup) (ok : BlkOk X.N X.env.scope scope own) (hg : PGb X scope tg g) (it : IT X ρ tg iter ds)
    (gt : ∀ d, d ∈ ds → Gt g (own.map (·.2)) (wipeR ρ (own.map (·.2))) d (ρ' d)) (hpn : pn ∉ own.map (·.2)) (he : ∀ d m, d ∈ ds → m + cost ≤ n + ds.length * cost → Efb X scope (ρ' d) (penMo pn m) elt (Rel d) (penMo pn (m + cost))) (hl : ds.length < 100000)
    (hs : ∀ x, foldedSetIterable iter X.env x = pure x := by intro _; rfl) : Ef X ρ (penMo pn n) (.ListComp elt [⟨tg, iter, [], 0⟩] scope pos) (fun d => ∃ es, d = .list es ∧ AllR Rel ds es) (penMo pn (n + ds.length * cost)) := fun S I0 H0 I H σ α F Q k => by
  refine we_of (pe_lc (wi := WI X tg iter) (g := g) (tt := tYes) (te := WEb X scope elt) hc hN pi_wi ok hg (fun s H C cl fp => pts_nil) (fun s H C cl fp => ⟨fun pins s' σ H' Q I h => h s H C cl fp pins s' I⟩) hs) ?_
  refine it I σ H F.e F.v _ fun J I1 H1 n1 ok1 D hD => ?_
  have F1 := F.step n1
  obtain ⟨hsl, hm1, hi1, _, _⟩ := F1.m pn _ penMo_same
  have hD0 : I1 D = none := fresh_back n1.j hD
  have hDp : D ≠ α pn := fun z => by
    obtain ⟨c, cs, e, _⟩ := hm1
    rw [← z, hD] at e
    cases e
  have hsw : (L2.wipe σ (own.map (·.2)))[pn]? = some (some (.ref (α pn))) := by
    rw [wipe_get, if_neg fun z => hpn z.1]
    exact hsl
  refine ⟨fun i m H' => m = ds.length - i ∧ i ≤ ds.length ∧ ∃ I2 acc es, Nx (fun b => b = α pn) I1 H1 I2 H' ∧ MdAt I2 H' (α pn) (.pen (n + i * cost)) ∧ I2 (α pn) = none ∧ I2 D = none ∧ H' D = some (.lst acc) ∧ RpAll I2 acc es ∧ AllR Rel (ds.take i) es, ⟨ds.length, rfl, Nat.zero_le _, I1, [], [], ?_⟩, ?_⟩
  · refine ⟨(Nw.own (o := .lst []) n1.j hD).nx, ?_, hi1, hD0, upd_same, .nil, .nil⟩
    rw [Nat.zero_mul]
    exact (hm1.keep hi1 (Nw.own (o := .lst []) n1.j hD)).1
  · rintro i m H2 ⟨rfl, hi, I2, acc, es, x2, m2, z2, d2, a2, r2, q2⟩
    by_cases hlt : i < ds.length
    · refine .inr ⟨ok1.go i I2 H2 x2.i x2.j trivial hlt, fun H' => ∃ I2 acc es, Nx (fun b => b = α pn) I1 H1 I2 H' ∧ MdAt I2 H' (α pn) (.pen (n + (i + 1) * cost)) ∧ I2 (α pn) = none ∧ I2 D = none ∧ H' D = some (.lst acc) ∧ RpAll I2 acc es ∧ AllR Rel (ds.take (i + 1)) es,
        fun H' p' => ⟨ds.length - (i + 1), by omega, rfl, hlt, p'⟩, fun x H3 y => ?_⟩
      obtain ⟨I3, d, n3, hd, rd⟩ := ok1.yld i I2 H2 x H3 x2.i x2.j trivial hlt y
      have hmem : d ∈ ds := List.mem_of_getElem? hd
      refine (gt d hmem).run I3 (L2.wipe σ (own.map (·.2))) H3 x n3.j (((F.v.up n1.i).up (x2.i.trans n3.i)).wipe _) rd _ ?_
      intro σ2 vs2 ag hl2
      refine ⟨wipe_same ag hl2, ?_⟩
      have D3 := n3.keep a2 d2
      have P3 := m2.keep z2 n3
      unfold tYes
      dsimp only
      rw [if_pos rfl]
      intro s0 H0' C cl fp
      have hle : n + i * cost + cost ≤ n + ds.length * cost := by
        have : (i + 1) * cost ≤ ds.length * cost := Nat.mul_le_mul_right _ hlt
        rw [Nat.succ_mul] at this
        omega
      have G := fr_pen (ρ := ρ' d) (pn := pn) n3.j vs2 (by rw [ag pn hpn]; exact hsw) P3.1 P3.2
      refine he d (n + i * cost) hmem hle s0 H0' C cl fp _ I3 H3 I3 H3 σ2 _ G _ fun v5 e5 I5 H5 G5 x5 r5 rel5 => ?_
      have D5h : H5 D = some (.lst acc) := G5.x.h D _ hDp D3.1
      have D5i : I5 D = none := G5.x.k D D3.2 ⟨_, D3.1, by intro _ w; cases w⟩
      obtain ⟨_, p5, i5, _, _⟩ := G5.m pn _ penMo_same
      have hlen : acc.length < sizeLine := by
        rw [r2.length, q2.length, List.length_take]
        exact sz_lt (by omega)
      refine ⟨acc, D5h, hlen, I5, acc ++ [v5], es ++ [e5], ?_, ?_, i5, D5i, upd_same, (r2.up (n3.i.trans x5)).snoc r5, ?_⟩
      · have x35 := (x2.trans n3.nx).trans G5.x
        refine ⟨x35.i, ex_mut x35.j D5i, fun a o ns e => ?_, fun a e => ?_, fun a e => ?_, x35.k⟩
        · have ha : a ≠ D := fun w => by rw [w, hD] at e; cases e
          rw [upd_ne ha]
          exact x35.h a o ns e
        · have ha : a ≠ D := fun w => e (by rw [w]; exact hD)
          rw [upd_ne ha]
          exact x35.s a e
        · have ha : a ≠ D := e.ne hD
          obtain ⟨o, w, t⟩ := x35.t a e
          exact ⟨o, by rw [upd_ne ha]; exact w, t⟩
      · obtain ⟨c, cs, u, w⟩ := p5
        rw [Nat.succ_mul, ← Nat.add_assoc]
        exact ⟨c, cs, by rw [upd_ne hDp.symm]; exact u, w⟩
      · rw [List.take_add_one, hd]
        exact q2.snoc rel5
    · have e : i = ds.length := by omega
      subst e
      rw [List.take_length] at q2
      have nw : Nx (fun b => b = α pn) I1 H1 (upd I2 D (.lst acc)) H2 := by
        refine ⟨x2.i.trans (Ex.new d2), fun a o q => ?_, x2.h, x2.s, x2.t, fun a e z => ?_⟩
        · by_cases h : a = D
          · subst h; rw [upd_same] at q; rw [a2]; exact q
          · rw [upd_ne h] at q; exact x2.j a o q
        · rw [upd_ne (z.ne hD)]
          exact x2.k a e z
      refine .inl ⟨ok1.stop I2 H2 x2.i x2.j trivial, ?_⟩
      have F2 := F1.drawn (m := n + ds.length * cost) penMo_same nw ?_ (by rw [upd_ne hDp.symm]; exact z2)
      · rw [penMo_mu] at F2
        exact k _ _ _ H2 F2 (n1.i.trans nw.i) (.lst upd_same (r2.up (Ex.new d2))) ⟨es, rfl, q2⟩
      · obtain ⟨c, cs, u, w⟩ := m2
        exact ⟨c, cs, u, Ex.new d2 _ _ w⟩
end
end R1

set_option Elab.async false
set_option linter.all false
set_option maxRecDepth 100000
set_option maxHeartbeats 4000000
/-! CoreP: dict of pairs, {k: v}, sum of a tuple: rows of whole numbers as keys. -/
namespace R1
open PySem PySem.Spec PyProof.Rows L2 Evl

def kvAll (kvs : List (List Int × PyData)) : List (List Int × PyData) := kvs.foldl (fun acc q => kvPut acc q.1 q.2) []
section
variable {X : Cx} {pins : List (Addr × Obj)} {s : Shared} {σ : L2.St} {I H : Hp}
theorem putAll_rp : ∀ {ws kvs acc acc'}, RpKv I acc acc' → RpKv I ws kvs → RpKv I (ws.foldl (fun a q => putK a q.1 q.2) acc) (kvs.foldl (fun a q => kvPut a q.1 q.2) acc')
  | _, _, _, _, h, .nil => h
  | _, _, _, _, h, .cons (p := p) r t => by
    have z := putAll_rp (h.put (p := p) r) t
    exact z
theorem putAll_kt : ∀ {ws : List (List L2.Key × V)} {ps : List (List L2.Key × Addr × Value)} {acc acc'}, KT H acc acc' → KT H ws ps → KT H (ws.foldl (fun a q => putK a q.1 q.2) acc) (storedAllH acc' ps)
  | [], _, _, _, h, .nil => h
  | (k, v) :: ws, (k', b, u) :: ps, _, _, h, .cons e t => by
    obtain ⟨e1, e2, e3⟩ := e
    have e1 : k = k' := e1
    subst e1
    have z := putAll_kt (h.put k e2 e3) t
    exact z
theorem putAll_len : ∀ (ws acc : List (List L2.Key × V)), (ws.foldl (fun a q => putK a q.1 q.2) acc).length ≤ acc.length + ws.length
  | [], acc => Nat.le_refl _
  | q :: ws, acc => by
    have h1 := putAll_len ws (putK acc q.1 q.2)
    have h2 := length_putK acc q.1 q.2
    show (ws.foldl (fun a q => putK a q.1 q.2) (putK acc q.1 q.2)).length ≤ _
    rw [List.length_cons]
    omega
/-- pairs of the heap -/
theorem pairs_at (i : Inv X pins σ H s) (hx : Ex I H) : ∀ {xs : List V} {its : List Value} {kvs : List (List Int × PyData)}, Vals xs its → RpAll I xs (kvs.map fun q => .tuple [pwD q.1, q.2]) →
    ∃ (Ts : List Addr) (ps : List (List L2.Key × Addr × Value)) (ws : List (List L2.Key × V)), its = Ts.map Value.ref ∧ Ts.length = kvs.length ∧ ps.length = kvs.length ∧ KT H ws ps ∧ RpKv I ws kvs ∧
      ∀ (j : Nat) (k : List L2.Key) (b : Addr) (v : Value), ps[j]? = some (k, b, v) → ∃ T, Ts[j]? = some T ∧ s.heap.IsTuple T #[.ref b, v]
  | [], [], [], .nil, .nil => ⟨[], [], [], rfl, rfl, rfl, .nil, .nil, fun j k b v e => by simp at e⟩
  | x :: xs, u :: its, (p, d) :: kvs, .cons a as, .cons r rs => by
    obtain ⟨Ts, ps, ws, e1, e2, e3, e4, e5, e6⟩ := pairs_at i hx as rs
    cases r with
    | tup ht hr =>
      cases a
      cases hr with
      | cons rk hr =>
        cases hr with
        | cons rd hr =>
          cases hr
          obtain ⟨b, rfl, hb⟩ := rk.tupI
          obtain ⟨_, its2, rv2, it2⟩ := i.hok _ _ (hx _ _ ht)
          cases rv2 with
          | cons v1 rv2 =>
            cases rv2 with
            | cons v2 rv2 =>
              cases rv2
              cases v1
              refine ⟨_ :: Ts, (keyP p, b, _) :: ps, (keyP p, _) :: ws, by rw [e1]; rfl, by rw [List.length_cons, List.length_cons, e2], by rw [List.length_cons, List.length_cons, e3], .cons ⟨rfl, ?_, v2⟩ e4, .cons rd e5, fun j k c v e => ?_⟩
              · show H b = some (.tup ((keyP p).map kV))
                rw [keyP_kV]
                exact hx _ _ hb
              · cases j with
                | zero =>
                  simp at e
                  obtain ⟨rfl, rfl, rfl⟩ := e
                  exact ⟨_, rfl, it2⟩
                | succ j =>
                  obtain ⟨T, q1, q2⟩ := e6 j k c v (by simpa using e)
                  exact ⟨T, by simpa using q1, q2⟩
def rDictOf (K : PySem.W.Frag) : List V → Hp → VK → Prop := fun vs H Q => ∃ (l : Addr) (xs : List V) (I : Hp) (kvs : List (List Int × PyData)), vs = [V.ref l] ∧ SqL K H l xs ∧ Ex I H ∧ RpAll I xs (kvs.map fun q => .tuple [pwD q.1, q.2]) ∧
  ∀ (p : Addr) (ob : Obj) (ws : List (List L2.Key × V)), RpKv I ws (kvAll kvs) → H p = none → Q (.ref p) (upd H p (.frz ob (.dT ws)))
theorem cr_dictOf (hu : X.A.units + 64 < cLine) (hc : X.calm = true) : CallR X (.type "dict") (rDictOf X.K) := by
  intro pins s σ H vs us Q i r h
  obtain ⟨l, xs, I0, kvs, rfl, hs, hx, hr, q⟩ := h
  obtain rfl := Vals.ref1 r
  obtain ⟨its, rv, hl, hz⟩ := i.list hs
  obtain ⟨Ts, ps, ws, rfl, e2, e3, e4, e5, e6⟩ := pairs_at i hx rv hr
  have hlen : (Ts.map Value.ref).length = kvs.length := by rw [List.length_map, e2]
  have hz' : kvs.length ≤ sizeLine := by rw [← hlen, ← rv.length]; exact hz
  obtain ⟨o, n, ho, hcl, hd, hdat⟩ := hl
  have hkey : ∀ x ∈ ps, H x.2.1 = some (.tup (x.1.map kV)) := by
    have : ∀ {ws : List (List L2.Key × V)} {ps : List (List L2.Key × Addr × Value)}, KT H ws ps → ∀ x ∈ ps, H x.2.1 = some (.tup (x.1.map kV)) := by
      intro ws ps h
      induction h with
      | nil => intro x hx; exact nomatch hx
      | cons h t ih =>
        intro x hx
        rcases List.mem_cons.mp hx with rfl | hx
        · obtain ⟨a, b, c⟩ := h
          rw [← a]; exact b
        · exact ih x hx
    exact this e4
  refine call_dict_pairsH (knd := tupleKind (mixKind X.prog X.w)) (ps := ps) (s := s) (PairArg.list l (Ts.map Value.ref).toArray (fun j => Ts.getD j 0) (ps.map fun x => (.ref x.2.1, x.2.2))) (i.ok.hd hc) (tupleKind_room_in1 (A := X.A.in1) (by show X.A.units + 1 + 1 < cLine; omega))
    ⟨⟨o, n, ho, hcl, hd, hdat⟩, ⟨?_, fun j k v e => ?_⟩⟩ ⟨by rw [List.length_map], fun j key v e => ?_⟩ (fun h' hk x hxm => ?_) (by rw [List.length_map, e3]; exact hz') fun h' tk hd' keep => ?_
  · rw [List.size_toArray, hlen, List.length_map, e3]
  · rw [List.getElem?_map] at e
    cases q : ps[j]? with
    | none => rw [q] at e; simp at e
    | some x =>
      rw [q] at e
      obtain ⟨k', b, v'⟩ := x
      simp at e
      obtain ⟨rfl, rfl⟩ := e
      obtain ⟨T, t1, t2⟩ := e6 j k' b v' q
      have hg : Ts.getD j 0 = T := by rw [List.getD_eq_getElem?_getD, t1]; rfl
      show (List.map Value.ref Ts).toArray[j]? = some (Value.ref (Ts.getD j 0)) ∧ PairAt s.heap (Ts.getD j 0) (Value.ref b) v'
      rw [hg]
      refine ⟨?_, .inl t2⟩
      rw [List.getElem?_toArray, List.getElem?_map, t1]
      rfl
  · have e : (ps.map fun x => ((Value.ref x.2.1, x.2.2) : Value × Value))[j]? = some (key, v) := e
    rw [List.getElem?_map] at e
    cases q : ps[j]? with
    | none => rw [q] at e; simp at e
    | some x =>
      rw [q] at e
      obtain ⟨k', b, v'⟩ := x
      simp at e
      obtain ⟨rfl, rfl⟩ := e
      exact ⟨k', b, rfl, rfl⟩
  · refine key_of (h := h') (i.hok.kept fun b u e => hk b u (Nat.ne_of_lt (Heap.lt_size e)) (by simp) e) (hkey x hxm)
  · obtain ⟨o', es, ep, h1, h2, h3, h4, _, h5⟩ := hd'
    have hp := i.hok.fresh (Nat.le_refl s.heap.objs.size)
    have hm : (s.heap.objs.size == sysModules) = false := beq_eq_false_iff_ne.mpr (Nat.ne_of_gt i.big)
    refine ⟨.ref s.heap.objs.size, upd H s.heap.objs.size (.frz o' (.dT (ws.foldl (fun a q => putK a q.1 q.2) []))), i.laid (t' := tk) (fun b u e => keep b u (by simp) e) (Nat.le_refl _) ⟨h1, ?_, hm, storedAllH [] ps, ?_, o', es, ep, h1, h2, h3, h4, h5⟩, rfl, q _ _ _ (putAll_rp .nil e5) hp⟩
    · have := putAll_len ws []
      rw [List.length_nil, Nat.zero_add, e5.length] at this
      exact Nat.le_trans this hz'
    · have k := putAll_kt (H := H) (acc := []) (acc' := []) .nil e4
      exact KT.keeps k fun b ys e => by
        have hb : b ≠ s.heap.objs.size := fun z => by rw [z, hp] at e; cases e
        rw [upd_ne hb]
        exact e
end
section
variable {X : Cx} {ρ : Ro} {a e : Expr} {kvs : List (List Int × PyData)} {pos p : Pos} {d : PyData} {ns : List Int}
/-- dict([(row, value), ..]) -/
theorem e_dictOf (hu : X.A.units + 64 < cLine) (hc : X.calm = true) (hg : Gl X "dict") (hm : X.mg "dict" = none) (ha : E X ρ a (.list (kvs.map fun q => .tuple [pwD q.1, q.2]))) (hs : starEach [a] X.env = [(false, eval a X.env)] := by rfl) :
    E X ρ (.Call (.Name "dict" p) [a] [] pos) (kvD (kvAll kvs)) :=
  e_ct1 (cr_dictOf hu hc) hg hm (by decide +kernel) ha (fun I H v hx r Q q => by
    cases r with
    | lst ea ra =>
      exact ⟨_, _, I, kvs, rfl, SqL.of (hx _ _ ea), hx, ra, fun p ob ws rw hp => q _ _ _ (Nw.new hx hp) (.dct upd_same (rw.up (Nw.new (o := .frz ob (.dT ws)) hx hp).i).ps)⟩) (by decide) (by decide) hs
def rSumT : List V → Hp → VK → Prop := fun vs H Q => ∃ (a : Addr) (ns : List Int), vs = [V.ref a] ∧ H a = some (.tup (ns.map V.int)) ∧ Q (.int ns.sum) H
theorem cr_sumT (hc : X.calm = true) : CallR X (.builtin "sum") rSumT := by
  intro pins s σ H vs us Q i r h
  obtain ⟨a, ns, rfl, ha, q⟩ := h
  obtain rfl := Vals.ref1 r
  obtain ⟨_, its, rv, it⟩ := i.hok _ _ ha
  have hi : IntsAre its ns := Vals.ints rv
  obtain ⟨xs, e⟩ := hi.allInts.items
  have hn : numsOf (intItems xs).toList = ns := by rw [← e]; exact hi.numsOf
  rw [nums_intItems] at hn
  rw [e] at it
  refine PySem.W.ktm_sumG (i.ok.hd hc) it fun h' tk t' hk => ?_
  refine ⟨.int ns.sum, H, i.kept hk, ⟨t', ?_⟩, q⟩
  rw [preSum_eq, List.take_of_length_le (by simp), hn]
/-- sum of a row of whole numbers -/
theorem e_sumT (hc : X.calm = true) (hg : Gl X "sum") (hm : X.mg "sum" = none) (ha : E X ρ a (pwD ns)) (hs : starEach [a] X.env = [(false, eval a X.env)] := by rfl) : E X ρ (.Call (.Name "sum" p) [a] [] pos) (.int ns.sum) :=
  e_cb1 (cr_sumT hc) hg hm (by decide +kernel) ha (fun I H v hx r Q q => by
    obtain ⟨b, rfl, hb⟩ := r.tupI
    exact ⟨b, ns, rfl, hx _ _ hb, q _ I H (.refl hx) (.int _)⟩) (by decide) (by decide) hs
end
end R1

set_option Elab.async false
set_option linter.all false
set_option maxRecDepth 100000
set_option maxHeartbeats 4000000
/-! CoreQ: sum of lists, behind a list. -/
namespace R1
open PySem PySem.Spec PyProof.Rows L2 Evl

section
variable {prog : Program} {w : World} {A : Around} {R : Result → Shared → Prop} {I l : Addr} {items : Array Value} {vals : List (List Value)} {start : Addr}
abbrev lobj (xs : List Value) (n : Nat) : Obj := { cls := .type "list", data := .seq xs.toArray n }
/-- where the sum so far lies -/
def SumAt (h0 h : Heap) (start T : Addr) (i : Nat) (xs : List Value) : Prop := (∃ n, h.get? T = some (lobj xs n)) ∧ ((i = 0 ∧ T = start) ∨ h0.objs.size ≤ T)
theorem sumL_loop (hh : A.in1.handled = none) (hne : l ≠ I) {h0 : Heap} (hI : h0.objs.size ≤ I) {S : Addr} (hS0 : h0.objs.size ≤ S) (hSI : S ≠ I) (hlen : items.size = vals.length)
    (hit : ∀ (j : Nat) (x : Value) (vs : List Value), items[j]? = some x → vals[j]? = some vs → ∃ a n, x = .ref a ∧ h0.get? a = some (lobj vs n)) (hl0 : h0.IsList l items) (hz : vals.flatten.length ≤ sizeLine) :
    ∀ (k i : Nat) (s : Shared) (T : Addr) (c : Nat), items.size - i = k → i ≤ items.size → s.heap.IsListIter I l i → (∀ b o, h0.get? b = some o → s.heap.get? b = some o) → s.heap.get? S = some { cls := .type "list", data := .seq #[.ref T] c } → T ≠ S → T ≠ I →
      SumAt h0 s.heap start T i (vals.take i).flatten →
      (∀ h' tk T', SumAt h0 h' start T' items.size vals.flatten → (∀ b o, h0.get? b = some o → h'.get? b = some o) → R (.ok (.ret (.ref T'))) { s with heap := h', toks := tk }) →
      codeAny (model prog w) A (.builtin "sum.loop" ⟨[.ref I, .ref S, rawInt 2, rawInt 0], []⟩) R s := by
  intro k
  induction k with
  | zero =>
    intro i s T c hk hi hit0 keep hS hTS hTI hT hR
    have hin : i = items.size := by omega
    subst hin
    refine codeAny_builtin PySem.F.entry_sum_loop ?_
    rw [Around.under_plainId PySem.F.plain_sum_loop _]
    show wpAny _ A.in1 (seqItems? (.ref S) >>= _) _ _ s
    refine wpAny_bind (wpAny_seqItems hS rfl ?_)
    show wpAny _ A.in1 (tryCatch (pyNext (.ref I)) _ >>= _) _ _ s
    refine wpAny_bind (wpAny_tryCatch ?_)
    refine (Walks.list (prog := prog) (w := w) (A := A.in1) hh I l hne items).done s _ _ ⟨hit0, hl0.at fun o e => keep _ _ e⟩ fun h' tk hk' => ?_
    have hT2 : SumAt h0 s.heap start T items.size vals.flatten := by
      have e : vals.take items.size = vals := by rw [hlen, List.take_length]
      rw [e] at hT
      exact hT
    refine wpAny_pure ?_
    obtain ⟨⟨n, e⟩, q⟩ := hT2
    refine hR h' tk T ⟨⟨n, hk' _ _ (by simpa using hTI) e⟩, q⟩ fun b o e => hk' b o ?_ (keep b o e)
    rw [List.mem_singleton]
    exact Nat.ne_of_lt (Nat.lt_of_lt_of_le (Heap.lt_size e) hI)
  | succ k ih =>
    intro i s T c hk hi hit0 keep hS hTS hTI hT hR
    have hlt : i < items.size := by omega
    refine codeAny_builtin PySem.F.entry_sum_loop ?_
    rw [Around.under_plainId PySem.F.plain_sum_loop _]
    show wpAny _ A.in1 (seqItems? (.ref S) >>= _) _ _ s
    refine wpAny_bind (wpAny_seqItems hS rfl ?_)
    show wpAny _ A.in1 (tryCatch (pyNext (.ref I)) _ >>= _) _ _ s
    refine wpAny_bind (wpAny_tryCatch ?_)
    refine (Walks.list (prog := prog) (w := w) (A := A.in1) hh I l hne items).item i s _ _ hlt ⟨hit0, hl0.at fun o e => keep _ _ e⟩ fun v h' tk hP hst hk' => ?_
    have hv : vals[i]? = some vals[i] := List.getElem?_eq_getElem (by omega)
    obtain ⟨a, na, rfl, ha⟩ := hit i v vals[i] hP hv
    obtain ⟨⟨nT, eT⟩, qT⟩ := hT
    have k0 : ∀ b o, h0.get? b = some o → h'.get? b = some o := fun b o e => hk' b o (by
      rw [List.mem_singleton]
      exact Nat.ne_of_lt (Nat.lt_of_lt_of_le (Heap.lt_size e) hI)) (keep b o e)
    have eT' : h'.get? T = some (lobj (vals.take i).flatten nT) := hk' _ _ (by simpa using hTI) eT
    have eS' := hk' S _ (by simpa using hSI) hS
    have hacc : (vals.take (i + 1)).flatten = (vals.take i).flatten ++ vals[i] := by
      rw [List.take_add_one, hv, List.flatten_append]
      show _ ++ [vals[i]].flatten = _
      rw [List.flatten_cons, List.flatten_nil, List.append_nil]
    have hsz : (vals.take (i + 1)).flatten.length ≤ vals.flatten.length := by
      have e : vals.flatten = (vals.take (i + 1)).flatten ++ (vals.drop (i + 1)).flatten := by rw [← List.flatten_append, List.take_append_drop]
      rw [e, List.length_append]
      omega
    have ha' := k0 _ _ ha
    show wpAny _ A.in1 ((holding [Value.ref a] (binaryOp .Add (.ref T) (.ref a))).attempt >>= _) _ _ _
    refine wpAny_bind (wpAny_attempt (wpAny_holding (PySem.P.add_list (s := { s with heap := h', toks := tk }) eT' ha' ?_ ?_)))
    · have eTl : T < h'.objs.size := Heap.lt_size eT'
      have eSl : S < h'.objs.size := Heap.lt_size eS'
      have hI' : I < h'.objs.size := by obtain ⟨_, e, _⟩ := hst.1; exact Heap.lt_size e
      have e0 : h0.objs.size ≤ h'.objs.size := Nat.le_trans hS0 (Nat.le_of_lt eSl)
      generalize hnew : h'.objs.size = Tn at eTl eSl hI' e0 ⊢
      have eN : (h'.push { cls := .type "list", data := .seq ((vals.take i).flatten.toArray ++ vals[i].toArray) }).get? Tn = some (lobj (vals.take (i + 1)).flatten 0) := by
        rw [← hnew, hacc]
        have : (vals.take i).flatten.toArray ++ vals[i].toArray = ((vals.take i).flatten ++ vals[i]).toArray := by simp
        rw [this]
        exact Heap.get?_push_size _ rfl
      have eS2 := Heap.get?_push_of_some { cls := .type "list", data := .seq ((vals.take i).flatten.toArray ++ vals[i].toArray) } eS'
      show wpAny _ A.in1 (updateSeq S (fun _ => #[.ref Tn]) >>= _) _ _ _
      refine wpAny_bind (wpAny_updateSeq eS2 rfl ?_)
      have eS3 := Heap.get?_update_self (Obj.mapSeq fun _ => #[Value.ref Tn]) eS2 rfl
      refine wpAny_bind (wpAny_letGo ?_)
      refine wpAny_bind (wpAny_updateSeq eS3 rfl (wpAny_pure ⟨plainId_quiet PySem.F.plain_sum_loop _, ?_⟩))
      have oth : ∀ b o, b ≠ S → (h'.push { cls := .type "list", data := .seq ((vals.take i).flatten.toArray ++ vals[i].toArray) }).get? b = some o → (((h'.push { cls := .type "list", data := .seq ((vals.take i).flatten.toArray ++ vals[i].toArray) }).update S (Obj.mapSeq fun _ => #[Value.ref Tn])).update S (Obj.mapSeq fun _ => #[Value.ref Tn])).get? b = some o := fun b o hb e =>
        (Heap.get?_update_other _ _ (Ne.symm hb)).trans ((Heap.get?_update_other _ _ (Ne.symm hb)).trans e)
      refine ih (i + 1) _ Tn _ (by omega) hlt ?_ (fun b o e => ?_) (Heap.get?_update_self _ eS3 rfl) (Nat.ne_of_gt eSl) (Nat.ne_of_gt hI') ⟨⟨0, ?_⟩, .inr e0⟩ fun h3 tk3 T3 q3 k3 => hR h3 tk3 T3 q3 k3
      · exact hst.1.at fun o e => oth _ _ (Ne.symm hSI) (Heap.get?_push_of_some _ e)
      · exact oth b o (Nat.ne_of_lt (Nat.lt_of_lt_of_le (Heap.lt_size e) hS0)) (Heap.get?_push_of_some _ (k0 b o e))
      · exact oth _ _ (Nat.ne_of_gt eSl) eN
    · rw [List.size_toArray, List.size_toArray]
      rw [hacc, List.length_append] at hsz
      omega
end
section
variable {prog : Program} {w : World} {A : Around} {E : Value → Shared → Prop} {s : Shared} {l b : Addr} {items : Array Value} {vals : List (List Value)} {nb : Nat}
theorem args_sum2 (a v : Value) : argsOk "sum" ⟨[a, v], []⟩ := by unfold argsOk; kernel_rfl
theorem call_sumL {Q : Value → Shared → Prop} (hh : A.handled = none) (hl : s.heap.IsList l items) (hb : s.heap.get? b = some (lobj [] nb)) (hlen : items.size = vals.length)
    (hit : ∀ (j : Nat) (x : Value) (vs : List Value), items[j]? = some x → vals[j]? = some vs → ∃ a n, x = .ref a ∧ s.heap.get? a = some (lobj vs n)) (hz : vals.flatten.length ≤ sizeLine)
    (h : ∀ h' tk T, SumAt s.heap h' b T items.size vals.flatten → (∀ c o, s.heap.get? c = some o → h'.get? c = some o) → Q (.ref T) { s with heap := h', toks := tk }) :
    wpAny (model prog w) A (call (.builtin "sum") [.ref l, .ref b]) Q E s := by
  refine call_function_tree PySem.F.kind_sum PySem.F.plain_sum PySem.F.entry_sum (args_sum2 _ _) ?_
  unfold Builtin.«sum»
  simp only [List.length_cons, List.length_nil]
  rw [if_neg (by decide)]
  refine wpAny_bind (wpAny_of_eq (show Builtin.Builtins.bindParams "sum" ["start"] 0 ⟨[.ref b], []⟩ = pure [some (.ref b)] from rfl) ?_)
  have hlt : l < s.heap.objs.size := by obtain ⟨_, e, _⟩ := hl; exact Heap.lt_size e
  have hblt : b < s.heap.objs.size := Heap.lt_size hb
  refine wpAny_bind (wpAny_pyIter_list hl ?_)
  refine wpAny_bind (wpAny_pure ?_)
  have eb : (s.heap.push { cls := .type "list_iterator", data := .fields #[.ref l, .int 0 0] }).get? b = some (lobj [] nb) := Heap.get?_push_of_some _ hb
  have tb : Shared.TypeIs { s with heap := s.heap.push { cls := .type "list_iterator", data := .fields #[.ref l, .int 0 0] } } (.ref b) "list" := ⟨_, eb, rfl⟩
  simp only [List.forIn_cons, List.forIn_nil]
  refine wpAny_bind (wpAny_bind (wpAny_bind (wpAny_isInstance (T := "list") (b := false) tb PySem.F.sub_list_str ?_)))
  simp only [Bool.false_eq_true, if_false]
  refine wpAny_pure (wpAny_bind (wpAny_bind (wpAny_isInstance (T := "list") (b := false) tb PySem.F.sub_list_bytes ?_)))
  simp only [Bool.false_eq_true, if_false]
  refine wpAny_pure (wpAny_bind (wpAny_bind (wpAny_isInstance (T := "list") (b := false) tb PySem.F.sub_list_bytearray ?_)))
  simp only [Bool.false_eq_true, if_false]
  refine wpAny_pure (wpAny_pure ?_)
  refine wpAny_bind (wpAny_newObj_type ?_)
  have hsz : (s.heap.push { cls := .type "list_iterator", data := .fields #[.ref l, .int 0 0] }).objs.size = s.heap.objs.size + 1 := Heap.size_push ..
  refine wpAny_pure ⟨plainId_quiet PySem.F.plain_sum_loop _, sumL_loop (I := s.heap.objs.size) (l := l) (items := items) (vals := vals) (start := b) (h0 := s.heap) hh (Nat.ne_of_lt hlt) (Nat.le_refl _) (by rw [hsz]; exact Nat.le_succ _) (by rw [hsz]; exact Nat.succ_ne_self _) hlen hit hl hz
    items.size 0 _ b 0 rfl (Nat.zero_le _) ?_ (fun c o e => Heap.get?_push_of_some _ (Heap.get?_push_of_some _ e)) (Heap.get?_push_size _ rfl) (by rw [hsz]; exact Nat.ne_of_lt (Nat.lt_succ_of_lt hblt)) (Nat.ne_of_lt hblt) ⟨⟨nb, Heap.get?_push_of_some _ eb⟩, .inl ⟨rfl, rfl⟩⟩ fun h' tk T q k => ?_⟩
  · exact ⟨_, Heap.get?_push_of_some _ (Heap.get?_push_size _ rfl), rfl, rfl⟩
  · exact h h' tk T q k
end
theorem lists_at {X : Cx} {pins : List (Addr × Obj)} {s : Shared} {σ : L2.St} {I H : Hp} (i : Inv X pins σ H s) (hx : Ex I H) : ∀ {xs : List V} {its : List Value} {dss : List (List PyData)}, Vals xs its → RpAll I xs (dss.map .list) →
    ∃ (vals : List (List Value)) (yss : List (List V)), vals.length = its.length ∧ (∀ (j : Nat) (x : Value) (vs : List Value), its[j]? = some x → vals[j]? = some vs → ∃ a n, x = .ref a ∧ s.heap.get? a = some (lobj vs n)) ∧ Vals yss.flatten vals.flatten ∧ RpAll I yss.flatten dss.flatten
  | [], [], [], .nil, .nil => ⟨[], [], rfl, fun j x vs e => by simp at e, .nil, .nil⟩
  | x :: xs, u :: its, ds :: dss, .cons a as, .cons r rs => by
    obtain ⟨vals, yss, e1, e2, e3, e4⟩ := lists_at i hx as rs
    cases r with
    | lst ht hr =>
      cases a
      obtain ⟨_, its2, n, rv2, ob⟩ := i.hok _ _ (hx _ _ ht)
      refine ⟨its2 :: vals, _ :: yss, by rw [List.length_cons, List.length_cons, e1], fun j y vs p q => ?_, by rw [List.flatten_cons, List.flatten_cons]; exact rv2.append e3, by rw [List.flatten_cons, List.flatten_cons]; exact hr.append e4⟩
      cases j with
      | zero =>
        simp at p q
        subst p
        subst q
        exact ⟨_, n, rfl, ob⟩
      | succ j => exact e2 j y vs (by simpa using p) (by simpa using q)
def rSumL (K : PySem.W.Frag) : List V → Hp → VK → Prop := fun vs H Q => ∃ (l b : Addr) (xs : List V) (I : Hp) (dss : List (List PyData)), vs = [V.ref l, .ref b] ∧ SqL K H l xs ∧ Ex I H ∧ RpAll I xs (dss.map .list) ∧ I b = some (.lst []) ∧ dss.flatten.length ≤ 100000 ∧
  ∀ v I' H', Nw I H I' H' → Rp I' v (.list dss.flatten) → Q v H'
theorem cr_sumL {X : Cx} (hc : X.calm = true) : CallR X (.builtin "sum") (rSumL X.K) := by
  intro pins s σ H vs us Q i r h
  obtain ⟨l, b, xs, I0, dss, rfl, hs, hx, hr, hb, hz, q⟩ := h
  obtain ⟨u1, u2, rfl, r1, r2⟩ := vals2 r
  cases r1
  cases r2
  obtain ⟨its, rv, hl, _⟩ := i.list hs
  obtain ⟨vals, yss, e1, e2, e3, e4⟩ := lists_at i hx rv hr
  obtain ⟨_, bits, nb, rb, ob⟩ := i.hok _ _ (hx _ _ hb)
  cases rb
  have hz2 : vals.flatten.length ≤ sizeLine := by
    rw [← e3.length, e4.length]
    exact sz_of hz
  refine call_sumL (i.ok.hd hc) hl.isList ob (by rw [List.size_toArray, e1]) (fun j x vs p q => e2 j x vs (by simpa using p) q) hz2 fun h' tk T hT keep => ?_
  obtain ⟨⟨n, hT⟩, z⟩ := hT
  rcases z with ⟨z1, z2⟩ | z
  · have hn : dss = [] := by
      rw [List.size_toArray] at z1
      have h1 := rv.length
      have h2 := hr.length
      rw [List.length_map] at h2
      cases dss with
      | nil => rfl
      | cons d dss => rw [List.length_cons] at h2; omega
    subst hn
    exact ⟨.ref T, H, i.kept keep, rfl, q _ I0 H (.refl hx) (.lst (by rw [z2]; exact hb) .nil)⟩
  · have hp := i.hok.fresh z
    refine ⟨.ref T, upd H T (.lst yss.flatten), i.laid (t' := tk) keep z ⟨by rw [e4.length]; exact sz_of hz, _, n, e3, hT⟩, rfl, q _ _ _ (Nw.new hx hp) (.lst upd_same (e4.up (Nw.new (o := .lst yss.flatten) hx hp).i))⟩
section
variable {X : Cx} {ρ : Ro} {a b : Expr} {dss : List (List PyData)} {pos p p2 : Pos}
/-- sum([..], []) of lists -/
theorem e_sumLL (hc : X.calm = true) (hg : Gl X "sum") (hm : X.mg "sum" = none) (ha : E X ρ a (.list (dss.map .list))) (hz : dss.flatten.length ≤ 100000) (hs : starEach [a, .List [] p2] X.env = (false, eval a X.env) :: starEach [.List [] p2] X.env := by rfl)
    (hs2 : starEach [.List [] p2] X.env = [(false, eval (.List [] p2) X.env)] := by rfl) : E X ρ (.Call (.Name "sum" p) [a, .List [] p2] [] pos) (.list dss.flatten) :=
  e_of (pe_callB (cr_sumL hc) hg hm (by decide +kernel) (pa2 hs hs2) (by decide) (by decide) hs (by rw [hs2]; rfl)) fun I σ H hx vs Q k => ha I σ H hx vs _ fun v I1 H1 n1 r1 => (e_lst (x1 := 0) (pos := p2) as_nil (by decide)) I1 σ H1 n1.j (vs.up n1.i) _ fun u I2 H2 n2 r2 => by
    cases r1 with
    | lst ea ra =>
      cases r2 with
      | lst eb rb =>
        cases rb
        exact ⟨_, _, _, I2, dss, rfl, SqL.of (n2.j _ _ (n2.i _ _ ea)), n2.j, ra.up n2.i, eb, hz, fun v I3 H3 n3 r3 => k v I3 H3 ((n1.trans n2).trans n3) r3⟩
end
end R1

set_option Elab.async false
set_option linter.all false
set_option maxRecDepth 100000
set_option maxHeartbeats 4000000
/-! CoreK: {row: value}; calls by keywords alone. -/
namespace R1
open PySem PySem.Spec PyProof.Rows L2 Evl

theorem vv_one {b : Addr} {v : V} {vs : List (Value × Value)} (h : VV [(V.ref b, v)] vs) : ∃ u, vs = [(Value.ref b, u)] ∧ RelV v u := by
  cases h with
  | cons r t =>
    cases t
    rename_i q
    obtain ⟨u1, u2⟩ := q
    obtain ⟨r1, r2⟩ := r
    obtain rfl : u1 = Value.ref b := r1
    exact ⟨u2, rfl, r2⟩
section
variable {X : Cx} {ρ : Ro} {k e : Expr} {p : List Int} {d : PyData} {pos : Pos}
theorem we_disp1 (hu : X.A.units + 64 < cLine) {σ : L2.St} {H : Hp} {Q : VK} (h : ∀ a, H a = none → WE X k σ (upd H a (.dT [])) fun y H1 => WE X e σ H1 fun v H2 => ∃ (b : Addr) (q : List Int), y = .ref b ∧ H2 a = some (.dT []) ∧ H2 b = some (.tup (q.map V.int)) ∧ ∀ ob, Q (.ref a) (upd H2 a (.frz ob (.dT [(keyP q, v)])))) :
    WE X (.Dict [some k] [e] pos) σ H Q := fun pins s i => by
  have hn := i.hok.fresh (Nat.le_refl s.heap.objs.size)
  have i1 := i.laid (a := s.heap.objs.size) (o := .dT []) (h' := s.heap.push { cls := .type "dict", data := .dict #[] }) (t' := s.toks) (fun _ _ q => Heap.get?_push_of_some _ q) (Nat.le_refl _) (dt_empty s.heap i.big)
  have hh := h _ hn
  refine wpAny_Dict_any (by rfl) (by rfl) (by simp) (by show 1 ≤ 15; decide) (thn ((pps_cons (k := k) (v := e) pe_we pe_we pps_nil).run pins _ σ _ (fun ps H2 => ∃ (v : V) (b : Addr) (q : List Int), ps = [(V.ref b, v)] ∧ H2 s.heap.objs.size = some (.dT []) ∧ H2 b = some (.tup (q.map V.int)) ∧ ∀ ob, Q (.ref s.heap.objs.size) (upd H2 s.heap.objs.size (.frz ob (.dT [(keyP q, v)])))) i1 ?_) fun vs s2 ⟨ps, H2, i2, rel, v, b, q, eps, e1, e2, hq⟩ => ?_)
  · refine we_mono hh fun y H1 h1 => ?_
    refine we_mono h1 fun v H2 h2 => ?_
    obtain ⟨b, q, rfl, e1, e2, hq⟩ := h2
    exact ⟨v, b, q, rfl, e1, e2, hq⟩
  · subst eps
    obtain ⟨u2, rfl, r2⟩ := vv_one rel
    · obtain ⟨z, hd, xs, rk, dd⟩ := dt_of i2.hok e1
      cases rk
      unfold storeAll
      rw [List.forIn_cons]
      have hb2 : H2 b = some (.tup ((keyP q).map kV)) := by rw [keyP_kV]; exact e2
      refine wpAny_bind (wpAny_bind (wpAny_dictSet_heap (knd := tupleKind (mixKind X.prog X.w)) (k := keyP q) (hsz := Nat.zero_le _) (show X.A.units < cLine by omega) (key_of i2.hok hb2) dd fun h' dd' hs => ?_))
      refine wpAny_pure ?_
      show wpAny (model X.prog X.w) X.A (forIn ([] : List (Value × Value)) PUnit.unit _) _ _ _
      rw [List.forIn_nil]
      refine wpAny_pure ?_
      obtain ⟨ob, es, ep, h1, h2, h3, h4, _, h5⟩ := dd'
      refine ⟨.ref s.heap.objs.size, _, d_write i2 (by rw [e1]; exact True.intro) hs ⟨ob, h1⟩ (ob := .frz ob (.dT [(keyP q, v)])) ⟨h1, by show 1 ≤ sizeLine; decide, hd, _, ?_, ob, es, ep, h1, h2, h3, h4, h5⟩, rfl, hq ob⟩
      have kt := KT.put (H := H2) (kvs := []) (xs := []) .nil (keyP q) hb2 r2
      refine KT.keeps kt fun c ys ec => ?_
      have hc : c ≠ s.heap.objs.size := fun z => by rw [z, e1] at ec; cases ec
      rw [upd_ne hc]
      exact ec
/-- {row: value}, which changes no more -/
theorem e_disp1 (hu : X.A.units + 64 < cLine) (hk : E X ρ k (pwD p)) (he : E X ρ e d) : E X ρ (.Dict [some k] [e] pos) (kvD [(p, d)]) := fun I σ H hx vs Q q => we_disp1 hu fun a ha => by
  have n0 := Nw.own (o := .dT []) hx ha
  have ia : I a = none := fresh_back hx ha
  refine hk I σ _ n0.j vs _ fun y I1 H1 n1 r1 => he I1 σ H1 n1.j (vs.up n1.i) _ fun v I2 H2 n2 r2 => ?_
  obtain ⟨b, rfl, hb⟩ := r1.tupI
  have n12 := n1.trans n2
  obtain ⟨a2, i2⟩ := n12.keep (p := a) (o := .dT []) upd_same ia
  refine ⟨b, p, rfl, a2, n2.j _ _ (n2.i _ _ hb), fun ob => ?_⟩
  have e2 : Ex I2 (upd I2 a (.frz ob (.dT [(keyP p, v)]))) := Ex.new i2
  have nn : Nw I H (upd I2 a (.frz ob (.dT [(keyP p, v)]))) (upd H2 a (.frz ob (.dT [(keyP p, v)]))) := by
    have n3 := n0.trans n12
    refine ⟨n3.i.trans e2, fun c o w => ?_, ex_mut n3.h ha, fun c w z => ?_⟩
    · by_cases hc : c = a
      · subst hc; rw [upd_same] at w ⊢; exact w
      · rw [upd_ne hc] at w ⊢; exact n2.j c o w
    · rw [upd_ne (z.ne ha)]
      exact n3.k c w z
  exact q _ _ _ nn (.dct upd_same (RpKv.ps (.cons (r2.up e2) .nil)))
end

/-! ### calls by keywords alone -/
theorem fun_same {K : PySem.W.Frag} {x y q r : Str} {st st' : Stmt} {f : Addr} {fd fd' : FuncData} (a : Fun K x q st f fd) (b : Fun K y r st' f fd') : fd = fd' := by
  obtain ⟨oc, od, kV, doc, pm, an, cdv, ct, osl, rfl, lk, _⟩ := a.ex
  obtain ⟨oc', od', kV', doc', pm', an', cdv', ct', osl', rfl, lk', _⟩ := b.ex
  rw [lk] at lk'
  injection lk' with h
  injection h with h1 h2 h3 h4
  injection h3
section
variable {X : Cx} {ρ : Ro} {x : Str} {p pos p1 p2 p3 : Pos} {a b c : Expr} {da db dc d : PyData} {k : Nat} {ps : List Str} {R : List PyData → PyData → Prop} {st : Stmt} {ka kb kc : Str} {g : List Value → List Value}
/-- f(k = a, l = b, m = c): g puts what is told into the parameters' order -/
theorem e_callKw3 (D : Dfn X.K X.mg x st) (F : Fn X.prog X.w X.K X.mg X.base x k ps (spP R)) (hr : Room k X.A) (hg : Gl X x) (hps : ps.length = 3)
    (hb : ∀ (kV doc pm : Value) (an : Option Addr) (cdv ct : Value) (u v w : Value), bindArgs (PySem.W.fnOf x x (defArgs st) (defBody st) (defScope st) .none kV doc pm an cdv ct) ⟨[], [(ka, u), (kb, v), (kc, w)]⟩ = pure (ps.zip [w, u, v]))
    (ha : E X ρ a da) (hb2 : E X ρ b db) (hc2 : E X ρ c dc) (hR : R [dc, da, db] d) (hdb : (x == ("__debug__" : Str)) = false := by decide)
    (hall : (backToKw pos (keywordEach [⟨some ka, a, p1⟩, ⟨some kb, b, p2⟩, ⟨some kc, c, p3⟩] X.env)).all (·.1.isSome) = true := by rfl) (hks : (backToKw pos (keywordEach [⟨some ka, a, p1⟩, ⟨some kb, b, p2⟩, ⟨some kc, c, p3⟩] X.env)).filterMap (·.1) = [ka, kb, kc] := by rfl)
    (hpl : ((backTo pos (starEach [] X.env)).any (·.1) || (backToKw pos (keywordEach [⟨some ka, a, p1⟩, ⟨some kb, b, p2⟩, ⟨some kc, c, p3⟩] X.env)).any (·.1.isNone)) = false := by rfl) :
    E X ρ (.Call (.Name x p) [] [⟨some ka, a, p1⟩, ⟨some kb, b, p2⟩, ⟨some kc, c, p3⟩] pos) d := fun I σ H hx vs Q q pins s i => by
  obtain ⟨f, fd, qn, st2, hm, hF, hbi, ok⟩ := F.ex
  obtain ⟨f', fd', hm', hF'⟩ := D
  rw [hm] at hm'
  cases hm'
  have hfd := fun_same hF hF'
  subst hfd
  have kb3 : KBinds X.K fd ps [ka, kb, kc] (fun us ws => match us, ws with | [], [u, v, w] => [w, u, v] | _, _ => []) (fun us ws => match us, ws with | [], [u, v, w] => [w, u, v] | _, _ => []) := by
    refine ⟨fun s us ws _ hl => ?_, fun {vs us zs ws} r1 r2 => ?_⟩
    · obtain ⟨oc, od, kV, doc, pm, an, cdv, ct, osl, rfl, lk, _⟩ := hF'.ex
      match us, ws, hl with
      | [], [u, v, w], _ => exact BindsTo.of_eq (hb kV doc pm an cdv ct u v w)
      | [], [], h => rw [hps] at h; cases h
      | [], [_], h => rw [hps] at h; cases h
      | [], [_, _], h => rw [hps] at h; cases h
      | [], _ :: _ :: _ :: _ :: _, h => rw [hps] at h; cases h
      | _ :: _, _, h => rw [hps] at h; cases h
    · match vs, us, zs, ws, r1, r2 with
      | [], [], [], [], .nil, .nil => exact .nil
      | [], [], [_], [_], .nil, .cons _ .nil => exact .nil
      | [], [], [_, _], [_, _], .nil, .cons _ (.cons _ .nil) => exact .nil
      | [], [], [_, _, _], [_, _, _], .nil, .cons a (.cons b (.cons c .nil)) => exact .cons c (.cons a (.cons b .nil))
      | [], [], _ :: _ :: _ :: _ :: _, _ :: _ :: _ :: _ :: _, .nil, .cons _ (.cons _ (.cons _ (.cons _ _))) => exact .nil
      | _ :: _, _ :: _, _, _, .cons _ _, _ => exact .nil
  refine wpAny_Call_Name_kw (ld_glob i hg hm ?_ hdb)
  refine PySem.W.callWith_KW0 (h₀ := X.base) i.ok.mod.kin hF.kp hall ?_ hpl
  have pk := pk_cons (nm := some ka) (kpos := p1) (pe_we (X := X) (e := a)) (pk_cons (nm := some kb) (kpos := p2) (pe_we (X := X) (e := b)) (pk_cons (nm := some kc) (kpos := p3) (pe_we (X := X) (e := c)) pk_nil))
  refine thn (pk.run pos pins s σ H (fun vs H' => ∃ (I' : Hp) (u v w : V), vs = [u, v, w] ∧ Nw I H I' H' ∧ Rp I' u da ∧ Rp I' v db ∧ Rp I' w dc) i ?_) fun ws s2 ⟨zs, H2, i2, rz, I2, u, v, w, ez, n2, ru, rv, rw'⟩ => ⟨i2.kIn, ?_⟩
  · exact ha I σ H hx vs _ fun u I1 H1 n1 r1 => hb2 I1 σ H1 n1.j (vs.up n1.i) _ fun v I2 H2 n2 r2 => hc2 I2 σ H2 n2.j ((vs.up n1.i).up n2.i) _ fun w I3 H3 n3 r3 =>
      ⟨I3, u, v, w, rfl, (n1.trans n2).trans n3, r1.up (n2.i.trans n3.i), r2.up n3.i, r3⟩
  · subst ez
    rw [hks]
    refine run_fnk (us := []) (vs := []) (Q := Q) ok hr kb3 pass0 i2 .nil rz ?_
    exact ⟨I2, [dc, da, db], d, n2.j, .cons rw' (.cons ru (.cons rv .nil)), hR, fun v I3 H3 n3 r3 => q v I3 H3 (n2.trans n3) r3⟩
end
end R1

set_option Elab.async false
set_option linter.all false
set_option maxRecDepth 100000
set_option maxHeartbeats 4000000
/-! CoreL: dict comprehensions whose keys are rows of numbers. -/
namespace R1
open PySem PySem.Spec PyProof.Rows L2 Evl
section
variable {X : Cx}
theorem rowPut (hu : X.A.units + 1 < cLine) {pn : List (Addr × Obj)} {τ : L2.St} {G : Hp} {z : Shared} {Er : Value → Shared → Prop} {d b : Addr} {ws : List (List Key × V)} {q : List Key} {v : V} {r : Value} {Q : Unit → Shared → Prop}
    (J : Inv X pn τ G z) (gd : G d = some (.dT ws)) (gb : G b = some (.tup (q.map kV))) (room : ws.length < sizeLine) (rv : RelV v r)
    (fine : ∀ z', Inv X pn τ (upd G d (.dT (putK ws q v))) z' → Q () z') : wpAny (model X.prog X.w) X.A (dictSet d (.ref b) r) Q Er z := by
  obtain ⟨zl, nsys, xs, pr, dd⟩ := dt_of J.hok gd
  have few : xs.length ≤ sizeLine := by rw [← Paired.length pr]; exact zl
  have few2 : (putK ws q v).length ≤ sizeLine := by have := length_putK ws q v; omega
  refine wpAny_dictSet_heap (hsz := few) (show X.A.units < cLine by omega) (key_of J.hok gb) dd fun g' dd' same => fine _ ?_
  obtain ⟨o, es, ep, ho, e2, e3, e4, _, e5⟩ := dd'
  refine d_write J (by rw [gd]; exact True.intro) same ⟨o, ho⟩ ⟨few2, nsys, _, (pr.put q gb rv).keeps fun c ys ec => ?_, o, es, ep, ho, e2, e3, e4, e5⟩
  have : c ≠ d := fun w => by rw [w, gd] at ec; cases ec
  rw [upd_ne this]
  exact ec
/-- {key: value for target in iter}, the keys rows of numbers -/
def tRows (wi : TI) (g : TG) (tk tv : TE) (ts : List Nat) : TE := fun σ H Q => wi σ H fun J H1 => ∀ D, H1 D = none → ∃ W : Nat → Nat → Hp → Prop, (∃ m, W 0 m (upd H1 D (.dT []))) ∧
  ∀ i m G, W i m G → (J.stop i G ∧ Q (.ref D) G) ∨ (J.go i G ∧ ∃ Nx : Hp → Prop, (∀ G', Nx G' → ∃ m', m' < m ∧ W (i + 1) m' G') ∧
    ∀ x G', J.yld i G x G' → g x (L2.wipe σ ts) G' fun σ2 G2 => L2.wipe σ2 ts = L2.wipe σ ts ∧
      tk σ2 G2 fun y G3 => tv σ2 G3 fun z G4 => ∃ ws b q, y = .ref b ∧ G4 D = some (.dT ws) ∧ G4 b = some (.tup (q.map kV)) ∧ ws.length < sizeLine ∧ Nx (upd G4 D (.dT (putK ws q z))))
theorem rows_core (hu : X.A.units + 64 < cLine) {pn : List (Addr × Obj)} {s : Shared} {σ : L2.St} {H : Hp} {Q : VK} {kx vx tg iter : Expr} {scope : Scope} {own : List (Str × Nat)} {pos pos' : Pos} {wi : TI} {g : TG} {tk tv : TE} {use : Option (Value → Sem Unit)} {Qf : Value → Shared → Prop}
    (hc : X.calm = true) (hN : X.N.Nodup) (iv : Inv X pn σ H s) (hi : PI X tg iter wi) (ok : BlkOk X.N X.env.scope scope own) (hg : PGb X scope tg g)
    (hk : ∀ (s : Shared) (H : Hp) (C : Addr) (cl : List (Str × Addr)) (fp : List Addr), PE (X.blk s H scope (compEnvC scope cl C X.env) fp) kx tk)
    (hv : ∀ (s : Shared) (H : Hp) (C : Addr) (cl : List (Str × Addr)) (fp : List Addr), PE (X.blk s H scope (compEnvC scope cl C X.env) fp) vx tv) (hs : ∀ x, foldedSetIterable iter X.env x = pure x)
    (h : tRows wi g tk tv (own.map (·.2)) σ H Q)
    (last : ∀ D C z m G, Inv X pn σ G z → Q (.ref D) G → z.heap.Ns C m → FpOk X pn G C → compPost (model X.prog X.w) X.A X.xe use Qf (.ref D) C (.ok .next) z) :
    wpAny (model X.prog X.w) X.A (comprehension (.DictComp kx vx [⟨tg, iter, [], 0⟩] scope pos) scope X.env pos' newDict false (eval iter X.env) use) Qf X.xe s := by
  have cells : ∀ y ∈ scope.names, y.2 = .free → ∃ c, X.env.cells.lookup y.1 = some c := fun y hy e => (ok.free y hy e).elim (fun k => iv.ok.has _ (.inl k)) fun k => iv.ok.has _ (.inr k)
  refine wpAny_comprehension_free (use := use) rfl hs (closure_ok cells) ok.kind (fun y hy e => by rw [ok.uniq y hy, e]) (thn (hi.run pn s σ H _ iv h) fun xv s1 hx => thn hx fun itv s2 h2 => ?_)
  obtain ⟨it, fp, tn, J, H2, rfl, iv2, T, st2, f2, q⟩ := h2
  refine wpAny_newObj_type (newEnv_comp ?_)
  generalize hD : s2.heap.objs.size = D
  have freeD : H2 D = none := iv2.hok.fresh (Nat.le_of_eq hD)
  obtain ⟨W, ⟨m0, w0⟩, turn⟩ := q D freeD
  generalize hz : ({ s2 with heap := s2.heap.push { cls := .type "dict", data := .dict #[] } } : Shared) = z3
  have iv3 : Inv X pn σ (upd H2 D (.dT [])) z3 := by
    subst hz
    refine iv2.laid (t' := s2.toks) (fun b o e => Heap.get?_push_of_some _ e) (Nat.le_of_eq hD) ?_
    rw [← hD]
    exact dt_empty s2.heap iv2.big
  have hp3 : z3.heap = s2.heap.push { cls := .type "dict", data := .dict #[] } := by rw [← hz]
  have below : ∀ b ∈ fp, b < s2.heap.objs.size := fun b hb => let ⟨o, e, _⟩ := T.obj _ _ st2 b hb; Heap.lt_size e
  have f3 : ∀ b ∈ fp, FpOk X pn (upd H2 D (.dT [])) b ∧ b < z3.heap.objs.size := fun b hb => by
    have lt := below b hb
    have ne : b ≠ D := by rw [← hD]; exact Nat.ne_of_lt lt
    refine ⟨⟨by rw [upd_ne ne]; exact (f2 b hb).1, (f2 b hb).2⟩, by rw [hp3, Heap.size_push]; exact Nat.lt_succ_of_lt lt⟩
  have st3 : tn 0 z3.heap := T.keep _ _ _ st2 fun b _ o e => by rw [hp3]; exact Heap.get?_push_of_some _ e
  have iv4 := block_start iv3 ok hN f3
  generalize hcl : cellsFrom (z3.heap.objs.size + 1) scope.names (cloFrom X.env.cells scope.names []) = cl at iv4
  generalize hC : z3.heap.objs.size = C at iv4
  have pg := hg z3 (upd H2 D (.dT [])) C cl fp
  have pk := hk z3 (upd H2 D (.dT [])) C cl fp
  have pv := hv z3 (upd H2 D (.dT [])) C cl fp
  have pt := pts_nil (X := X.blk z3 (upd H2 D (.dT [])) scope (compEnvC scope cl C X.env) fp)
  have none3 : ∀ b ∈ fp, (upd H2 D (.dT [])) b = none := fun b hb => (f3 b hb).1.1
  show codeAny _ _ (.compStart (.DictComp kx vx [⟨tg, iter, [], 0⟩] scope pos) 0 (.ref it) (.ref D) (compEnvC scope cl C X.env)) (compPost (model X.prog X.w) X.A X.xe use Qf (.ref D) C) { z3 with heap := pushCells (z3.heap.push { cls := .type "dict", data := .dict #[] }) scope.names }
  generalize hce : compEnvC scope cl C X.env = ce at iv4 pg pk pv pt ⊢
  have locC : ce.locals = C := by subst hce; rfl
  generalize hG3 : upd H2 D (.dT []) = G3 at iv3 iv4 pg pk pv pt w0 none3 f3
  generalize hz4 : ({ z3 with heap := pushCells (z3.heap.push { cls := .type "dict", data := .dict #[] }) scope.names } : Shared) = z4 at iv4 ⊢
  have st4 : tn 0 z4.heap := T.keep _ _ _ st3 fun b _ o e => by rw [← hz4]; exact pushCells_keeps _ _ _ _ (Heap.get?_push_of_some _ e)
  have still : ∀ {τ : L2.St} {G : Hp} {z : Shared}, Inv (X.blk z3 G3 scope ce fp) [] τ G z → (∀ b ∈ fp, G b = none) → ∀ b ∈ fp, FpOk (X.blk z3 G3 scope ce fp) [] G b := fun {τ G z} J' hn b hb =>
    ⟨hn b hb, (J'.ok.exf b hb).1, J'.ok.exfs b hb, .inl hb, fun x c e => (J'.ok.exf b hb).2 x c e, fun p hp => absurd (show p ∈ ([] : List (Addr × Obj)) ++ [] from hp) (by simp)⟩
  have loop : codeAny (model X.prog X.w) X.A (.compLoop (.DictComp kx vx [⟨tg, iter, [], 0⟩] scope pos) 0 (.ref it) (.ref D) ce) (compPost (model X.prog X.w) X.A X.xe use Qf (.ref D) C) z4 := by
    refine compLoop_anyD (fun n z => ∃ i G, Inv (X.blk z3 G3 scope ce fp) [] (L2.wipe σ (own.map (·.2))) G z ∧ tn i z.heap ∧ (∀ b ∈ fp, G b = none) ∧ W i n G) ?_ m0 ⟨0, G3, iv4, st4, none3, w0⟩
    rintro n z5 ⟨i, G5, iv5, st5, n5, w5⟩
    rcases turn i n G5 w5 with ⟨stop, done⟩ | ⟨go, Nx, onward, step⟩
    · refine thnF (T.done (X.blk z3 G3 scope ce fp) rfl rfl rfl hc i [] z5 _ G5 (fun _ _ => False) iv5 (still iv5 n5) st5 stop) fun r z6 ⟨hr, iv6⟩ => ?_
      subst hr
      have out : Inv X pn σ G5 z6 := iv3.call' (ch := fp) iv6.os iv6.base iv6.hok iv6.bare fun b hb => ⟨(f3 b hb).1.2.2.2.1, (f3 b hb).1.2.1, (f3 b hb).1.2.2.2.2.1, (f3 b hb).1.2.2.2.2.2⟩
      have noneC : G5 C = none := by
        have y : G5 ce.locals = none := iv6.free
        rwa [locC] at y
      obtain ⟨m, hm, _⟩ := iv6.loc
      have hm : z6.heap.Ns ce.locals m := hm
      rw [locC] at hm
      exact last D C z6 m G5 out done hm (iv3.fpOk (Nat.le_of_eq hC) noneC)
    · refine thnF (T.item (X.blk z3 G3 scope ce fp) rfl rfl rfl hc i [] z5 _ G5 (fun _ _ => False) iv5 (still iv5 n5) st5 go) fun r z6 ⟨u, hr, h6⟩ => ?_
      subst hr
      refine thnF h6 fun _ z7 ⟨x, G7, iv7, r7, y7, st7, n7⟩ => ?_
      have pinned := iv7.pinned (still iv7 n7) (T.obj _ _ st7)
      refine thnF (pg.run _ z7 _ G7 x u _ pinned r7 (step x G7 y7)) fun _ z8 ⟨τ8, G8, iv8, wp8, q8⟩ => ?_
      refine thnF (pt.run _ z8 τ8 G8 (fun b G => b = true ∧ tk τ8 G fun y G3 => tv τ8 G3 fun z G4 => ∃ ws b q, y = .ref b ∧ G4 D = some (.dT ws) ∧ G4 b = some (.tup (q.map kV)) ∧ ws.length < sizeLine ∧ Nx (upd G4 D (.dT (putK ws q z)))) iv8 ⟨rfl, q8⟩) fun b z9 ⟨G9, iv9, hb, q9⟩ => ?_
      subst hb
      rw [if_pos rfl]
      refine thnF (pk.run _ z9 τ8 G9 _ iv9 q9) fun kv z10 ⟨yk, G10, iv10, r10, q10⟩ => ?_
      refine thnF (pv.run _ z10 τ8 G10 _ iv10 q10) fun vv z11 ⟨yv, G11, iv11, r11, ws, b, q, ek, gD, gb, room, nx⟩ => ?_
      subst ek
      cases (show kv = Value.ref b from r10)
      refine rowPut (X := X.blk z3 G3 scope ce fp) (show X.A.units + 1 < cLine by omega) iv11 gD gb room r11 fun z12 iv12 => ?_
      obtain ⟨m', lt, w'⟩ := onward _ nx
      have kept : ∀ c ∈ fp, ∀ o, z7.heap.get? c = some o → z12.heap.get? c = some o ∧ (upd G11 D (.dT (putK ws q yv))) c = none := fun c hc o e =>
        let y := iv12.pin (c, o) (List.mem_append_right _ (List.mem_append_right _ (mem_pinsAt hc e)))
        ⟨y.1, y.2.1⟩
      have same : (L2.wipe σ (own.map (·.2))).length = τ8.length := by rw [← wp8, wipe_length]
      refine ⟨m', lt, i + 1, _, (iv12.unpinned (pins := [])).weak same (fun j v e => ?_), T.keep _ _ _ st7 fun c hc o e => (kept c hc o e).1, fun c hc => ?_, w'⟩
      · rw [← wp8] at e
        exact (wipe_some e).1
      · obtain ⟨o, e, _⟩ := T.obj _ _ st7 c hc
        exact (kept c hc o e).2
  exact codeAny_compStart_dict loop (T.self X.A 0 _ _ _ st4 loop)
end
end R1

set_option Elab.async false
set_option linter.all false
set_option maxRecDepth 100000
set_option maxHeartbeats 4000000
/-! CoreR: (..) * n, none and one too. -/
namespace R1
open PySem PySem.Spec PyProof.Rows L2 Evl
theorem tuple_mul1 (l : Addr) (items : Array Value) (n : Nat) (dd : Option Addr) (sl : Array (Option Value)) (u : Tok) :
    Meets (Builtin.«tuple.__mul__» ⟨[.ref l, .int 1 u], []⟩) (fun _ R s => s.heap.get? l = some { cls := .type "tuple", dict := dd, data := .seq items n, slots := sl } ∧ R (.ok (.ret (Value.ref l))) s) :=
  .of_wp fun prog w A R s h => by
    obtain ⟨hp, g, d, tk, os⟩ := s
    obtain ⟨hl, h⟩ := h
    have f1 := AutoSeq1.idx_int
    wp_walk using wpAny_loadPart' hl
    exact ⟨_, rfl, h⟩
theorem tuple_mul0 (l : Addr) (items : Array Value) (n : Nat) (dd : Option Addr) (sl : Array (Option Value)) (u : Tok) :
    Meets (Builtin.«tuple.__mul__» ⟨[.ref l, .int 0 u], []⟩) (fun _ R s => s.heap.get? l = some { cls := .type "tuple", dict := dd, data := .seq items n, slots := sl } ∧ items.isEmpty = false ∧
      R (.ok (.ret (Value.ref s.heap.objs.size))) { s with heap := s.heap.push { cls := Value.type "tuple", data := Data.seq #[] }, toks := s.toks }) :=
  .of_wp fun prog w A R s h => by
    obtain ⟨hp, g, d, tk, os⟩ := s
    obtain ⟨hl, hi, h⟩ := h
    have f1 := AutoSeq1.idx_int
    wp_walk using wpAny_loadPart' hl
    exact ⟨_, rfl, h⟩
def rRep1 (K : PySem.W.Frag) : R2 := fun x y H Q => ∃ l xs, x = .ref l ∧ y = .int 1 ∧ SqT K H l xs ∧ Q (.ref l) H
def rRep0 (K : PySem.W.Frag) : R2 := fun x y H Q => ∃ l xs, x = .ref l ∧ y = .int 0 ∧ SqT K H l xs ∧ xs ≠ [] ∧ ∀ p, H p = none → Q (.ref p) (upd H p (.tup []))
section
variable {X : Cx}
theorem op_rep1 : OpR X (binaryOp .Mult) (rRep1 X.K) := by
  intro pins s σ H x y v u Q I rx ry h
  obtain ⟨l, xs, rfl, rfl, hT, q⟩ := h
  cases rx
  obtain ⟨t, rfl⟩ := ry
  obtain ⟨its, r, ⟨⟨cls, dd, data, sl⟩, ho, hc, n, hd⟩, hs⟩ := I.tuple hT
  simp only at hc hd
  subst hc hd
  exact wpAny_binaryOp_repeat_ref (T := "tuple") (U := "int") (by decide) ⟨_, ho, rfl⟩ (fun s' => typeIs_int s' 1 t) noFill_tuple_mul F.fills_int_mul F.slot_int_rmul repeat_tuple F.slot_int_index.lookup
    (call_meets F.slot_int_rmul (typeIs_int s 1 t) F.entry_int_rmul (F.args_int_rmul_2 _ _) (int_rmul_tuple 1 t l its.toArray n dd sl)
      ⟨ho, rfl, ⟨_, ho, rfl⟩, call_meets F.slot_tuple_mul ⟨_, ho, rfl⟩ F.entry_tuple_mul (F.args_tuple_mul_2 _ _) (tuple_mul1 l its.toArray n dd sl t) ⟨ho, ⟨.ref l, _, I, rfl, q⟩⟩⟩)
theorem op_rep0 : OpR X (binaryOp .Mult) (rRep0 X.K) := by
  intro pins s σ H x y v u Q I rx ry h
  obtain ⟨l, xs, rfl, rfl, hT, hne, q⟩ := h
  cases rx
  obtain ⟨t, rfl⟩ := ry
  obtain ⟨its, r, ⟨⟨cls, dd, data, sl⟩, ho, hc, n, hd⟩, hs⟩ := I.tuple hT
  simp only at hc hd
  subst hc hd
  have hle : its.length = xs.length := r.length.symm
  have hi : its.toArray.isEmpty = false := by
    cases its with
    | nil => exact absurd (List.eq_nil_of_length_eq_zero hle.symm) hne
    | cons a b => rfl
  refine wpAny_binaryOp_repeat_ref (T := "tuple") (U := "int") (by decide) ⟨_, ho, rfl⟩ (fun s' => typeIs_int s' 0 t) noFill_tuple_mul F.fills_int_mul F.slot_int_rmul repeat_tuple F.slot_int_index.lookup
    (call_meets F.slot_int_rmul (typeIs_int s 0 t) F.entry_int_rmul (F.args_int_rmul_2 _ _) (int_rmul_tuple 0 t l its.toArray n dd sl)
      ⟨ho, rfl, ⟨_, ho, rfl⟩, call_meets F.slot_tuple_mul ⟨_, ho, rfl⟩ F.entry_tuple_mul (F.args_tuple_mul_2 _ _) (tuple_mul0 l its.toArray n dd sl t) ⟨ho, hi, ?_⟩⟩)
  refine ⟨.ref s.heap.objs.size, _, I.laid (t' := s.toks) (o := .tup []) (fun b ob q => Heap.get?_push_of_some _ q) (Nat.le_refl _) ?_, rfl, q _ (I.hok.fresh (Nat.le_refl _))⟩
  exact ⟨Nat.zero_le _, [], .nil, IsTup.new _ _⟩
variable {ρ : Ro} {a b : Expr} {ds : List PyData} {pos : Pos} {d : PyData}
/-- (x,) * n -/
theorem e_repT {n : Nat} (ha : E X ρ a (.tuple [d])) (hb : E X ρ b (.int n)) (hl : n ≤ 1000) : E X ρ (.BinOp a .Mult b pos) (.tuple (List.replicate n d)) := by
  match n, hl with
  | 0, _ =>
    exact e_two (pe_op op_rep0 pe_we pe_we) ha hb fun I H hx x y rx ry Q q => by
      cases ry
      cases rx with
      | tup ea ra => exact ⟨_, _, rfl, rfl, SqT.of (hx _ _ ea), (fun z => by subst z; cases ra), fun c hc => q _ _ _ (Nw.new hx hc) (.tup upd_same .nil)⟩
  | 1, _ =>
    exact e_two (pe_op op_rep1 pe_we pe_we) ha hb fun I H hx x y rx ry Q q => by
      cases ry
      cases rx with
      | tup ea ra => exact ⟨_, _, rfl, rfl, SqT.of (hx _ _ ea), q _ I H (.refl hx) (.tup ea ra)⟩
  | n + 2, hl =>
    exact e_two (pe_op op_repT pe_we pe_we) ha hb fun I H hx x y rx ry Q q => by
      cases ry
      cases rx with
      | tup ea ra =>
        have h1 := ra.length
        refine ⟨_, _, _, rfl, rfl, SqT.of (hx _ _ ea), (fun z => by subst z; cases ra), by omega, by omega, by rw [h1]; show 1 ≤ 1000; omega, fun c hc => q _ _ _ (Nw.new hx hc) (.tup upd_same ?_)⟩
        have e : (List.replicate (((n + 2 : Nat) : Int)).toNat [d]).flatten = List.replicate (n + 2) d := by
          have : (((n + 2 : Nat) : Int)).toNat = n + 2 := by omega
          rw [this, List.flatten_replicate_singleton]
        rw [← e]
        exact (rpAll_flat ra _).up (Nw.new hx hc).i
end
end R1

set_option Elab.async false
set_option linter.all false
set_option maxRecDepth 100000
set_option maxHeartbeats 4000000
/-! CoreM: things handed in that change, new things handed back, products of great numbers, lists that shrink. -/
namespace R1
open PySem PySem.Spec PyProof.Rows L2 Evl
/-! ### a thing is changed by a call -/
theorem Fr.touch {S : Addr → Prop} {I0 H0 I H I1 H1 : Hp} {σ : L2.St} {ρ : Ro} {μ : Mo} {α : Nat → Addr} {i : Nat} {md md' : MD} (F : Fr S I0 H0 I H σ ρ μ α) (hp : μ i = some md) (x : Nx (fun a => a = α i) I H I1 H1) (hm : MdAt I1 H1 (α i) md') (hi : I1 (α i) = none) (hn : md.isPen = md'.isPen) : Fr S I0 H0 I1 H1 σ ρ (mu μ i (some md')) α := by
  obtain ⟨a, b, c, d, f⟩ := F.m i _ hp
  have nn : μ i ≠ none := by rw [hp]; exact fun z => nomatch z
  refine ⟨⟨F.x.i.trans x.i, x.j, fun y o ns e => ?_, fun y z => x.s y (F.x.s y z), fun y z => x.t y (F.x.t y z), fun y e z => x.k y (F.x.k y e z) (F.x.t y z)⟩, F.v.up x.i, fun j y e => ?_, fun j k p q r => F.inj j k (fun z => ?_) (fun z => ?_) r⟩
  · have hy : y ≠ α i := fun w => by
      subst w
      cases hq : md.isPen with
      | true => exact ns (f hq)
      | false => rw [d hq] at e; cases e
    exact x.h y o hy (F.x.h y o ns e)
  · by_cases hj : j = i
    · subst hj
      rw [mu_same] at e
      cases e
      exact ⟨a, hm, hi, fun z => d (hn.trans z), fun z => f (hn.trans z)⟩
    · rw [mu_ne hj] at e
      obtain ⟨p1, p2, p3, p4⟩ := F.m j y e
      have hne : α j ≠ α i := fun z => hj (F.inj j i (by rw [e]; exact fun z => nomatch z) nn z)
      obtain ⟨q1, q2⟩ := p2.keepX p3 x hne
      exact ⟨p1, q1, q2, p4⟩
  · by_cases hj : j = i
    · rw [hj] at z; exact nn z
    · rw [mu_ne hj] at p; exact p z
  · by_cases hj : k = i
    · rw [hj] at z; exact nn z
    · rw [mu_ne hj] at q; exact q z
abbrev Kvs := List (List Int × PyData)
/-- a promise: the first argument, a dict, is changed -/
def spM (Pre : List PyData → Kvs → Prop) (R : List PyData → Kvs → Kvs → Prop) : Sp := fun vs H Q _ => ∃ I pa us ds kvs, vs = V.ref pa :: us ∧ Ex I H ∧ MdAt I H pa (.dct kvs) ∧ I pa = none ∧ RpAll I us ds ∧ Pre ds kvs ∧
  ∀ kvs' I' H', Nx (fun a => a = pa) I H I' H' → MdAt I' H' pa (.dct kvs') → I' pa = none → R ds kvs kvs' → Q .non H'
/-- a promise: a new thing is handed back -/
def spN (R : List PyData → MD → Prop) : Sp := fun vs H Q _ => ∃ I ds md, Ex I H ∧ RpAll I vs ds ∧ R ds md ∧ ∀ p o I' H', Nw I H I' H' → H' p = none → MdAt I' (upd H' p o) p md → Q (.ref p) (upd H' p o)
section
variable {X : Cx} {ρ : Ro} {μ μ1 : Mo} {e a b c : Expr} {es : List Expr} {d : PyData} {ds : List PyData} {A : PyData → Prop} {R : PyData → Mo → Prop} {N : Ro → Mo → Prop} {pos p p2 : Pos} {x y : Str} {i j k : Nat} {ps : List Str} {kvs kvs' : Kvs} {rest : List Stmt} {md : MD}
theorem ef_put {Pre : List PyData → Kvs → Prop} {Rr : List PyData → Kvs → Kvs → Prop} (F : Fn X.prog X.w X.K X.mg X.base x k ps (spM Pre Rr)) (hr : Room k X.A) (hg : Gl X x) (hi : μ i = some (.dct kvs)) (hN : X.N[i]? = some y) (hv : Vis X.env.scope y)
    (ha : As X ρ es ds) (hp : Pre ds kvs) (hR : ∀ z, Rr ds kvs z → z = kvs') (hdb : (x == ("__debug__" : Str)) = false := by decide) (hd : (y == ("__debug__" : Str)) = false := by decide) (hcd : (y == ("__classdict__" : Str)) = false := by decide)
    (he : starEach (.Name y p2 :: es) X.env = (false, eval (.Name y p2) X.env) :: starEach es X.env := by rfl) (hpl : (backTo pos (starEach es X.env)).any (·.1) = false := by rfl) :
    Ef X ρ μ (.Call (.Name x p) (.Name y p2 :: es) [] pos) (fun z => z = .none) (mu μ i (some (.dct kvs'))) := fun S I0 H0 I H σ α G Q q => by
  obtain ⟨hs, hm, hn, _, _⟩ := G.m i _ hi
  refine we_call F hr hg (wa_of (pa_cons pe_we pa_wa he) ?_) hdb he hpl
  refine we_of (pe_var hN hv hd hcd) ⟨.ref (α i), hs, ?_⟩
  refine ha I σ H G.e G.v _ fun us I1 H1 n1 r1 => ?_
  have G1 := G.step n1
  obtain ⟨_, hm1, hn1, _, _⟩ := G1.m i _ hi
  refine ⟨I1, α i, us, ds, kvs, rfl, G1.e, hm1, hn1, r1, hp, fun z I2 H2 x2 m2 z2 r2 => ?_⟩
  obtain rfl := hR z r2
  exact q .non .none I2 H2 (G1.touch hi x2 m2 z2 rfl) (n1.i.trans x2.i) .non rfl
theorem en_call {Rr : List PyData → MD → Prop} (F : Fn X.prog X.w X.K X.mg X.base x k ps (spN Rr)) (hr : Room k X.A) (hg : Gl X x) (ha : As X ρ (e :: es) ds) (h : Rr ds md) (hdb : (x == ("__debug__" : Str)) = false := by decide)
    (he : starEach (e :: es) X.env = (false, eval e X.env) :: starEach es X.env := by rfl) (hpl : (backTo pos (starEach es X.env)).any (·.1) = false := by rfl) : EN X ρ (.Call (.Name x p) (e :: es) [] pos) md := fun I σ H hx vs Q q =>
  we_call F hr hg (ha I σ H hx vs _ fun us I1 H1 n1 r1 => ⟨I1, ds, md, n1.j, r1, h, fun p o I2 H2 n2 hp hm => q p o I2 H2 (n1.trans n2) hp hm⟩) hdb he hpl
/-- x.get(k, z), x a dict handed in -/
theorem ef_dgetS (hu : X.A.units + 1 < cLine) {xp apos cpos : Pos} {kx z : Expr} {pw : List Int} {dz : PyData} (hi : μ i = some (.dcs kvs)) (hN : X.N[i]? = some x) (hv : Vis X.env.scope x) (hk : E X ρ kx (pwD pw)) (hz : E X ρ z dz)
    (m : M2 X (.Name x xp) "get" apos kx z cpos := by exact ⟨rfl, rfl, rfl, rfl⟩) (hd : (x == ("__debug__" : Str)) = false := by decide) (hcd : (x == ("__classdict__" : Str)) = false := by decide) :
    Ef X ρ μ (.Call (.Attribute (.Name x xp) "get" apos) [kx, z] [] cpos) (fun d => d = (kvGet kvs pw).getD dz) μ := fun S I0 H0 I H σ α F Q q => by
  obtain ⟨hs, ⟨ws, hw, rk⟩, hn, h0, _⟩ := F.m i _ hi
  refine we_of (pe_dget2 hu (pe_var hN hv hd hcd) pe_we pe_we m) ⟨.ref (α i), hs, α i, rfl, .inr ⟨ws, .inl hw⟩, ?_⟩
  refine hk I σ H F.e F.v _ fun y I1 H1 n1 r1 => hz I1 σ H1 n1.j (F.v.up n1.i) _ fun u I2 H2 n2 r2 => ?_
  obtain ⟨b, rfl, eb⟩ := r1.tupI
  have n3 := n1.trans n2
  have F3 := F.step n3
  obtain ⟨_, ⟨ws', hw', rk'⟩, hn', _, _⟩ := F3.m i _ hi
  refine ⟨valV ws' (keyP pw), dget_of (ob := default) F3.e (.inr hw') (n2.i _ _ eb), ?_⟩
  have g := rk'.get (p := pw)
  cases hg : kvGet kvs pw with
  | none =>
    rw [g.1 hg]
    exact q _ _ I2 H2 F3 n3.i r2 (by rw [hg]; rfl)
  | some d =>
    obtain ⟨v', hv', rv⟩ := g.2 d hg
    rw [hv']
    exact q _ _ I2 H2 F3 n3.i rv (by rw [hg]; rfl)
theorem bk_dputS (hu : X.A.units + 1 < cLine) {pw : List Int} {kx : Expr} {xp pos' : Pos} (h : Ef X ρ μ e A μ1) (hi : μ1 i = some (.dcs kvs)) (hN : X.N[i]? = some x) (hv : Vis X.env.scope x) (hx : E X ρ kx (pwD pw)) (hl : kvs.length < 100000) (k : ∀ d, A d → Bk X ρ (mu μ1 i (some (.dcs (kvPut kvs pw d)))) rest N R)
    (hd : (x == ("__debug__" : Str)) = false := by decide) (hcd : (x == ("__classdict__" : Str)) = false := by decide) (hs : swapsWith e (some (.Subscript (.Name x xp) kx pos')) pos.line X.env = pure false := by rfl) : Bk X ρ μ (.Assign [.Subscript (.Name x xp) kx pos'] e pos :: rest) N R := fun S I0 H0 I H σ α D F qn qr => by
  refine ws_cons (ps_dput hu (pe_var hN hv hd hcd) pe_we pe_we hs) ?_
  refine h S I0 H0 I H σ α F _ fun v d I1 H1 F1 e1 r1 p1 => ?_
  obtain ⟨hs', ⟨ws, hw1, rk⟩, hn, h0, _⟩ := F1.m i _ hi
  refine ⟨.ref (α i), hs', hx I1 σ H1 F1.e F1.v _ fun u I2 H2 n2 r2 => ?_⟩
  obtain ⟨b, rfl, eb⟩ := r2.tupI
  have F2 := F1.step n2
  obtain ⟨_, ⟨ws', hw', rk'⟩, hn', h0', _⟩ := F2.m i _ hi
  refine ⟨α i, upd H2 (α i) (.dT (putK ws' (keyP pw) v)), rfl, DPut.t hw' (by rw [keyP_kV]; exact n2.j _ _ eb) (sz_lt (by rw [rk'.length]; exact hl)), ?_⟩
  exact k d p1 S I0 H0 I2 _ σ α D (F2.put hi (md' := .dcs (kvPut kvs pw d)) ⟨_, upd_same, rk'.put (r1.up n2.i)⟩ rfl) qn qr
/-! ### products of great numbers -/
theorem e_mulX {i j : Int} (ha : E X ρ a (.int i)) (hb : E X ρ b (.int j)) (hc : CMulX i j) : E X ρ (.BinOp a .Mult b pos) (.int (i * j)) := e_opC op_mulX ha hb hc
theorem ef_mulX {P P' : Int → Prop} (ha : Ef X ρ μ a (IntP P) μ1) {μ2 : Mo} (hb : Ef X ρ μ1 b (IntP P') μ2) (hc : ∀ i j, P i → P' j → CMulX i j) : Ef X ρ μ (.BinOp a .Mult b pos) (IntP fun k => ∃ i j, P i ∧ P' j ∧ k = i * j) μ2 := ef_opC op_mulX ha hb hc
/-! ### lists -/
theorem seqIx_nat {n : Int} {l : Nat} (h0 : 0 ≤ n) (h1 : n < l) : seqIndex? n l = some n.toNat := by
  simp [seqIndex?, show ¬ n < 0 by omega, h0, h1]
theorem RpAll.erase {I : Hp} : ∀ {vs : List V} {ds : List PyData} (i : Nat), RpAll I vs ds → RpAll I (vs.eraseIdx i) (ds.eraseIdx i)
  | _, _, _, .nil => .nil
  | _, _, 0, .cons _ hs => hs
  | _, _, i + 1, .cons h hs => .cons h (RpAll.erase i hs)
theorem en_listOf {k : Bool} (hg : Gl X "list") (hm : X.mg "list" = none) (ha : E X ρ a (seqD k ds)) (hs : starEach [a] X.env = [(false, eval a X.env)] := by rfl) : EN X ρ (.Call (.Name "list" p) [a] [] pos) (.lst ds) := fun I σ H hx vs Q q =>
  we_of (pe_callTy call_list_of hg hm PyProof.Rows.boot_list (pa1 hs) (by decide) (by decide) hs rfl) (ha I σ H hx vs _ fun v I1 H1 n1 r => by
    obtain ⟨a, xs, rfl, s, ra, ea⟩ := Rp.seqB (K := X.K) r
    refine ⟨a, xs, rfl, ?_, fun l hl => q l _ I1 H1 n1 hl ⟨xs, upd_same, ra⟩⟩
    cases k with
    | false => exact .inl (ex_l n1.j s)
    | true => exact .inr (ex_t n1.j s))
/-- x, y = two new things that may change -/
theorem bk_parOwn2 {md2 : MD} {px py pt : Pos} {kt : Nat} {k2 : Nat} {pt2 : Pos} (hc : X.calm = true) (hN : X.N.Nodup) (hi : X.N[i]? = some x) (hj : X.N[j]? = some y) (hij : i ≠ j) (hx : X.env.scope.names.lookup x = some .local) (hy : X.env.scope.names.lookup y = some .local)
    (ha : EN X ρ a md) (hb : EN X ρ b md2) (hm : md.isPen = false) (hm2 : md2.isPen = false) (hli : i < ρ.length) (hlj : j < ρ.length) (k : Bk X ((ρ.set i none).set j none) (mu (mu μ i (some md)) j (some md2)) rest N R)
    (hw : swappedStores [.Tuple [.Name x px, .Name y py] kt pt] (.Tuple [a, b] k2 pt2) X.env = pure (some [x, y]) := by rfl) (hs : swapsWithSole [.Tuple [.Name x px, .Name y py] kt pt] (.Tuple [a, b] k2 pt2) pos.line X.env = pure false := by rfl)
    (hst : starEach [a, b] X.env = (false, eval a X.env) :: starEach [b] X.env := by rfl) (hst2 : starEach [b] X.env = [(false, eval b X.env)] := by rfl) :
    Bk X ρ μ (.Assign [.Tuple [.Name x px, .Name y py] kt pt] (.Tuple [a, b] k2 pt2) pos :: rest) N R := fun S I0 H0 I H σ α D F qn qr => by
  refine ws_cons (ps_par hc hN hi hj hij hx hy (pa2 hst hst2) hw hs) ?_
  refine ha I σ H F.e F.v _ fun q o I1 H1 n1 hq m1 => ?_
  have F1 := (F.step n1).own hq m1 hm (i := i) (by rw [F.v.len]; exact hli)
  have own1 := Nw.own (o := o) n1.j hq
  refine hb I1 σ (upd H1 q o) own1.j (F.v.up n1.i) _ fun q2 o2 I2 H2 n2 hq2 m2 => ⟨.ref q, .ref q2, rfl, ?_⟩
  have F2 := (F1.step n2).own hq2 m2 hm2 (i := j) (by rw [List.length_set, F.v.len]; exact hlj)
  exact k S I0 H0 I2 _ _ _ D F2 qn qr
/-- x.append(y.pop(e)) -/
theorem bk_appendPop {es : List PyData} {xp yp apos cpos bpos dpos : Pos} {Pk : Int → Prop} (hij : i ≠ j) (hi : μ i = some (.lst ds)) (hj : μ j = some (.lst es)) (hN : X.N[i]? = some x) (hv : Vis X.env.scope x) (hNy : X.N[j]? = some y) (hvy : Vis X.env.scope y) (h : Ef X ρ μ e (IntP Pk) μ1) (hi1 : μ1 i = some (.lst ds)) (hj1 : μ1 j = some (.lst es))
    (hP : ∀ n, Pk n → 0 ≤ n ∧ n < es.length) (hl : ds.length < 100000) (hle : es.length < 100000) (k : ∀ (n : Nat) d, es[n]? = some d → Bk X ρ (mu (mu μ1 j (some (.lst (es.eraseIdx n)))) i (some (.lst (ds ++ [d])))) rest N R)
    (hd : (x == ("__debug__" : Str)) = false := by decide) (hcd : (x == ("__classdict__" : Str)) = false := by decide) (hdy : (y == ("__debug__" : Str)) = false := by decide) (hcdy : (y == ("__classdict__" : Str)) = false := by decide)
    (hs : swapsWith (.Call (.Attribute (.Name x xp) "append" apos) [.Call (.Attribute (.Name y yp) "pop" bpos) [e] [] dpos] [] cpos) none pos.line X.env = pure false := by rfl)
    (hbase : attributeBase (.Name x xp) "append" X.env (eval (.Name x xp) X.env) = eval (.Name x xp) X.env := by rfl)
    (hfew : ((backTo cpos (starEach [.Call (.Attribute (.Name y yp) "pop" bpos) [e] [] dpos] X.env)).all (fun x => !x.1) && (backToKw cpos (keywordEach [] X.env)).all (fun x => x.1.isSome) && decide ([Expr.Call (.Attribute (.Name y yp) "pop" bpos) [e] [] dpos].length + ([] : List Keyword).length + (if ([] : List Keyword).isEmpty then 0 else 1) < 30)) = true := by rfl)
    (hline : (apos.endLine == cpos.line) = true := by rfl) (hst : starEach [.Call (.Attribute (.Name y yp) "pop" bpos) [e] [] dpos] X.env = [(false, eval (.Call (.Attribute (.Name y yp) "pop" bpos) [e] [] dpos) X.env)] := by rfl)
    (hbase2 : attributeBase (.Name y yp) "pop" X.env (eval (.Name y yp) X.env) = eval (.Name y yp) X.env := by rfl)
    (hfew2 : ((backTo dpos (starEach [e] X.env)).all (fun x => !x.1) && (backToKw dpos (keywordEach [] X.env)).all (fun x => x.1.isSome) && decide ([e].length + ([] : List Keyword).length + (if ([] : List Keyword).isEmpty then 0 else 1) < 30)) = true := by rfl)
    (hline2 : (bpos.endLine == dpos.line) = true := by rfl) (hst2 : starEach [e] X.env = [(false, eval e X.env)] := by rfl) :
    Bk X ρ μ (.Expr (.Call (.Attribute (.Name x xp) "append" apos) [.Call (.Attribute (.Name y yp) "pop" bpos) [e] [] dpos] [] cpos) pos :: rest) N R := fun S I0 H0 I H σ α D F qn qr => by
  obtain ⟨hs', ⟨ws, hw, rk⟩, hn, h0, _⟩ := F.m i _ hi
  obtain ⟨hsj, ⟨wsj, hwj, rkj⟩, hnj, h0j, _⟩ := F.m j _ hj
  refine ws_cons (ps_expr (pe_bm PySem.F.plainAttrs_list PySem.F.slot_list_append PySem.type_list_append mt_append (pe_var hN hv hd hcd)
    (pa_cons (pe_bm PySem.F.plainAttrs_list PySem.F.slot_list_pop PySem.F.type_list_pop mt_popAt (pe_var hNy hvy hdy hcdy) (pa1 hst2) hbase2 hfew2 hline2 hst2 rfl) pa_nil (by rw [hst] <;> rfl)) hbase hfew hline hst rfl) hs) ⟨.ref (α i), hs', .inl ⟨rfl, ws, .inl (.inl hw)⟩, ?_⟩
  refine ⟨.ref (α j), hsj, .inl ⟨rfl, wsj, .inl (.inl hwj)⟩, ?_⟩
  refine h S I0 H0 I H σ α F _ fun v d I1 H1 F1 e1 r1 p1 => ?_
  obtain ⟨n, rfl, pn⟩ := p1
  cases r1
  obtain ⟨n0, n1⟩ := hP n pn
  obtain ⟨_, ⟨wsj', hwj', rkj'⟩, hnj', h0j', _⟩ := F1.m j _ hj1
  obtain ⟨dd, hdd⟩ : ∃ dd, es[n.toNat]? = some dd := ⟨es[n.toNat]'(by omega), List.getElem?_eq_getElem (by omega)⟩
  obtain ⟨vv, hvv, rvv⟩ := rkj'.get hdd
  refine ⟨α j, wsj', n, n.toNat, vv, rfl, rfl, hwj', by omega, by omega, ?_, hvv, ?_⟩
  · rw [rkj'.length]
    exact seqIx_nat n0 n1
  have F2 := F1.put hj1 (md' := .lst (es.eraseIdx n.toNat)) (o := .lst (wsj'.eraseIdx n.toNat)) ⟨_, upd_same, rkj'.erase n.toNat⟩ rfl
  obtain ⟨_, ⟨ws', hw', rk'⟩, hn', h0', _⟩ := F2.m i _ (by rw [mu_ne hij]; exact hi1)
  refine ⟨α i, ws', vv, rfl, rfl, hw', sz_lt (by rw [rk'.length]; exact hl), ?_⟩
  exact k n.toNat dd hdd S I0 H0 I1 _ σ α D (F2.put (i := i) (md := .lst ds) (md' := .lst (ds ++ [dd])) (by rw [mu_ne hij]; exact hi1) ⟨ws' ++ [vv], upd_same, rk'.snoc rvv⟩ rfl) qn qr
end
end R1

set_option Elab.async false
set_option linter.all false
set_option maxRecDepth 100000
set_option maxHeartbeats 4000000
/-! CoreN: dict comprehensions from rows over data; defs that change a dict, defs that hand back a new thing. -/
namespace R1
open PySem PySem.Spec PyProof.Rows L2 Evl
section
variable {X : Cx} {ρ : Ro} {tg iter kx vx : Expr} {ds : List PyData} {scope : Scope} {own : List (Str × Nat)} {pos : Pos} {g : TG} {Kf : PyData → List Int} {Vf : PyData → PyData} {ρ' : PyData → Ro}
def kvF (Kf : PyData → List Int) (Vf : PyData → PyData) (a : Kvs) (d : PyData) : Kvs := kvPut a (Kf d) (Vf d)
theorem kvF_len : ∀ (l : List PyData) (b : Kvs), (l.foldl (kvF Kf Vf) b).length ≤ b.length + l.length
  | [], b => Nat.le_refl _
  | d :: l, b => by
    have h1 := kvF_len l (kvF Kf Vf b d)
    have h2 : (kvF Kf Vf b d).length ≤ b.length + 1 := kvPut_len _ _ _
    show (l.foldl (kvF Kf Vf) (kvF Kf Vf b d)).length ≤ b.length + (l.length + 1)
    omega
def DcP (I H : Hp) (D : Addr) (Kf : PyData → List Int) (Vf : PyData → PyData) (ds : List PyData) (i : Nat) (H' : Hp) : Prop :=
  ∃ I2 ws, Ex I I2 ∧ Ex I2 H' ∧ I2 D = none ∧ H' D = some (.dT ws) ∧ Ex H H' ∧ (∀ a, I a = none → Ob H a → I2 a = none) ∧ RpKv I2 ws ((ds.take i).foldl (kvF Kf Vf) [])
/-- a heap without one place -/
def less (H : Hp) (D : Addr) : Hp := fun a => if a = D then none else H a
theorem less_same {H : Hp} {D : Addr} : less H D D = none := if_pos rfl
theorem upd_less {H : Hp} {D : Addr} {o : HO} (h : H D = some o) : upd (less H D) D o = H := by
  funext a
  by_cases e : a = D
  · rw [e, upd_same, h]
  · rw [upd_ne e]; exact if_neg e
/-- {key: value for .. in ..}, the keys rows of numbers -/
theorem en_dcRows (hu : X.A.units + 64 < cLine) (hc : X.calm = true) (hN : X.N.Nodup) (ok : BlkOk X.N X.env.scope scope own) (hg : PGb X scope tg g) (it : IT X ρ tg iter ds)
    (gt : ∀ d, d ∈ ds → Gt g (own.map (·.2)) (wipeR ρ (own.map (·.2))) d (ρ' d)) (hk : ∀ d, d ∈ ds → Eb X scope (ρ' d) kx (pwD (Kf d))) (he : ∀ d, d ∈ ds → Eb X scope (ρ' d) vx (Vf d)) (hl : ds.length < 100000)
    (hs : ∀ x, foldedSetIterable iter X.env x = pure x := by intro _; rfl) : EN X ρ (.DictComp kx vx [⟨tg, iter, [], 0⟩] scope pos) (.dct (ds.foldl (kvF Kf Vf) [])) := fun I σ H hx vs Q q pins s iv => by
  rw [arm_eval_DictComp]
  refine rows_core (Q := Q) (wi := WI X tg iter) (g := g) (tk := WEb X scope kx) (tv := WEb X scope vx) hu hc hN iv pi_wi ok hg (fun s H C cl fp => ⟨fun pins s' σ H' Q I h => h s H C cl fp pins s' I⟩) (fun s H C cl fp => ⟨fun pins s' σ H' Q I h => h s H C cl fp pins s' I⟩) hs ?_ fun D C s' m H' I' q hn f => ⟨m, hn, fun h'' sb => ?_⟩
  · refine it I σ H hx vs _ fun J I1 H1 n1 ok1 D hD => ?_
    have hD0 : I1 D = none := fresh_back n1.j hD
    refine ⟨fun i m H' => m = ds.length - i ∧ i ≤ ds.length ∧ DcP I1 H1 D Kf Vf ds i H', ⟨ds.length, rfl, Nat.zero_le _, I1, [], Ex.refl _, n1.j.trans (Ex.new hD), hD0, upd_same, Ex.new hD, fun a e _ => e, .nil⟩, ?_⟩
    rintro i m H2 ⟨rfl, hi, I2, ws, a1, a2, a3, a4, a5, a6, a7⟩
    by_cases hlt : i < ds.length
    · refine .inr ⟨ok1.go i I2 H2 a1 a2 trivial hlt, DcP I1 H1 D Kf Vf ds (i + 1), fun H' p' => ⟨ds.length - (i + 1), by omega, rfl, hlt, p'⟩, fun x H3 y => ?_⟩
      obtain ⟨I3, d, n3, hd, rd⟩ := ok1.yld i I2 H2 x H3 a1 a2 trivial hlt y
      have hm : d ∈ ds := List.mem_of_getElem? hd
      refine (gt d hm).run I3 (L2.wipe σ (own.map (·.2))) H3 x n3.j (((vs.up n1.i).up (a1.trans n3.i)).wipe _) rd _ ?_
      intro σ2 vs2 ag hl2
      refine ⟨wipe_same ag hl2, ?_⟩
      have D3 := n3.keep a4 a3
      intro s0 H0 C cl fp
      refine hk d hm s0 H0 C cl fp I3 σ2 H3 n3.j vs2 _ fun yk I4 H4 n4 r4 => ?_
      obtain ⟨b, rfl, eb⟩ := r4.tupI
      have D4 := n4.keep D3.1 D3.2
      intro s0' H0' C' cl' fp'
      refine he d hm s0' H0' C' cl' fp' I4 σ2 H4 n4.j (vs2.up n4.i) _ fun v5 I5 H5 n5 r5 => ?_
      have D5 := n5.keep D4.1 D4.2
      have n45 := n4.trans n5
      have hlen : ws.length < sizeLine := by
        have h1 := a7.length
        have h2 := kvF_len (Kf := Kf) (Vf := Vf) (ds.take i) []
        rw [List.length_nil, List.length_take] at h2
        exact sz_lt (by omega)
      refine ⟨ws, b, keyP (Kf d), rfl, D5.1, by rw [keyP_kV]; exact n5.j _ _ (n5.i _ _ eb), hlen, I5, putK ws (keyP (Kf d)) v5, (a1.trans n3.i).trans n45.i, n5.j.mut D5.2, D5.2, upd_same, ((a5.trans n3.h).trans n45.h).mut hD, fun a e z => ?_, ?_⟩
      · exact n45.k a (n3.k a (a6 a e z) (z.up a5)) (z.up (a5.trans n3.h))
      · rw [List.take_add_one, hd, List.foldl_append]
        exact ((a7.up (n3.i.trans n45.i))).put r5
    · have e : i = ds.length := by omega
      subst e
      rw [List.take_length] at a7
      refine .inl ⟨ok1.stop I2 H2 a1 a2 trivial, ?_⟩
      have nw : Nw I1 H1 I2 (less H2 D) := by
        refine ⟨a1, fun a o z => ?_, fun a o z => ?_, a6⟩
        · have ha : a ≠ D := fun w => by rw [w, a3] at z; cases z
          unfold less
          rw [if_neg ha]
          exact a2 a o z
        · have ha : a ≠ D := fun w => by rw [w, hD] at z; cases z
          unfold less
          rw [if_neg ha]
          exact a5 a o z
      have key := q D (.dT ws) I2 (less H2 D) (n1.trans nw) less_same ⟨ws, upd_same, a7⟩
      rw [upd_less a4] at key
      exact key
  · obtain ⟨f0, f1, f2, f3, f4, f5⟩ := f
    exact ⟨.ref D, H', I'.turned (t' := s'.toks) (fun b o hb e => (sb.2 b hb).trans e) f0 f1 f3 f4 f5, rfl, q⟩
end
/-! ### blocks that hand back a new thing -/
def Bn (X : Cx) (ρ : Ro) (b : List Stmt) (md : MD) : Prop := ∀ (I : Hp) (σ : L2.St) (H : Hp) (D : Ends), Ex I H → VS I σ ρ → (∀ p o I' H', Nw I H I' H' → H' p = none → MdAt I' (upd H' p o) p md → D.rt (.ref p) (upd H' p o)) → WSs X b D σ H
theorem bn_ret {X : Cx} {ρ : Ro} {e : Expr} {md : MD} {pos : Pos} {rest : List Stmt} (h : EN X ρ e md) : Bn X ρ (.Return (some e) pos :: rest) md := fun I σ H D hx vs q => ws_ret (h I σ H hx vs _ q)
section
variable {P : Program} {w : World} {K : PySem.W.Frag} {mg : Str → Option Value} {base : Heap} {x : Str} {st : Stmt} {N ps : List Str} {k : Nat}
theorem fn_new {R : List PyData → MD → Prop} (D : Dfn K mg x st) (S : FnScope N ps (defScope st)) (len : ∀ ds d, R ds d → ds.length = ps.length)
    (hb : ∀ (kV doc pm : Value) (an : Option Addr) (cdv ct : Value) (us : List Value), us.length = ps.length → bindArgs (PySem.W.fnOf x x (defArgs st) (defBody st) (defScope st) .none kV doc pm an cdv ct) ⟨us, []⟩ = pure (ps.zip us))
    (body : ∀ (f : Addr) (cdv : Value) (A : Around) (outer : List Env) (s : Shared) (H : Hp) (E : XK), Room k (A.deeper (envOfC x (defScope st) s.heap.objs.size f cdv)) → ∀ ds md, R ds md →
      Bn (cxB P w K mg base N x st f cdv A outer s H E) (ds.map some ++ List.replicate (N.length - ds.length) none) (defBody st) md) : Fn P w K mg base x (k + 1) ps (spN R) := by
  refine fn_mk D S (fun vs H Q E h => ?_) hb fun f cdv A outer s H E hr vs Q h => ?_
  · obtain ⟨I, ds, d, _, r, hR, _⟩ := h
    rw [r.length]
    exact len ds d hR
  · obtain ⟨I, ds, md, hx, r, hR, q⟩ := h
    refine body f cdv A outer s H E hr ds md hR I (L2.start N vs) H _ hx ?_ q
    unfold L2.start
    rw [r.length]
    exact vs_start _ r
theorem fn_put {Pre : List PyData → Kvs → Prop} {R : List PyData → Kvs → Kvs → Prop} (D : Dfn K mg x st) (S : FnScope N ps (defScope st)) (len : ∀ ds kvs, Pre ds kvs → ds.length + 1 = ps.length)
    (hb : ∀ (kV doc pm : Value) (an : Option Addr) (cdv ct : Value) (us : List Value), us.length = ps.length → bindArgs (PySem.W.fnOf x x (defArgs st) (defBody st) (defScope st) .none kV doc pm an cdv ct) ⟨us, []⟩ = pure (ps.zip us))
    (body : ∀ (f : Addr) (cdv : Value) (A : Around) (outer : List Env) (s : Shared) (H : Hp) (E : XK), Room k (A.deeper (envOfC x (defScope st) s.heap.objs.size f cdv)) → ∀ ds kvs, Pre ds kvs →
      Bk (cxB P w K mg base N x st f cdv A outer s H E) (none :: (ds.map some ++ List.replicate (N.length - (ds.length + 1)) none)) (fun j => if j = 0 then some (.dcs kvs) else none) (defBody st) (fun _ μ' => ∃ kvs', R ds kvs kvs' ∧ μ' 0 = some (.dcs kvs')) (fun _ _ => False)) :
    Fn P w K mg base x (k + 1) ps (spM Pre R) := by
  refine fn_mk D S (fun vs H Q E h => ?_) hb fun f cdv A outer s H E hr vs Q h => ?_
  · obtain ⟨I, pa, us, ds, n, rfl, _, _, _, r, hp, _⟩ := h
    rw [List.length_cons, r.length]
    exact len ds n hp
  · obtain ⟨I, pa, us, ds, kvs, rfl, hx, hm, hi, r, hp, q⟩ := h
    have F : Fr (fun a => a = pa) I H I H (L2.start N (.ref pa :: us)) (none :: (ds.map some ++ List.replicate (N.length - (ds.length + 1)) none)) (fun j => if j = 0 then some (.dcs kvs) else none) (fun _ => pa) := by
      refine ⟨Nx.refl hx, ?_, fun i md e => ?_, fun i j a b _ => ?_⟩
      · unfold L2.start
        rw [List.map_cons, List.cons_append, List.length_cons, r.length]
        exact vs_cons (vs_start _ r)
      · by_cases h0 : i = 0
        · subst h0
          rw [if_pos rfl] at e
          cases e
          exact ⟨rfl, hm, hi, fun z => (nomatch z), fun _ => rfl⟩
        · rw [if_neg h0] at e
          cases e
      · by_cases h0 : i = 0
        · by_cases h1 : j = 0
          · rw [h0, h1]
          · exact absurd (if_neg h1) b
        · exact absurd (if_neg h0) a
    refine body f cdv A outer s H E hr ds kvs hp _ I H I H _ _ _ F (fun I' H' σ' ρ' μ' α' F' e => ?_) fun _ _ _ _ _ _ _ _ _ _ z => z.elim
    obtain ⟨kvs', hR, h0⟩ := e
    obtain ⟨_, m1, m2, _, m4⟩ := F'.m 0 _ h0
    have e0 : α' 0 = pa := m4 rfl
    rw [e0] at m1 m2
    exact q kvs' I' H' F'.x m1 m2 hR
end
end R1

set_option Elab.async false
set_option linter.all false
set_option maxRecDepth 100000
set_option maxHeartbeats 4000000
/-! CoreO: dict(..) as a thing that may change, items of such a dict, slices of tuples, unpacking of lists, calls by keywords. -/
namespace R1
open PySem PySem.Spec PyProof.Rows L2 Evl
section
variable {X : Cx}
def rDictOfN (K : PySem.W.Frag) : List V → Hp → VK → Prop := fun vs H Q => ∃ (l : Addr) (xs : List V) (I : Hp) (kvs : List (List Int × PyData)), vs = [V.ref l] ∧ SqL K H l xs ∧ Ex I H ∧ RpAll I xs (kvs.map fun q => .tuple [pwD q.1, q.2]) ∧
  ∀ (p : Addr) (ws : List (List L2.Key × V)), RpKv I ws (kvAll kvs) → H p = none → Q (.ref p) (upd H p (.dT ws))
theorem upd_upd {H : Hp} {p : Addr} {o o' : HO} : upd (upd H p o) p o' = upd H p o' := by
  funext a
  by_cases e : a = p
  · rw [e, upd_same, upd_same]
  · rw [upd_ne e, upd_ne e, upd_ne e]
theorem cr_dictOfN (hu : X.A.units + 64 < cLine) (hc : X.calm = true) : CallR X (.type "dict") (rDictOfN X.K) := by
  intro pins s σ H vs us Q i r h
  obtain ⟨l, xs, I0, kvs, rfl, hs, hx, hr, q⟩ := h
  refine thn (cr_dictOf hu hc pins s σ H [.ref l] us (fun v H' => ∃ p ob ws, v = .ref p ∧ H p = none ∧ H' = upd H p (.frz ob (.dT ws)) ∧ Q (.ref p) (upd H p (.dT ws))) i r ⟨l, xs, I0, kvs, rfl, hs, hx, hr, fun p ob ws rw hp => ⟨p, ob, ws, rfl, hp, rfl, q p ws rw hp⟩⟩) fun v s1 ⟨x, H1, I1, r1, p, ob, ws, e1, hp, e2, q1⟩ => ?_
  subst e1 e2
  refine ⟨.ref p, upd H p (.dT ws), ?_, r1, q1⟩
  have hn : ∀ o' u', X.H_0 p ≠ some (.frz o' u') := fun o' u' e => by
    have := i.base.frzs p o' u' e
    rw [hp] at this
    cases this
  have I2 := I1.unlock upd_same hn
  rw [upd_upd] at I2
  exact I2
variable {ρ : Ro} {μ μ1 μ2 : Mo} {e a b c : Expr} {es : List Expr} {d : PyData} {ds : List PyData} {A : PyData → Prop} {R : PyData → Mo → Prop} {N : Ro → Mo → Prop} {pos p p2 : Pos} {x y : Str} {i j : Nat} {rest : List Stmt} {kvs : Kvs}
/-- dict([(row, value), ..]) -/
theorem en_dictOf (hu : X.A.units + 64 < cLine) (hc : X.calm = true) (hg : Gl X "dict") (hm : X.mg "dict" = none) (ha : E X ρ a (.list (kvs.map fun q => .tuple [pwD q.1, q.2]))) (hs : starEach [a] X.env = [(false, eval a X.env)] := by rfl) :
    EN X ρ (.Call (.Name "dict" p) [a] [] pos) (.dct (kvAll kvs)) := fun I σ H hx vs Q q =>
  we_of (pe_callTy (cr_dictOfN hu hc) hg hm (by decide +kernel) (pa1 hs) (by decide) (by decide) hs rfl) (ha I σ H hx vs _ fun v I1 H1 n1 r => by
    cases r with
    | lst ea ra => exact ⟨_, _, I1, kvs, rfl, SqL.of (n1.j _ _ ea), n1.j, ra, fun p ws rw hp => q p _ I1 H1 n1 hp ⟨ws, upd_same, rw⟩⟩)
/-- x[k], x a dict that may change, k there -/
theorem ef_dsub (hu : X.A.units + 1 < cLine) {xp : Pos} {kx : Expr} {pw : List Int} (hi : μ i = some (.dct kvs)) (hN : X.N[i]? = some x) (hv : Vis X.env.scope x) (hk : E X ρ kx (pwD pw)) (hg : kvGet kvs pw = some d) (hs : NoSl kx := by intro _ _; rfl)
    (hd : (x == ("__debug__" : Str)) = false := by decide) (hcd : (x == ("__classdict__" : Str)) = false := by decide) :
    Ef X ρ μ (.Subscript (.Name x xp) kx pos) (fun z => z = d) μ := fun S I0 H0 I H σ α F Q q => by
  obtain ⟨hs', ⟨ws, hw, rk⟩, hn, h0, _⟩ := F.m i _ hi
  refine we_of (pe_dget hu (pe_var hN hv hd hcd) pe_we hs) ⟨.ref (α i), hs', hk I σ H F.e F.v _ fun y I1 H1 n1 r1 => ?_⟩
  obtain ⟨b, rfl, eb⟩ := r1.tupI
  have F3 := F.step n1
  obtain ⟨_, ⟨ws', hw', rk'⟩, hn', _, _⟩ := F3.m i _ hi
  obtain ⟨v', hv', rv⟩ := (rk'.get (p := pw)).2 d hg
  refine ⟨α i, v', rfl, ?_, q v' d I1 H1 F3 n1.i rv rfl⟩
  rw [← hv']
  exact dget_of (ob := default) F3.e (.inr hw') eb
/-- k not in x, x a dict that may change -/
theorem tf_dnotin (hu : X.A.units + 1 < cLine) {xp : Pos} {kx : Expr} {pw : List Int} (hi : μ i = some (.dct kvs)) (hN : X.N[i]? = some x) (hv : Vis X.env.scope x) (hk : E X ρ kx (pwD pw)) (hd : (x == ("__debug__" : Str)) = false := by decide) (hcd : (x == ("__classdict__" : Str)) = false := by decide) :
    Tf X ρ μ (.Compare kx [.NotIn] [.Name x xp] pos) (fun z => z = (kvGet kvs pw).isNone) μ := fun S I0 H0 I H σ α F Q q => by
  obtain ⟨hs', ⟨ws, hw, rk⟩, hn, h0, _⟩ := F.m i _ hi
  refine wt_of (pt_cmp (pc_dnotin hu pe_we (pe_var hN hv hd hcd))) (hk I σ H F.e F.v _ fun y I1 H1 n1 r1 => ⟨.ref (α i), hs', ?_⟩)
  obtain ⟨b, rfl, eb⟩ := r1.tupI
  have F3 := F.step n1
  obtain ⟨_, ⟨ws', hw', rk'⟩, hn', _, _⟩ := F3.m i _ hi
  refine ⟨α i, valV ws' (keyP pw), rfl, dget_of (ob := default) F3.e (.inr hw') eb, _, rfl, ?_⟩
  have g := rk'.get (p := pw)
  refine q _ I1 H1 F3 n1.i ?_
  cases hg : kvGet kvs pw with
  | none => rw [g.1 hg]; rfl
  | some d =>
    obtain ⟨v', hv', rv⟩ := g.2 d hg
    rw [hv']
    rfl
/-- t[:n] of a tuple, n written -/
theorem e_upT {n : Nat} {j : Nat} {p1 p2 : Pos} (ha : E X ρ a (.tuple ds)) : E X ρ (.Subscript a (.Slice none (some (.Constant (.int (n : Nat)) j p1)) none p2) pos) (.tuple (ds.take n)) :=
  e_of (pe_slice sl_tupA pe_we po_none (po_some pe_int)) fun I σ H hx vs Q k => ha I σ H hx vs _ fun v I1 H1 n1 r1 => by
    cases r1 with
    | tup ea ra =>
      rename_i ad xs
      refine ⟨(n : Int), rfl, ?_⟩
      have hl := ra.length
      have e : cutV xs none (some (n : Int)) = xs.take n := by
        unfold cutV
        rw [HT.sIx_nat, HT.sIx_none, List.drop_zero, Nat.sub_zero]
        by_cases h : n ≤ xs.length
        · rw [Nat.min_eq_left h]
        · rw [Nat.min_eq_right (by omega), List.take_length, List.take_of_length_le (by omega)]
      refine ⟨_, _, rfl, SqT.of (n1.j _ _ ea), fun hw => ?_, fun hw q hq => ?_⟩
      · have e2 : xs.take n = xs := by
          have := hw.2
          rw [HT.sIx_nat] at this
          exact List.take_of_length_le (by omega)
        have e3 : ds.take n = ds := by
          have := hw.2
          rw [HT.sIx_nat] at this
          exact List.take_of_length_le (by omega)
        exact k _ _ _ n1 (by rw [e3]; exact .tup ea ra)
      · rw [e]
        exact k _ _ _ (n1.trans (Nw.new n1.j hq)) (.tup upd_same ((ra.take n).up (Nw.new (o := .tup (xs.take n)) n1.j hq).i))
/-- x, y = a list of two -/
theorem gt_unl2 {K : PySem.W.Frag} {i j : Nat} {ts : List Nat} {ρ : Ro} {d f : PyData} (hi : i ∈ ts) (hj : j ∈ ts) : Gt (gUnl K 2 (gCons (gName i) (gCons (gName j) gNil))) ts ρ (.list [d, f]) ((ρ.set i (some d)).set j (some f)) := by
  refine ⟨fun I σ H v hx vs r Q q => ?_⟩
  cases r with
  | lst ha hs =>
    cases hs with
    | cons h1 h2 =>
      cases h2 with
      | cons h2 h3 =>
        cases h3
        refine ⟨_, _, rfl, SqL.of (hx _ _ ha), rfl, _, _, rfl, _, _, rfl, rfl, ?_⟩
        exact q _ ((vs.set h1).set h2) (fun k hk => by rw [set_other hj k hk, set_other hi k hk]) (by rw [List.length_set, List.length_set])
theorem bk_unl2 {px py pt : Pos} {kt : Nat} {P : PyData → PyData → Prop} (hc : X.calm = true) (hN : X.N.Nodup) (hi : X.N[i]? = some x) (hj : X.N[j]? = some y) (hx : Loc X.env.scope x) (hy : Loc X.env.scope y)
    (h : Ef X ρ μ e A μ1) (hA : ∀ d, A d → ∃ a b, d = .list [a, b] ∧ P a b) (k : ∀ a b, P a b → Bk X ((ρ.set i (some a)).set j (some b)) (mu (mu μ1 i none) j none) rest N R)
    (hw : swappedStores [.Tuple [.Name x px, .Name y py] kt pt] e X.env = pure none := by rfl) (hs : swapsWithSole [.Tuple [.Name x px, .Name y py] kt pt] e pos.line X.env = pure false := by rfl)
    (hfx : X.fn x = true ∨ X.env.scope.names.lookup x = some .local := by first | exact .inl rfl | exact .inr rfl | assumption) (hfy : X.fn y = true ∨ X.env.scope.names.lookup y = some .local := by first | exact .inl rfl | exact .inr rfl | assumption)
    (h1 : (assignEach [.Tuple [.Name x px, .Name y py] kt pt] X.env).map (·.2) = [assign (.Tuple [.Name x px, .Name y py] kt pt) X.env] := by rfl)
    (hn : (assignEach [.Name x px, .Name y py] X.env).length = 2 := by rfl) (hst : (assignEach [.Name x px, .Name y py] X.env).findIdx? (·.1) = none := by rfl) :
    Bk X ρ μ (.Assign [.Tuple [.Name x px, .Name y py] kt pt] e pos :: rest) N R := fun S I0 H0 I H σ α D F qn qr => by
  refine ws_cons (ps_asg pe_we (pg_unl hc (pgs_cons (pg_name (i := i) hN hi hx hfx) (pgs_cons (pg_name (i := j) hN hj hy hfy) pgs_nil)) hn hst) hs hw h1) ?_
  refine h S I0 H0 I H σ α F _ fun v d I1 H1 F1 e1 r1 p1 => ?_
  obtain ⟨da, db, rfl, hP⟩ := hA d p1
  cases r1 with
  | lst ea ra =>
    cases ra with
    | cons h1 h2 =>
      cases h2 with
      | cons h2 h3 =>
        cases h3
        refine ⟨_, _, rfl, SqL.of (F1.e _ _ ea), rfl, _, _, rfl, _, _, rfl, rfl, ?_⟩
        exact k da db hP S I0 H0 I1 H1 _ α D ((F1.set h1).set h2) qn qr
end
/-! ### shapes -/
theorem canAll_of : ∀ {es : List PyData}, (∀ d ∈ es, PyData.canLay0 d = true) → PyData.canLayAll0 es = true
  | [], _ => rfl
  | d :: es, h => by
    show (PyData.canLay0 d && PyData.canLayAll0 es) = true
    rw [h d (.head _), canAll_of fun x hx => h x (.tail _ hx)]
    rfl
theorem depthAll_of {n : Nat} : ∀ {es : List PyData}, (∀ d ∈ es, PyData.depth d ≤ n) → PyData.depthAll es ≤ n
  | [], _ => Nat.zero_le _
  | d :: es, h => by
    show max (PyData.depth d) (PyData.depthAll es) ≤ n
    exact Nat.max_le.mpr ⟨h d (.head _), depthAll_of fun x hx => h x (.tail _ hx)⟩
/-- shaped, with room above -/
def Shp (d : PyData) : Prop := PyData.canLay0 d = true ∧ PyData.depth d ≤ 20
theorem shaped_list {es : List PyData} (h : ∀ d ∈ es, Shp d) : SeqAt.shaped (.list es) = true := by
  have h1 : PyData.canLay0 (.list es) = true := canAll_of fun d hd => (h d hd).1
  have h2 : PyData.depth (.list es) ≤ 64 := by
    show PyData.depthAll es + 1 ≤ 64
    have := depthAll_of (n := 20) fun d hd => (h d hd).2
    omega
  unfold SeqAt.shaped
  rw [h1, decide_eq_true h2]
  rfl
theorem shaped_tuple {es : List PyData} (h : ∀ d ∈ es, Shp d) : SeqAt.shaped (.tuple es) = true := by
  have h1 : PyData.canLay0 (.tuple es) = true := canAll_of fun d hd => (h d hd).1
  have h2 : PyData.depth (.tuple es) ≤ 64 := by
    show PyData.depthAll es + 1 ≤ 64
    have := depthAll_of (n := 20) fun d hd => (h d hd).2
    omega
  unfold SeqAt.shaped
  rw [h1, decide_eq_true h2]
  rfl
/-! ### calls by keywords alone -/
section
variable {X : Cx} {ρ : Ro} {x : Str} {p pos p1 p2 p3 : Pos} {a b c : Expr} {da db dc d : PyData} {k : Nat} {ps : List Str} {R : List PyData → PyData → Prop} {st : Stmt} {ka kb kc : Str} {g : List Value → List Value}
/-- f(k = a, l = b), told in the parameters' order -/
theorem e_callKw2 (D : Dfn X.K X.mg x st) (F : Fn X.prog X.w X.K X.mg X.base x k ps (spP R)) (hr : Room k X.A) (hg : Gl X x) (hps : ps.length = 2)
    (hb : ∀ (kV doc pm : Value) (an : Option Addr) (cdv ct : Value) (u v : Value), bindArgs (PySem.W.fnOf x x (defArgs st) (defBody st) (defScope st) .none kV doc pm an cdv ct) ⟨[], [(ka, u), (kb, v)]⟩ = pure (ps.zip [u, v]))
    (ha : E X ρ a da) (hb2 : E X ρ b db) (hR : R [da, db] d) (hdb : (x == ("__debug__" : Str)) = false := by decide)
    (hall : (backToKw pos (keywordEach [⟨some ka, a, p1⟩, ⟨some kb, b, p2⟩] X.env)).all (·.1.isSome) = true := by rfl) (hks : (backToKw pos (keywordEach [⟨some ka, a, p1⟩, ⟨some kb, b, p2⟩] X.env)).filterMap (·.1) = [ka, kb] := by rfl)
    (hpl : ((backTo pos (starEach [] X.env)).any (·.1) || (backToKw pos (keywordEach [⟨some ka, a, p1⟩, ⟨some kb, b, p2⟩] X.env)).any (·.1.isNone)) = false := by rfl) :
    E X ρ (.Call (.Name x p) [] [⟨some ka, a, p1⟩, ⟨some kb, b, p2⟩] pos) d := fun I σ H hx vs Q q pins s i => by
  obtain ⟨f, fd, qn, st2, hm, hF, hbi, ok⟩ := F.ex
  obtain ⟨f', fd', hm', hF'⟩ := D
  rw [hm] at hm'
  cases hm'
  have hfd := fun_same hF hF'
  subst hfd
  have kb3 : KBinds X.K fd ps [ka, kb] (fun us ws => match us, ws with | [], [u, v] => [u, v] | _, _ => []) (fun us ws => match us, ws with | [], [u, v] => [u, v] | _, _ => []) := by
    refine ⟨fun s us ws _ hl => ?_, fun {vs us zs ws} r1 r2 => ?_⟩
    · obtain ⟨oc, od, kV, doc, pm, an, cdv, ct, osl, rfl, lk, _⟩ := hF'.ex
      match us, ws, hl with
      | [], [u, v], _ => exact BindsTo.of_eq (hb kV doc pm an cdv ct u v)
      | [], [], h => rw [hps] at h; cases h
      | [], [_], h => rw [hps] at h; cases h
      | [], _ :: _ :: _ :: _, h => rw [hps] at h; cases h
      | _ :: _, _, h => rw [hps] at h; cases h
    · match vs, us, zs, ws, r1, r2 with
      | [], [], [], [], .nil, .nil => exact .nil
      | [], [], [_], [_], .nil, .cons _ .nil => exact .nil
      | [], [], [_, _], [_, _], .nil, .cons a (.cons b .nil) => exact .cons a (.cons b .nil)
      | [], [], _ :: _ :: _ :: _, _ :: _ :: _ :: _, .nil, .cons _ (.cons _ (.cons _ _)) => exact .nil
      | _ :: _, _ :: _, _, _, .cons _ _, _ => exact .nil
  refine wpAny_Call_Name_kw (ld_glob i hg hm ?_ hdb)
  refine PySem.W.callWith_KW0 (h₀ := X.base) i.ok.mod.kin hF.kp hall ?_ hpl
  have pk := pk_cons (nm := some ka) (kpos := p1) (pe_we (X := X) (e := a)) (pk_cons (nm := some kb) (kpos := p2) (pe_we (X := X) (e := b)) pk_nil)
  refine thn (pk.run pos pins s σ H (fun vs H' => ∃ (I' : Hp) (u v : V), vs = [u, v] ∧ Nw I H I' H' ∧ Rp I' u da ∧ Rp I' v db) i ?_) fun ws s2 ⟨zs, H2, i2, rz, I2, u, v, ez, n2, ru, rv⟩ => ⟨i2.kIn, ?_⟩
  · exact ha I σ H hx vs _ fun u I1 H1 n1 r1 => hb2 I1 σ H1 n1.j (vs.up n1.i) _ fun v I2 H2 n2 r2 => ⟨I2, u, v, rfl, n1.trans n2, r1.up n2.i, r2⟩
  · subst ez
    rw [hks]
    refine run_fnk (us := []) (vs := []) (Q := Q) ok hr kb3 pass0 i2 .nil rz ?_
    exact ⟨I2, [da, db], d, n2.j, .cons ru (.cons rv .nil), hR, fun v I3 H3 n3 r3 => q v I3 H3 (n2.trans n3) r3⟩
/-- f(l3 = a, l1 = b, l2 = c) -/
theorem e_callKw3c (D : Dfn X.K X.mg x st) (F : Fn X.prog X.w X.K X.mg X.base x k ps (spP R)) (hr : Room k X.A) (hg : Gl X x) (hps : ps.length = 3)
    (hb : ∀ (kV doc pm : Value) (an : Option Addr) (cdv ct : Value) (u v w : Value), bindArgs (PySem.W.fnOf x x (defArgs st) (defBody st) (defScope st) .none kV doc pm an cdv ct) ⟨[], [(ka, u), (kb, v), (kc, w)]⟩ = pure (ps.zip [v, w, u]))
    (ha : E X ρ a da) (hb2 : E X ρ b db) (hc2 : E X ρ c dc) (hR : R [db, dc, da] d) (hdb : (x == ("__debug__" : Str)) = false := by decide)
    (hall : (backToKw pos (keywordEach [⟨some ka, a, p1⟩, ⟨some kb, b, p2⟩, ⟨some kc, c, p3⟩] X.env)).all (·.1.isSome) = true := by rfl) (hks : (backToKw pos (keywordEach [⟨some ka, a, p1⟩, ⟨some kb, b, p2⟩, ⟨some kc, c, p3⟩] X.env)).filterMap (·.1) = [ka, kb, kc] := by rfl)
    (hpl : ((backTo pos (starEach [] X.env)).any (·.1) || (backToKw pos (keywordEach [⟨some ka, a, p1⟩, ⟨some kb, b, p2⟩, ⟨some kc, c, p3⟩] X.env)).any (·.1.isNone)) = false := by rfl) :
    E X ρ (.Call (.Name x p) [] [⟨some ka, a, p1⟩, ⟨some kb, b, p2⟩, ⟨some kc, c, p3⟩] pos) d := fun I σ H hx vs Q q pins s i => by
  obtain ⟨f, fd, qn, st2, hm, hF, hbi, ok⟩ := F.ex
  obtain ⟨f', fd', hm', hF'⟩ := D
  rw [hm] at hm'
  cases hm'
  have hfd := fun_same hF hF'
  subst hfd
  have kb3 : KBinds X.K fd ps [ka, kb, kc] (fun us ws => match us, ws with | [], [u, v, w] => [v, w, u] | _, _ => []) (fun us ws => match us, ws with | [], [u, v, w] => [v, w, u] | _, _ => []) := by
    refine ⟨fun s us ws _ hl => ?_, fun {vs us zs ws} r1 r2 => ?_⟩
    · obtain ⟨oc, od, kV, doc, pm, an, cdv, ct, osl, rfl, lk, _⟩ := hF'.ex
      match us, ws, hl with
      | [], [u, v, w], _ => exact BindsTo.of_eq (hb kV doc pm an cdv ct u v w)
      | [], [], h => rw [hps] at h; cases h
      | [], [_], h => rw [hps] at h; cases h
      | [], [_, _], h => rw [hps] at h; cases h
      | [], _ :: _ :: _ :: _ :: _, h => rw [hps] at h; cases h
      | _ :: _, _, h => rw [hps] at h; cases h
    · match vs, us, zs, ws, r1, r2 with
      | [], [], [], [], .nil, .nil => exact .nil
      | [], [], [_], [_], .nil, .cons _ .nil => exact .nil
      | [], [], [_, _], [_, _], .nil, .cons _ (.cons _ .nil) => exact .nil
      | [], [], [_, _, _], [_, _, _], .nil, .cons a (.cons b (.cons c .nil)) => exact .cons b (.cons c (.cons a .nil))
      | [], [], _ :: _ :: _ :: _ :: _, _ :: _ :: _ :: _ :: _, .nil, .cons _ (.cons _ (.cons _ (.cons _ _))) => exact .nil
      | _ :: _, _ :: _, _, _, .cons _ _, _ => exact .nil
  refine wpAny_Call_Name_kw (ld_glob i hg hm ?_ hdb)
  refine PySem.W.callWith_KW0 (h₀ := X.base) i.ok.mod.kin hF.kp hall ?_ hpl
  have pk := pk_cons (nm := some ka) (kpos := p1) (pe_we (X := X) (e := a)) (pk_cons (nm := some kb) (kpos := p2) (pe_we (X := X) (e := b)) (pk_cons (nm := some kc) (kpos := p3) (pe_we (X := X) (e := c)) pk_nil))
  refine thn (pk.run pos pins s σ H (fun vs H' => ∃ (I' : Hp) (u v w : V), vs = [u, v, w] ∧ Nw I H I' H' ∧ Rp I' u da ∧ Rp I' v db ∧ Rp I' w dc) i ?_) fun ws s2 ⟨zs, H2, i2, rz, I2, u, v, w, ez, n2, ru, rv, rw'⟩ => ⟨i2.kIn, ?_⟩
  · exact ha I σ H hx vs _ fun u I1 H1 n1 r1 => hb2 I1 σ H1 n1.j (vs.up n1.i) _ fun v I2 H2 n2 r2 => hc2 I2 σ H2 n2.j ((vs.up n1.i).up n2.i) _ fun w I3 H3 n3 r3 =>
      ⟨I3, u, v, w, rfl, (n1.trans n2).trans n3, r1.up (n2.i.trans n3.i), r2.up n3.i, r3⟩
  · subst ez
    rw [hks]
    refine run_fnk (us := []) (vs := []) (Q := Q) ok hr kb3 pass0 i2 .nil rz ?_
    exact ⟨I2, [db, dc, da], d, n2.j, .cons rv (.cons rw' (.cons ru .nil)), hR, fun v I3 H3 n3 r3 => q v I3 H3 (n2.trans n3) r3⟩
end
end R1

set_option Elab.async false
set_option linter.all false
set_option maxRecDepth 100000
set_option maxHeartbeats 4000000
/-! CoreJ: three names at once. -/
namespace R1
open PySem PySem.Spec PyProof.Rows L2 Evl
section
variable {X : Cx} {ρ : Ro} {μ : Mo} {a b c : Expr} {da db dc : PyData} {R : PyData → Mo → Prop} {N : Ro → Mo → Prop} {pos : Pos} {x y z : Str} {i j l : Nat} {rest : List Stmt}
theorem pa3 (hs : starEach [a, b, c] X.env = (false, eval a X.env) :: starEach [b, c] X.env) (hs2 : starEach [b, c] X.env = (false, eval b X.env) :: starEach [c] X.env) (hs3 : starEach [c] X.env = [(false, eval c X.env)]) : PA X [a, b, c] (tCons (WE X a) (tCons (WE X b) (tCons (WE X c) tNil))) := pa_cons pe_we (pa2 hs2 hs3) hs
theorem bk_par3 {px py pz pt : Pos} {kt : Nat} {k2 : Nat} {pt2 : Pos} (hc : X.calm = true) (hN : X.N.Nodup) (hi : X.N[i]? = some x) (hj : X.N[j]? = some y) (hl : X.N[l]? = some z) (hij : i ≠ j) (hil : i ≠ l) (hjl : j ≠ l)
    (hx : X.env.scope.names.lookup x = some .local) (hy : X.env.scope.names.lookup y = some .local) (hz : X.env.scope.names.lookup z = some .local)
    (ha : E X ρ a da) (hb : E X ρ b db) (hc3 : E X ρ c dc) (k : Bk X (((ρ.set i (some da)).set j (some db)).set l (some dc)) (mu (mu (mu μ i none) j none) l none) rest N R)
    (hw : swappedStores [.Tuple [.Name x px, .Name y py, .Name z pz] kt pt] (.Tuple [a, b, c] k2 pt2) X.env = pure (some [x, y, z]) := by rfl) (hs : swapsWithSole [.Tuple [.Name x px, .Name y py, .Name z pz] kt pt] (.Tuple [a, b, c] k2 pt2) pos.line X.env = pure false := by rfl)
    (hst : starEach [a, b, c] X.env = (false, eval a X.env) :: starEach [b, c] X.env := by rfl) (hst2 : starEach [b, c] X.env = (false, eval b X.env) :: starEach [c] X.env := by rfl) (hst3 : starEach [c] X.env = [(false, eval c X.env)] := by rfl) :
    Bk X ρ μ (.Assign [.Tuple [.Name x px, .Name y py, .Name z pz] kt pt] (.Tuple [a, b, c] k2 pt2) pos :: rest) N R := fun S I0 H0 I H σ α D F qn qr => by
  refine ws_cons (ps_par3 hc hN hi hj hl hij hil hjl hx hy hz (pa3 hst hst2 hst3) hw hs) ?_
  refine ha I σ H F.e F.v _ fun v I1 H1 n1 r1 => hb I1 σ H1 n1.j (F.v.up n1.i) _ fun u I2 H2 n2 r2 => hc3 I2 σ H2 n2.j ((F.v.up n1.i).up n2.i) _ fun w I3 H3 n3 r3 => ⟨v, u, w, rfl, ?_⟩
  exact k S I0 H0 I3 H3 _ α D ((((((F.step n1).step n2).step n3).set ((r1.up n2.i).up n3.i)).set (r2.up n3.i)).set r3) qn qr
end
end R1

set_option Elab.async false
set_option linter.all false
set_option maxRecDepth 100000
set_option maxHeartbeats 4000000
/-! CoreI: list(range(n)). -/
namespace R1
open PySem PySem.Spec PyProof.Rows L2 Evl
def rngPhi (p : Addr) (n : Nat) (h : Heap) : Prop := ∃ t u v, IsRange h p 0 n 1 t u v
section
variable {X : Cx}
theorem cr_rng : CallR X (.type "range") (fun vs H Q => ∃ n : Nat, vs = [.int n] ∧ n ≤ 1000 ∧ ∀ p, H p = none → Q (.ref p) (upd H p (.ext (rngPhi p n)))) := by
  intro pins s σ H vs us Q I r h
  obtain ⟨n, rfl, hn, q⟩ := h
  obtain ⟨u, rfl, ⟨t, rfl⟩⟩ := vals1 r
  refine call_range_1 ?_
  refine ⟨.ref s.heap.objs.size, _, I.laid (fun b o e => Heap.get?_push_of_some _ e) (Nat.le_refl _) (o := .ext (rngPhi s.heap.objs.size n)) ?_, rfl, q _ (I.hok.fresh (Nat.le_refl _))⟩
  exact ⟨⟨_, _, _, IsRange.new ..⟩, ⟨_, Heap.get?_push_size _ rfl⟩, fun h1 h2 ⟨t, u, v, e⟩ k => ⟨t, u, v, k _ e⟩⟩
theorem vals_upto : ∀ (its : List Value) (a : Int), (∀ (j : Nat) (v : Value), its[j]? = some v → ∃ t, v = Value.int (a + (j : Int)) t) → Vals ((List.range its.length).map fun (i : Nat) => V.int (a + (i : Int))) its
  | [], _, _ => .nil
  | x :: its, a, h => by
    obtain ⟨t, ht⟩ := h 0 x rfl
    have ih := vals_upto its (a + 1) fun j v e => by
      obtain ⟨t, ht⟩ := h (j + 1) v (by simpa using e)
      exact ⟨t, by rw [ht]; congr 1; omega⟩
    rw [List.length_cons, List.range_succ_eq_map, List.map_cons, List.map_map]
    refine .cons ⟨t, by rw [ht]⟩ ?_
    have e : ((fun (i : Nat) => V.int (a + (i : Int))) ∘ Nat.succ) = fun (i : Nat) => V.int (a + 1 + (i : Int)) := by
      funext i
      show V.int (a + ((i + 1 : Nat) : Int)) = _
      congr 1
      omega
    rw [e]
    exact ih
theorem cr_listRng (hc : X.calm = true) : CallR X (.type "list") (fun vs H Q => ∃ (p : Addr) (n : Nat), vs = [.ref p] ∧ n ≤ 1000 ∧ H p = some (.ext (rngPhi p n)) ∧ ∀ l, H l = none → Q (.ref l) (upd H l (.lst ((List.range n).map fun (i : Nat) => V.int (0 + (i : Int)))))) := by
  intro pins s σ H vs us Q I r h
  obtain ⟨p, n, rfl, hn, hp, q⟩ := h
  obtain ⟨u, rfl, hu⟩ := vals1 r
  cases hu
  obtain ⟨⟨t, u, v, hr⟩, _, _⟩ := I.hok _ _ hp
  refine call_list_range (n := n) (I.ok.hd hc) hr (small_one (by decide) (by decide) (by omega) (by omega)) ?_ (by omega) fun h' tk acc c hk hD hI => ?_
  · rw [rangeSize_one]
    split <;> omega
  · have hv : Vals ((List.range n).map fun (i : Nat) => V.int (0 + (i : Int))) acc.toList := by
      have := vals_upto acc.toList 0 fun j v e => by
        obtain ⟨t, ht⟩ := hI.2 j v (by rw [← e, Array.getElem?_toList])
        exact ⟨t, by rw [ht]; congr 1; omega⟩
      rw [Array.length_toList, hI.1] at this
      exact this
    have hz : ((List.range n).map fun (i : Nat) => V.int (0 + (i : Int))).length ≤ sizeLine := by
      rw [List.length_map, List.length_range]
      exact Nat.le_of_lt (sz_lt (by omega))
    refine ⟨.ref s.heap.objs.size, _, I.laid (t' := tk) (o := .lst ((List.range n).map fun (i : Nat) => V.int (0 + (i : Int)))) hk (Nat.le_refl _) ⟨hz, acc.toList, c, hv, ?_⟩, rfl, q _ (I.hok.fresh (Nat.le_refl _))⟩
    rw [Array.toArray_toList]
    exact hD
variable {ρ : Ro} {a : Expr} {p p2 pos pos2 : Pos}
theorem e_listRng {n : Nat} (hc : X.calm = true) (hg : Gl X "list") (hm : X.mg "list" = none) (hg2 : Gl X "range") (hm2 : X.mg "range" = none) (hn : n ≤ 1000) (ha : E X ρ a (.int n)) (hs : starEach [a] X.env = [(false, eval a X.env)] := by rfl)
    (hs2 : starEach [.Call (.Name "range" p2) [a] [] pos2] X.env = [(false, eval (.Call (.Name "range" p2) [a] [] pos2) X.env)] := by rfl) : E X ρ (.Call (.Name "list" p) [.Call (.Name "range" p2) [a] [] pos2] [] pos) (.list (upto 0 n)) := fun I σ H hx vs Q q => by
  refine we_of (pe_callTy (cr_listRng hc) hg hm PyProof.Rows.boot_list (pa_cons (pe_callTy cr_rng hg2 hm2 boot_range (pa1 hs) (by decide) (by decide) hs rfl) pa_nil (by rw [hs2] <;> rfl)) (by decide) (by decide) hs2 rfl) ?_
  refine ha I σ H hx vs _ fun v I1 H1 n1 r1 => ?_
  cases r1
  refine ⟨n, rfl, hn, fun p hp => ?_⟩
  have n2 := Nw.own (o := .ext (rngPhi p n)) n1.j hp
  refine ⟨p, n, rfl, hn, upd_same, fun l hl => ?_⟩
  have n3 := Nw.new (o := .lst ((List.range n).map fun (i : Nat) => V.int (0 + (i : Int)))) n2.j hl
  refine q _ _ _ ((n1.trans n2).trans n3) (.lst upd_same ?_)
  have e : ((List.range n).map fun (i : Nat) => V.int (0 + (i : Int))) = ((List.range n).map fun (i : Nat) => (0 + (i : Int))).map V.int := by rw [List.map_map]; rfl
  have e2 : upto 0 n = ((List.range n).map fun (i : Nat) => (0 + (i : Int))).map PyData.int := by unfold upto; rw [List.map_map]; rfl
  rw [e, e2]
  exact rpAll_ints _
end
end R1

set_option Elab.async false
set_option linter.all false
set_option maxRecDepth 100000
set_option maxHeartbeats 4000000
/-! K00W1: the checks and ranks of the package: walks. -/
namespace R1
open PySem PySem.Spec PyProof.Rows L2 Evl
def topS (i : Nat) : Stmt := PySem.Challenge.pw_anyring_k00_polynomials_by_own_sums.main.body.getD i (.Pass ⟨0, 0, 0, 0⟩)
theorem seqD_nd {k : Bool} {ds : List PyData} : isDictD (seqD k ds) = false := by cases k <;> rfl
theorem seqD_is {k : Bool} {ds : List PyData} : isSeqD (seqD k ds) = true := by cases k <;> rfl
theorem it_seq {X : Cx} {ρ : Ro} {tg e : Expr} {k : Bool} {ds : List PyData} (h : E X ρ e (seqD k ds)) : IT X ρ tg e ds := by
  cases k with
  | false => exact it_list h
  | true => exact it_tup h
/-! ### polynomials as data -/
abbrev Tm := Int × List Int
/-- a term as it may be told -/
def TmIs (t : Tm) (d : PyData) : Prop := ∃ k l, d = seqD k [.int t.1, seqD l (t.2.map .int)]
inductive Tms : List Tm → List PyData → Prop
  | nil : Tms [] []
  | cons {t d ts ds} : TmIs t d → Tms ts ds → Tms (t :: ts) (d :: ds)
theorem Tms.length : ∀ {ts ds}, Tms ts ds → ds.length = ts.length
  | _, _, .nil => rfl
  | _, _, .cons _ h => congrArg (· + 1) h.length
def tmD (t : Tm) : PyData := .tuple [.int t.1, pwD t.2]
def polD (p : List Tm) : PyData := .tuple (p.map tmD)
theorem tms_pol : ∀ p : List Tm, Tms p (p.map tmD)
  | [] => .nil
  | t :: p => .cons ⟨true, true, rfl⟩ (tms_pol p)
structure Good (width : Int) (p : List Tm) : Prop where
  t : ∀ t ∈ p, t.1 ≠ 0 ∧ (t.2.length : Int) = width ∧ ∀ x ∈ t.2, 0 ≤ x ∧ x ≤ 1000
  o : p.Pairwise fun a b => rkLt (rkP b.2) (rkP a.2) = true
  l : p.length < 1000
  w : 0 ≤ width ∧ width ≤ 16

theorem sc2 : FnScope ["value"] ["value"] (defScope (topS 2)) := ⟨rfl, rfl, rfl, by decide +kernel, rfl, by decide +kernel, by decide +kernel⟩
theorem sc3 : FnScope ["value", "least", "most"] ["value", "least", "most"] (defScope (topS 3)) := ⟨rfl, rfl, rfl, by decide +kernel, rfl, by decide +kernel, by decide +kernel⟩
theorem sc4 : FnScope ["value"] ["value"] (defScope (topS 4)) := ⟨rfl, rfl, rfl, by decide +kernel, rfl, by decide +kernel, by decide +kernel⟩
theorem sc5 : FnScope ["value", "least", "most"] ["value", "least", "most"] (defScope (topS 5)) := ⟨rfl, rfl, rfl, by decide +kernel, rfl, by decide +kernel, by decide +kernel⟩
theorem sc6 : FnScope ["value", "least", "most", "one"] ["value", "least", "most"] (defScope (topS 6)) := ⟨rfl, rfl, rfl, by decide +kernel, rfl, by decide +kernel, by decide +kernel⟩
theorem sc14 : FnScope ["powers"] ["powers"] (defScope (topS 14)) := ⟨rfl, rfl, rfl, by decide +kernel, rfl, by decide +kernel, by decide +kernel⟩
theorem sc15 : FnScope ["width", "value", "one"] ["width", "value"] (defScope (topS 15)) := ⟨rfl, rfl, rfl, by decide +kernel, rfl, by decide +kernel, by decide +kernel⟩
theorem sc16 : FnScope ["width", "value"] ["width", "value"] (defScope (topS 16)) := ⟨rfl, rfl, rfl, by decide +kernel, rfl, by decide +kernel, by decide +kernel⟩
theorem sc20 : FnScope ["value"] ["value"] (defScope (topS 30)) := ⟨rfl, rfl, rfl, by decide +kernel, rfl, by decide +kernel, by decide +kernel⟩
section
variable {P : Program} {w : World} {K : PySem.W.Frag} {mg : Str → Option Value} {base : Heap} {k : Nat}
theorem fn_rank (D : Dfn K mg "rank_of" (topS 14)) (ms : mg "sum" = none) : Fn P w K mg base "rank_of" 1 ["powers"] (spP RkR) :=
  fn_pure (k := 0) D sc14 (fun ds d h => by obtain ⟨p, rfl, _⟩ := h; rfl) (fun kV doc pm an cdv ct us hl => by
    match us, hl with
    | [a], _ => rfl) fun f cdv A outer s H G hr ds d h => by
    obtain ⟨p, rfl, rfl⟩ := h
    have n0 : ∀ q, E (cxB P w K mg base ["powers"] "rank_of" (topS 14) f cdv A outer s H G) [some (pwD p)] (.Name "powers" q) (pwD p) := fun q => e_name 0 rfl (.inl rfl) rfl
    exact bd_ret (e_tup (as_cons (e_sumT rfl (by rfl) ms (n0 _)) (as_cons (n0 _) as_nil)) (Nat.le_of_ble_eq_true rfl))
/-- is_integer, of a whole number -/
def RInt (ds : List PyData) (d : PyData) : Prop := ∃ i : Int, ds = [.int i] ∧ d = .bool true
theorem fn_int (D : Dfn K mg "is_integer" (topS 2)) (m1 : mg "isinstance" = none) (m2 : mg "int" = none) (m3 : mg "bool" = none) : Fn P w K mg base "is_integer" 1 ["value"] (spP RInt) :=
  fn_pure (k := 0) D sc2 (fun ds d h => by obtain ⟨p, rfl, _⟩ := h; rfl) (fun kV doc pm an cdv ct us hl => by
    match us, hl with
    | [a], _ => rfl) fun f cdv A outer s H G hr ds d h => by
    obtain ⟨i, rfl, rfl⟩ := h
    have n0 : ∀ q, E (cxB P w K mg base ["value"] "is_integer" (topS 2) f cdv A outer s H G) [some (.int i)] (.Name "value" q) (.int i) := fun q => e_name 0 rfl (.inl rfl) rfl
    exact bd_ret ((e_and (k := true) (l := true) (e_isi (by rfl) m1 (by rfl) m2 PyProof.Rows.boot_int (n0 _) rfl (kit_int _)) fun _ => e_one ((e_not (e_isi (by rfl) m1 (by rfl) m3 (by decide +kernel) (n0 _) rfl (kit_bool _))).eq rfl)).eq rfl)
/-- is_within -/
def RWithin (ds : List PyData) (d : PyData) : Prop := ∃ i a b : Int, ds = [.int i, .int a, .int b] ∧ d = .bool (decide (a ≤ i) && decide (i ≤ b))
theorem fn_within (D : Dfn K mg "is_within" (topS 3)) (F : Fn P w K mg base "is_integer" 1 ["value"] (spP RInt)) : Fn P w K mg base "is_within" 2 ["value", "least", "most"] (spP RWithin) :=
  fn_pure (k := 1) D sc3 (fun ds d h => by obtain ⟨p, q, r, rfl, _⟩ := h; rfl) (fun kV doc pm an cdv ct us hl => by
    match us, hl with
    | [a, b, c], _ => rfl) fun f cdv A outer s H G hr ds d h => by
    obtain ⟨i, a, b, rfl, rfl⟩ := h
    have n0 : ∀ q, E (cxB P w K mg base ["value", "least", "most"] "is_within" (topS 3) f cdv A outer s H G) [some (.int i), some (.int a), some (.int b)] (.Name "value" q) (.int i) := fun q => e_name 0 rfl (.inl rfl) rfl
    have n1 : ∀ q, E (cxB P w K mg base ["value", "least", "most"] "is_within" (topS 3) f cdv A outer s H G) [some (.int i), some (.int a), some (.int b)] (.Name "least" q) (.int a) := fun q => e_name 1 rfl (.inl rfl) rfl
    have n2 : ∀ q, E (cxB P w K mg base ["value", "least", "most"] "is_within" (topS 3) f cdv A outer s H G) [some (.int i), some (.int a), some (.int b)] (.Name "most" q) (.int b) := fun q => e_name 2 rfl (.inl rfl) rfl
    exact bd_ret ((e_and (k := true) (e_call F hr (by rfl) (as_cons (n0 _) as_nil) ⟨i, rfl, rfl⟩) fun _ => e_one (e_lele (n1 _) (n0 _) (n2 _))).eq rfl)
/-- is_listed, of a list or a tuple -/
def RListed (ds : List PyData) (d : PyData) : Prop := ∃ k es, ds = [seqD k es] ∧ d = .bool true
theorem fn_listed (D : Dfn K mg "is_listed" (topS 4)) (m1 : mg "isinstance" = none) (m2 : mg "list" = none) (m3 : mg "tuple" = none) : Fn P w K mg base "is_listed" 1 ["value"] (spP RListed) :=
  fn_pure (k := 0) D sc4 (fun ds d h => by obtain ⟨p, q, rfl, _⟩ := h; rfl) (fun kV doc pm an cdv ct us hl => by
    match us, hl with
    | [a], _ => rfl) fun f cdv A outer s H G hr ds d h => by
    obtain ⟨l, es, rfl, rfl⟩ := h
    have n0 : ∀ q, E (cxB P w K mg base ["value"] "is_listed" (topS 4) f cdv A outer s H G) [some (seqD l es)] (.Name "value" q) (seqD l es) := fun q => e_name 0 rfl (.inl rfl) rfl
    exact bd_ret ((e_isSeq (by rfl) m1 (by rfl) m2 (by rfl) m3 (n0 _) seqD_nd).eq (by rw [seqD_is]))
/-- is_row -/
def RRow (ds : List PyData) (d : PyData) : Prop := ∃ k es, ∃ a b : Int, ds = [seqD k es, .int a, .int b] ∧ d = .bool (decide (a ≤ (es.length : Int)) && decide ((es.length : Int) ≤ b))
theorem fn_row (D : Dfn K mg "is_row" (topS 5)) (ml : mg "len" = none) (F : Fn P w K mg base "is_listed" 1 ["value"] (spP RListed)) : Fn P w K mg base "is_row" 2 ["value", "least", "most"] (spP RRow) :=
  fn_pure (k := 1) D sc5 (fun ds d h => by obtain ⟨p, q, r, t, rfl, _⟩ := h; rfl) (fun kV doc pm an cdv ct us hl => by
    match us, hl with
    | [a, b, c], _ => rfl) fun f cdv A outer s H G hr ds d h => by
    obtain ⟨l, es, a, b, rfl, rfl⟩ := h
    have n0 : ∀ q, E (cxB P w K mg base ["value", "least", "most"] "is_row" (topS 5) f cdv A outer s H G) [some (seqD l es), some (.int a), some (.int b)] (.Name "value" q) (seqD l es) := fun q => e_name 0 rfl (.inl rfl) rfl
    have n1 : ∀ q, E (cxB P w K mg base ["value", "least", "most"] "is_row" (topS 5) f cdv A outer s H G) [some (seqD l es), some (.int a), some (.int b)] (.Name "least" q) (.int a) := fun q => e_name 1 rfl (.inl rfl) rfl
    have n2 : ∀ q, E (cxB P w K mg base ["value", "least", "most"] "is_row" (topS 5) f cdv A outer s H G) [some (seqD l es), some (.int a), some (.int b)] (.Name "most" q) (.int b) := fun q => e_name 2 rfl (.inl rfl) rfl
    exact bd_ret ((e_and (k := true) (e_call F hr (by rfl) (as_cons (n0 _) as_nil) ⟨l, es, rfl, rfl⟩) fun _ => e_one (e_lele (n1 _) (e_len (by rfl) ml (n0 _)) (n2 _))).eq rfl)
/-- is_numbers -/
def RNums (ds : List PyData) (d : PyData) : Prop := ∃ k, ∃ ns : List Int, ∃ a b : Int, ds = [seqD k (ns.map .int), .int a, .int b] ∧ ns.length < 1000 ∧ a ≤ ns.length ∧ (ns.length : Int) ≤ b ∧ (∀ n ∈ ns, -(10 ^ 50) ≤ n ∧ n ≤ 10 ^ 50) ∧ d = .bool true
theorem fn_nums (D : Dfn K mg "is_numbers" (topS 6)) (ma : mg "all" = none) {u : Tok} (mM : mg "MOST_NUMBER" = some (.int (10 ^ 60) u)) (F : Fn P w K mg base "is_row" 2 ["value", "least", "most"] (spP RRow)) (F2 : Fn P w K mg base "is_within" 2 ["value", "least", "most"] (spP RWithin)) :
    Fn P w K mg base "is_numbers" 3 ["value", "least", "most"] (spP RNums) :=
  fn_pure (k := 2) D sc6 (fun ds d h => by obtain ⟨p, q, r, t, rfl, _⟩ := h; rfl) (fun kV doc pm an cdv ct us hl => by
    match us, hl with
    | [a, b, c], _ => rfl) fun f cdv A outer s H G hr ds d h => by
    obtain ⟨l, ns, a, b, rfl, hl, h1, h2, h3, rfl⟩ := h
    have n0 : ∀ q, E (cxB P w K mg base ["value", "least", "most", "one"] "is_numbers" (topS 6) f cdv A outer s H G) [some (seqD l (ns.map .int)), some (.int a), some (.int b), none] (.Name "value" q) (seqD l (ns.map .int)) := fun q => e_name 0 rfl (.inl rfl) rfl
    have n1 : ∀ q, E (cxB P w K mg base ["value", "least", "most", "one"] "is_numbers" (topS 6) f cdv A outer s H G) [some (seqD l (ns.map .int)), some (.int a), some (.int b), none] (.Name "least" q) (.int a) := fun q => e_name 1 rfl (.inl rfl) rfl
    have n2 : ∀ q, E (cxB P w K mg base ["value", "least", "most", "one"] "is_numbers" (topS 6) f cdv A outer s H G) [some (seqD l (ns.map .int)), some (.int a), some (.int b), none] (.Name "most" q) (.int b) := fun q => e_name 2 rfl (.inl rfl) rfl
    have e1 : ((ns.map PyData.int).map fun _ => PyData.bool true) = (List.replicate ns.length true).map PyData.bool := by
      rw [List.map_map, List.map_replicate]
      exact List.map_const' ..
    refine bd_ret ((e_and (k := true) (l := true) ((e_call F hr (by rfl) (as_cons (n0 _) (as_cons (n1 _) (as_cons (n2 _) as_nil))) ⟨l, _, a, b, rfl, rfl⟩).eq ?_) fun _ => e_one ((e_all rfl (by rfl) ma ((e_lc (own := [("one", 3)]) (g := gName 3) (F := fun _ => .bool true) (ρ' := fun d => (wipeR _ [3]).set 3 (some d)) rfl sc6.nd (blkOk_by (own := [("one", 3)]) (N := ["value", "least", "most", "one"]) (sc := defScope (topS 6)) (by decide +kernel)) (fun _ _ _ _ _ => pg_name (i := 3) sc6.nd rfl (Or.inl rfl)) (it_seq (n0 _)) (fun d _ => gt_name (by simp)) (fun d hd => ?_) (by rw [List.length_map]; omega)).eq (by rw [e1]))).eq ?_)).eq rfl)
    · rw [List.length_map, decide_eq_true h1, decide_eq_true h2]
      rfl
    · obtain ⟨n, hn, rfl⟩ := List.mem_map.mp hd
      intro s0 H0 C cl fp
      have := h3 n hn
      refine (e_call F2 hr (by rfl) (as_cons (e_name 3 rfl (.inl rfl) rfl) (as_cons (e_sub e_int (e_globI (by rfl) mM)) (as_cons (e_sub (e_globI (by rfl) mM) e_int) as_nil))) ⟨n, _, _, rfl, rfl⟩).eq ?_
      rw [decide_eq_true (by omega), decide_eq_true (by omega)]
      rfl
    · show PyData.bool ((List.replicate ns.length true).all fun z => z) = _
      rw [List.all_replicate]
      by_cases h : ns.length = 0 <;> simp [h]
end
end R1

set_option Elab.async false
set_option linter.all false
set_option maxRecDepth 100000
set_option maxHeartbeats 4000000
/-! K00W2: polynomials looked at: walks. -/
namespace R1
open PySem PySem.Spec PyProof.Rows L2 Evl
theorem sc17 : FnScope ["width", "value", "ranks", "term", "one", "other"] ["width", "value"] (defScope (topS 17)) := ⟨rfl, rfl, rfl, by decide +kernel, rfl, by decide +kernel, by decide +kernel⟩
theorem sc18 : FnScope ["value", "term"] ["value"] (defScope (topS 18)) := ⟨rfl, rfl, rfl, by decide +kernel, rfl, by decide +kernel, by decide +kernel⟩
theorem sc19 : FnScope ["width", "value", "part", "one"] ["width", "value", "part"] (defScope (topS 20)) := ⟨rfl, rfl, rfl, by decide +kernel, rfl, by decide +kernel, by decide +kernel⟩
theorem all_reps {α : Type} (l : List α) : (l.map fun _ => PyData.bool true) = (List.replicate l.length true).map PyData.bool := by
  rw [List.map_replicate]
  exact List.map_const' ..
theorem reps_all (n : Nat) : ((List.replicate n true).all fun z => z) = true := by
  rw [List.all_replicate]
  by_cases h : n = 0 <;> simp [h]
section
variable {P : Program} {w : World} {K : PySem.W.Frag} {mg : Str → Option Value} {base : Heap} {k : Nat}
/-- is_powers -/
def RPow (ds : List PyData) (d : PyData) : Prop := ∃ (wd : Int) (k : Bool) (p : List Int), ds = [.int wd, seqD k (p.map .int)] ∧ (p.length : Int) = wd ∧ (∀ x ∈ p, 0 ≤ x ∧ x ≤ 1000) ∧ wd ≤ 16 ∧ d = .bool true
theorem fn_powers (D : Dfn K mg "is_powers" (topS 15)) (ma : mg "all" = none) (ml : mg "len" = none) {u : Tok} (mM : mg "MOST_POWER" = some (.int 1000 u)) (F : Fn P w K mg base "is_listed" 1 ["value"] (spP RListed)) (F2 : Fn P w K mg base "is_within" 2 ["value", "least", "most"] (spP RWithin)) :
    Fn P w K mg base "is_powers" 3 ["width", "value"] (spP RPow) :=
  fn_pure (k := 2) D sc15 (fun ds d h => by obtain ⟨p, q, r, rfl, _⟩ := h; rfl) (fun kV doc pm an cdv ct us hl => by
    match us, hl with
    | [a, b], _ => rfl) fun f cdv A outer s H G hr ds d h => by
    obtain ⟨wd, l, p, rfl, h1, h2, h3, rfl⟩ := h
    have n0 : ∀ q, E (cxB P w K mg base ["width", "value", "one"] "is_powers" (topS 15) f cdv A outer s H G) [some (.int wd), some (seqD l (p.map .int)), none] (.Name "width" q) (.int wd) := fun q => e_name 0 rfl (.inl rfl) rfl
    have n1 : ∀ q, E (cxB P w K mg base ["width", "value", "one"] "is_powers" (topS 15) f cdv A outer s H G) [some (.int wd), some (seqD l (p.map .int)), none] (.Name "value" q) (seqD l (p.map .int)) := fun q => e_name 1 rfl (.inl rfl) rfl
    refine bd_ret ((e_and (k := true) (l := true) (e_call F (hr.mono (by decide)) (by rfl) (as_cons (n1 _) as_nil) ⟨l, _, rfl, rfl⟩) fun _ => e_and (k := true) (l := true) ((e_eqI (e_len (by rfl) ml (n1 _)) (n0 _)).eq ?_) fun _ => e_one ((e_all rfl (by rfl) ma ((e_lc (own := [("one", 2)]) (g := gName 2) (F := fun _ => .bool true) (ρ' := fun d => (wipeR _ [2]).set 2 (some d)) rfl sc15.nd (blkOk_by (own := [("one", 2)]) (N := ["width", "value", "one"]) (sc := defScope (topS 15)) (by decide +kernel)) (fun _ _ _ _ _ => pg_name (i := 2) sc15.nd rfl (Or.inl rfl)) (it_seq (n1 _)) (fun d _ => gt_name (by simp)) (fun d hd => ?_) (by rw [List.length_map]; omega)).eq (by rw [all_reps]))).eq (by rw [reps_all]))).eq rfl)
    · rw [List.length_map, decide_eq_true h1]
    · obtain ⟨n, hn, rfl⟩ := List.mem_map.mp hd
      intro s0 H0 C cl fp
      have := h2 n hn
      refine (e_call F2 hr (by rfl) (as_cons (e_name 2 rfl (.inl rfl) rfl) (as_cons e_int (as_cons (e_globI (by rfl) mM) as_nil))) ⟨n, _, _, rfl, rfl⟩).eq ?_
      rw [decide_eq_true this.1, decide_eq_true this.2]
      rfl
def TmOk (wd : Int) (t : Tm) : Prop := t.1 ≠ 0 ∧ (t.2.length : Int) = wd ∧ ∀ x ∈ t.2, 0 ≤ x ∧ x ≤ 1000
/-- is_term -/
def RTerm (ds : List PyData) (d : PyData) : Prop := ∃ (wd : Int) (t : Tm) (e : PyData), ds = [.int wd, e] ∧ TmIs t e ∧ TmOk wd t ∧ wd ≤ 16 ∧ d = .bool true
theorem fn_term (D : Dfn K mg "is_term" (topS 16)) (ml : mg "len" = none) (F : Fn P w K mg base "is_listed" 1 ["value"] (spP RListed)) (F1 : Fn P w K mg base "is_integer" 1 ["value"] (spP RInt)) (F2 : Fn P w K mg base "is_powers" 3 ["width", "value"] (spP RPow)) :
    Fn P w K mg base "is_term" 4 ["width", "value"] (spP RTerm) :=
  fn_pure (k := 3) D sc16 (fun ds d h => by obtain ⟨p, q, r, rfl, _⟩ := h; rfl) (fun kV doc pm an cdv ct us hl => by
    match us, hl with
    | [a, b], _ => rfl) fun f cdv A outer s H G hr ds d h => by
    obtain ⟨wd, t, e, rfl, ⟨l, m, rfl⟩, ⟨h1, h2, h3⟩, h4, rfl⟩ := h
    have n0 : ∀ q, E (cxB P w K mg base ["width", "value"] "is_term" (topS 16) f cdv A outer s H G) [some (.int wd), some (seqD l [.int t.1, seqD m (t.2.map .int)])] (.Name "width" q) (.int wd) := fun q => e_name 0 rfl (.inl rfl) rfl
    have n1 : ∀ q, E (cxB P w K mg base ["width", "value"] "is_term" (topS 16) f cdv A outer s H G) [some (.int wd), some (seqD l [.int t.1, seqD m (t.2.map .int)])] (.Name "value" q) (seqD l [.int t.1, seqD m (t.2.map .int)]) := fun q => e_name 1 rfl (.inl rfl) rfl
    have i0 : ∀ q q2 j, E (cxB P w K mg base ["width", "value"] "is_term" (topS 16) f cdv A outer s H G) [some (.int wd), some (seqD l [.int t.1, seqD m (t.2.map .int)])] (.Subscript (.Name "value" q) (.Constant (.int 0) j q2) q2) (.int t.1) := fun q q2 j => e_ix (n1 _) e_int rfl
    refine bd_ifF ((tw_or (k := false) (l := false) ((t_not (t_val (e_call F (hr.mono (by decide)) (by rfl) (as_cons (n1 _) as_nil) ⟨l, _, rfl, rfl⟩))).eq rfl) fun _ =>
      tw_or (k := false) (l := false) ((t_neI (e_len (by rfl) ml (n1 _)) e_int).eq rfl) fun _ => tw_or (k := false) (l := false) ((t_not (t_val (e_call F1 (hr.mono (by decide)) (by rfl) (as_cons (e_ix (n1 _) e_int rfl) as_nil) ⟨t.1, rfl, rfl⟩))).eq rfl) fun _ => tw_or1 ((t_eqI (e_ix (n1 _) e_int rfl) e_int).eq ?_)).t.eq rfl) (bd_ret (e_call F2 hr (by rfl) (as_cons (n0 _) (as_cons (e_ix (n1 _) e_int rfl) as_nil)) ⟨wd, m, t.2, rfl, h2, h3, h4, rfl⟩))
    exact decide_eq_false h1
/-- is_poly, of what is one -/
def RPoly (ds : List PyData) (d : PyData) : Prop := ∃ (wd : Int) (p : List Tm) (k : Bool) (es : List PyData), ds = [.int wd, seqD k es] ∧ Tms p es ∧ Good wd p ∧ d = .bool true
theorem Tms.mem : ∀ {ts ds}, Tms ts ds → ∀ d ∈ ds, ∃ t ∈ ts, TmIs t d
  | _, _, .nil, d, h => nomatch h
  | _, _, .cons a b, d, h => by
    rcases List.mem_cons.mp h with rfl | h
    · exact ⟨_, .head _, a⟩
    · obtain ⟨t, ht, x⟩ := b.mem d h
      exact ⟨t, .tail _ ht, x⟩
/-- what a told term tells -/
def powD : PyData → PyData
  | .list (_ :: p :: _) => p
  | .tuple (_ :: p :: _) => p
  | _ => .none
def itsD : PyData → List PyData
  | .list l => l
  | .tuple l => l
  | _ => []
def numsD : List PyData → List Int
  | .int i :: r => i :: numsD r
  | _ => []
theorem numsD_map : ∀ p : List Int, numsD (p.map .int) = p
  | [] => rfl
  | i :: p => by show i :: numsD (p.map .int) = _; rw [numsD_map p]
def rowOf (d : PyData) : List Int := numsD (itsD (powD d))
theorem rowOf_is {t : Tm} {d : PyData} (h : TmIs t d) : rowOf d = t.2 := by
  obtain ⟨k, l, rfl⟩ := h
  cases k <;> cases l <;> exact numsD_map _
theorem Tms.rows : ∀ {ts ds}, Tms ts ds → ds.map rowOf = ts.map (·.2)
  | _, _, .nil => rfl
  | _, _, .cons a b => by rw [List.map_cons, List.map_cons, rowOf_is a, b.rows]
theorem pw_zip {α : Type} {R : α → α → Prop} : ∀ {l : List α}, l.Pairwise R → ∀ x ∈ l.zip (l.drop 1), R x.1 x.2
  | [], _, x, h => nomatch h
  | [a], _, x, h => nomatch h
  | a :: b :: l, .cons h t, x, hx => by
    have hx : x ∈ (a, b) :: (b :: l).zip l := hx
    rcases List.mem_cons.mp hx with rfl | hx
    · exact h b (.head _)
    · exact pw_zip t x hx
theorem fn_poly (D : Dfn K mg "is_poly" (topS 17)) (ma : mg "all" = none) (mz : mg "zip" = none) (mt : mg "tuple" = none) (F : Fn P w K mg base "is_listed" 1 ["value"] (spP RListed)) (F1 : Fn P w K mg base "rank_of" 1 ["powers"] (spP RkR)) (F2 : Fn P w K mg base "is_term" 4 ["width", "value"] (spP RTerm)) :
    Fn P w K mg base "is_poly" 5 ["width", "value"] (spP RPoly) :=
  fn_pure (k := 4) D sc17 (fun ds d h => by obtain ⟨p, q, r, t, rfl, _⟩ := h; rfl) (fun kV doc pm an cdv ct us hl => by
    match us, hl with
    | [a, b], _ => rfl) fun f cdv A outer s H G hr ds d h => by
    obtain ⟨wd, p, l, es, rfl, ht, hg, rfl⟩ := h
    have hl : es.length < 100000 := by
      have := hg.l
      rw [ht.length]
      omega
    have n1 : ∀ q, E (cxB P w K mg base ["width", "value", "ranks", "term", "one", "other"] "is_poly" (topS 17) f cdv A outer s H G) [some (.int wd), some (seqD l es), none, none, none, none] (.Name "value" q) (seqD l es) := fun q => e_name 1 rfl (.inl rfl) rfl
    refine bd_ifF ((tw_or (k := false) (l := false) ((t_not (t_val (e_call F (hr.mono (by decide)) (by rfl) (as_cons (n1 _) as_nil) ⟨l, _, rfl, rfl⟩))).eq rfl) fun _ => tw_or1 ((t_not (t_val ((e_all rfl (by rfl) ma ((e_lc (own := [("term", 3)]) (g := gName 3) (F := fun _ => .bool true) (ρ' := fun d => (wipeR _ [3]).set 3 (some d)) rfl sc17.nd (blkOk_by (own := [("term", 3)]) (N := ["width", "value", "ranks", "term", "one", "other"]) (sc := defScope (topS 17)) (by decide +kernel)) (fun _ _ _ _ _ => pg_name (i := 3) sc17.nd rfl (Or.inl rfl)) (it_seq (n1 _)) (fun d _ => gt_name (by simp)) (fun d hd => ?_) hl).eq (by rw [all_reps]))).eq (by rw [reps_all])))).eq rfl)).t.eq rfl) ?_
    · obtain ⟨t, htm, hti⟩ := ht.mem d hd
      intro s0 H0 C cl fp
      exact e_call F2 hr (by rfl) (as_cons (e_name 0 rfl (.inr (.inl rfl)) rfl) (as_cons (e_name 3 rfl (.inl rfl) rfl) as_nil)) ⟨wd, t, d, rfl, hti, hg.t t htm, hg.w.2, rfl⟩
    · refine bd_setLc (i := 2) (own := [("term", 3)]) (g := gName 3) (F := fun d => rkD (rkP (rowOf d))) (ρ' := fun d => (wipeR _ [3]).set 3 (some d)) rfl sc17.nd rfl rfl (sw_true rfl rfl rfl (by decide +kernel)) (blkOk_by (own := [("term", 3)]) (N := ["width", "value", "ranks", "term", "one", "other"]) (sc := defScope (topS 17)) (by decide +kernel)) (fun _ _ _ _ _ => pg_name (i := 3) sc17.nd rfl (Or.inl rfl)) (it_seq (n1 _)) (fun d _ => gt_name (by simp)) (fun d hd => ?_) hl ?_
      · obtain ⟨t, htm, hti⟩ := ht.mem d hd
        intro s0 H0 C cl fp
        rw [rowOf_is hti]
        obtain ⟨k1, k2, rfl⟩ := hti
        exact e_call F1 (hr.mono (by decide)) (by rfl) (as_cons ((e_tupOf (k := k2) (by rfl) mt (e_ix (k := k1) (e_name 3 rfl (.inl rfl) rfl) e_int rfl)).eq rfl) as_nil) ⟨t.2, rfl, rfl⟩
      · have n2 : ∀ q, E (cxB P w K mg base ["width", "value", "ranks", "term", "one", "other"] "is_poly" (topS 17) f cdv A outer s H G) [some (.int wd), some (seqD l es), some (.list (es.map fun d => rkD (rkP (rowOf d)))), none, none, none] (.Name "ranks" q) (.list (es.map fun d => rkD (rkP (rowOf d)))) := fun q => e_name 2 rfl (.inl rfl) rfl
        have hrk : (es.map fun d => rkD (rkP (rowOf d))) = p.map fun t => rkD (rkP t.2) := by
          have : (es.map fun d => rkD (rkP (rowOf d))) = (es.map rowOf).map fun q => rkD (rkP q) := by rw [List.map_map]; rfl
          rw [this, ht.rows, List.map_map]
          rfl
        refine bd_ret ((e_all rfl (by rfl) ma ((e_lc (own := [("one", 4), ("other", 5)]) (g := gTup K 2 (gCons (gName 4) (gCons (gName 5) gNil))) (F := fun _ => .bool true)
          (ρ' := fun d => match d with | .tuple [a, b] => ((wipeR [some (.int wd), some (seqD l es), some (.list (es.map fun d => rkD (rkP (rowOf d)))), none, none, none] [4, 5]).set 4 (some a)).set 5 (some b) | _ => []) rfl sc17.nd (blkOk_by (own := [("one", 4), ("other", 5)]) (N := ["width", "value", "ranks", "term", "one", "other"]) (sc := defScope (topS 17)) (by decide +kernel))
          (fun _ _ _ _ _ => pg_tup rfl (pgs_cons (pg_name (i := 4) sc17.nd rfl (Or.inl rfl)) (pgs_cons (pg_name (i := 5) sc17.nd rfl (Or.inl rfl)) pgs_nil))) (it_zip (k := false) (l := false) (by rfl) mz (n2 _) (e_from (n := 1) (n2 _))) (fun d hd => ?_) (fun d hd => ?_) ?_).eq (by rw [all_reps]))).eq (by rw [reps_all]))
        · obtain ⟨x, hx, rfl⟩ := List.mem_map.mp hd
          exact gt_tup2 (by simp) (by simp)
        · obtain ⟨x, hx, rfl⟩ := List.mem_map.mp hd
          rw [hrk, ← List.map_drop, List.zip_map] at hx
          obtain ⟨y, hy, rfl⟩ := List.mem_map.mp hx
          have ho := pw_zip hg.o y hy
          intro s0 H0 C cl fp
          refine (e_rkGt (m := y.1.2.sum) (n := y.2.2.sum) (p := y.1.2) (q := y.2.2) (hr.units) (e_name 4 rfl (.inl rfl) rfl) (e_name 5 rfl (.inl rfl) rfl)).eq ?_
          show PyData.bool (rkLt (rkP y.2.2) (rkP y.1.2)) = _
          rw [ho]
        · rw [pairs_len, List.length_map]
          omega
end
end R1

set_option Elab.async false
set_option linter.all false
set_option maxRecDepth 100000
set_option maxHeartbeats 4000000
/-! K00W3: polynomials taken; worths, choices, products down: walks. -/
namespace R1
open PySem PySem.Spec PyProof.Rows L2 Evl
def coefOf (d : PyData) : Int := match itsD d with
  | .int i :: _ => i
  | _ => 0
theorem coefOf_is {t : Tm} {d : PyData} (h : TmIs t d) : coefOf d = t.1 := by
  obtain ⟨k, l, rfl⟩ := h
  cases k <;> rfl
theorem Tms.tms : ∀ {ts ds}, Tms ts ds → ds.map (fun d => tmD (coefOf d, rowOf d)) = ts.map tmD
  | _, _, .nil => rfl
  | _, _, .cons a b => by rw [List.map_cons, List.map_cons, rowOf_is a, coefOf_is a, b.tms]
section
variable {P : Program} {w : World} {K : PySem.W.Frag} {mg : Str → Option Value} {base : Heap} {k : Nat}
/-- as_poly -/
def RAs (ds : List PyData) (d : PyData) : Prop := ∃ (p : List Tm) (k : Bool) (es : List PyData), ds = [seqD k es] ∧ Tms p es ∧ p.length < 1000 ∧ d = polD p
theorem fn_as (D : Dfn K mg "as_poly" (topS 18)) (mt : mg "tuple" = none) : Fn P w K mg base "as_poly" 1 ["value"] (spP RAs) :=
  fn_pure (k := 0) D sc18 (fun ds d h => by obtain ⟨p, q, r, rfl, _⟩ := h; rfl) (fun kV doc pm an cdv ct us hl => by
    match us, hl with
    | [a], _ => rfl) fun f cdv A outer s H G hr ds d h => by
    obtain ⟨p, l, es, rfl, ht, hl, rfl⟩ := h
    have n0 : ∀ q, E (cxB P w K mg base ["value", "term"] "as_poly" (topS 18) f cdv A outer s H G) [some (seqD l es), none] (.Name "value" q) (seqD l es) := fun q => e_name 0 rfl (.inl rfl) rfl
    refine bd_ret ((e_tupOf (k := false) (by rfl) mt (e_lc (own := [("term", 1)]) (g := gName 1) (F := fun d => tmD (coefOf d, rowOf d)) (ρ' := fun d => (wipeR _ [1]).set 1 (some d)) rfl sc18.nd (blkOk_by (own := [("term", 1)]) (N := ["value", "term"]) (sc := defScope (topS 18)) (by decide +kernel)) (fun _ _ _ _ _ => pg_name (i := 1) sc18.nd rfl (Or.inl rfl)) (it_seq (n0 _)) (fun d _ => gt_name (by simp)) (fun d hd => ?_) (by rw [ht.length]; omega))).eq (by rw [ht.tms]; rfl))
    obtain ⟨t, htm, hti⟩ := ht.mem d hd
    intro s0 H0 C cl fp
    rw [rowOf_is hti, coefOf_is hti]
    obtain ⟨k1, k2, rfl⟩ := hti
    exact e_tup (as_cons (e_ix (k := k1) (e_name 1 rfl (.inl rfl) rfl) e_int rfl) (as_cons (e_tupOf (k := k2) (by rfl) mt (e_ix (k := k1) (e_name 1 rfl (.inl rfl) rfl) e_int rfl)) as_nil)) (Nat.le_of_ble_eq_true rfl)
/-- need_polys, of one polynomial -/
def RNeeds (ds : List PyData) (d : PyData) : Prop := ∃ (wd : Int) (p : List Tm) (k : Bool) (es : List PyData) (x : Str), ds = [.int wd, .list [seqD k es], .str x] ∧ Tms p es ∧ Good wd p ∧ d = .tuple [polD p]
theorem fn_needs (D : Dfn K mg "need_polys" (topS 20)) (ma : mg "all" = none) (mt : mg "tuple" = none) (F : Fn P w K mg base "is_listed" 1 ["value"] (spP RListed)) (F1 : Fn P w K mg base "is_poly" 5 ["width", "value"] (spP RPoly)) (F2 : Fn P w K mg base "as_poly" 1 ["value"] (spP RAs)) :
    Fn P w K mg base "need_polys" 6 ["width", "value", "part"] (spP RNeeds) :=
  fn_pure (k := 5) D sc19 (fun ds d h => by obtain ⟨p, q, r, t, x, rfl, _⟩ := h; rfl) (fun kV doc pm an cdv ct us hl => by
    match us, hl with
    | [a, b, c], _ => rfl) fun f cdv A outer s H G hr ds d h => by
    obtain ⟨wd, p, l, es, x, rfl, ht, hg, rfl⟩ := h
    have n1 : ∀ q, E (cxB P w K mg base ["width", "value", "part", "one"] "need_polys" (topS 20) f cdv A outer s H G) [some (.int wd), some (.list [seqD l es]), some (.str x), none] (.Name "value" q) (.list [seqD l es]) := fun q => e_name 1 rfl (.inl rfl) rfl
    refine bd_ifF ((tw_or (k := false) (l := false) ((t_not (t_val (e_call F (hr.mono (by decide)) (by rfl) (as_cons (n1 _) as_nil) ⟨false, _, rfl, rfl⟩))).eq rfl) fun _ => tw_or1 ((t_not (t_val (e_all (bs := [true]) rfl (by rfl) ma (e_lc (own := [("one", 3)]) (g := gName 3) (F := fun _ => .bool true) (ρ' := fun d => (wipeR _ [3]).set 3 (some d)) rfl sc19.nd (blkOk_by (own := [("one", 3)]) (N := ["width", "value", "part", "one"]) (sc := defScope (topS 20)) (by decide +kernel)) (fun _ _ _ _ _ => pg_name (i := 3) sc19.nd rfl (Or.inl rfl)) (it_list (n1 _)) (fun d _ => gt_name (by simp)) (fun d hd => ?_) (by show 1 < 100000; decide))))).eq rfl)).t.eq rfl) (bd_ret ((e_tupOf (k := false) (by rfl) mt (e_lc (own := [("one", 3)]) (g := gName 3) (F := fun _ => polD p) (ρ' := fun d => (wipeR _ [3]).set 3 (some d)) rfl sc19.nd (blkOk_by (own := [("one", 3)]) (N := ["width", "value", "part", "one"]) (sc := defScope (topS 20)) (by decide +kernel)) (fun _ _ _ _ _ => pg_name (i := 3) sc19.nd rfl (Or.inl rfl)) (it_list (n1 _)) (fun d _ => gt_name (by simp)) (fun d hd => ?_) (by show 1 < 100000; decide))).eq rfl))
    · obtain rfl := List.mem_singleton.mp hd
      intro s0 H0 C cl fp
      exact e_call F1 hr (by rfl) (as_cons (e_name 0 rfl (.inr (.inl rfl)) rfl) (as_cons (e_name 3 rfl (.inl rfl) rfl) as_nil)) ⟨wd, p, l, es, rfl, ht, hg, rfl⟩
    · obtain rfl := List.mem_singleton.mp hd
      intro s0 H0 C cl fp
      exact e_call F2 (hr.mono (by decide)) (by rfl) (as_cons (e_name 3 rfl (.inl rfl) rfl) as_nil) ⟨p, l, es, rfl, ht, hg.l, rfl⟩
/-- need_width -/
def RWidth (ds : List PyData) (d : PyData) : Prop := ∃ wd : Int, ds = [.int wd] ∧ 0 ≤ wd ∧ wd ≤ 16 ∧ d = .none
theorem fn_width (D : Dfn K mg "need_width" (topS 30)) {u : Tok} (mM : mg "MOST_WIDTH" = some (.int 16 u)) (F : Fn P w K mg base "is_within" 2 ["value", "least", "most"] (spP RWithin)) : Fn P w K mg base "need_width" 3 ["value"] (spP RWidth) :=
  fn_blkN (k := 2) D sc20 (fun ds d h => by obtain ⟨p, rfl, _⟩ := h; rfl) (fun kV doc pm an cdv ct us hl => by
    match us, hl with
    | [a], _ => rfl) fun f cdv A outer s H G hr ds d h => by
    obtain ⟨wd, rfl, h1, h2, rfl⟩ := h
    have n0 : ∀ q, E (cxB P w K mg base ["value"] "need_width" (topS 30) f cdv A outer s H G) [some (.int wd)] (.Name "value" q) (.int wd) := fun q => e_name 0 rfl (.inl rfl) rfl
    refine bk_if1 (B := fun z => z = false) (tf_t ((t_not (t_val (e_call F hr (by rfl) (as_cons (n0 _) (as_cons e_int (as_cons (e_globI (by rfl) mM) as_nil))) ⟨wd, 0, 16, rfl, rfl⟩))).eq ?_)) (fun z => nomatch z) fun _ => bk_nil rfl
    rw [decide_eq_true h1, decide_eq_true h2]
    rfl
end
end R1

set_option Elab.async false
set_option linter.all false
set_option maxRecDepth 100000
set_option maxHeartbeats 4000000
/-! K00W4: worths, choices, products down: walks. -/
namespace R1
open PySem PySem.Spec PyProof.Rows L2 Evl
def pwF (a : Int) (q : Int × Int) : Int := a * q.1 ^ q.2.toNat
def tmW (t : Tm) (xs : List Int) : Int := (xs.zip t.2).foldl pwF t.1
def worth (p : List Tm) (xs : List Int) : Int := p.foldl (fun a t => a + tmW t xs) 0
theorem pairs_ints (a b : List Int) : pairs (a.map .int) (b.map .int) = (a.zip b).map fun q => .tuple [.int q.1, .int q.2] := by
  unfold pairs
  rw [List.zip_map, List.map_map]
  rfl
theorem foldl_take {α β : Type} (f : β → α → β) (b : β) {l : List α} {j : Nat} {x : α} (h : l[j]? = some x) : (l.take (j + 1)).foldl f b = f ((l.take j).foldl f b) x := by
  rw [List.take_add_one, h, List.foldl_append]
  rfl
theorem get_map {α : Type} {f : α → PyData} {l : List α} {j : Nat} {d : PyData} (h : (l.map f)[j]? = some d) : ∃ x, l[j]? = some x ∧ f x = d := by
  rw [List.getElem?_map] at h
  cases q : l[j]? with
  | none => rw [q] at h; cases h
  | some x => rw [q] at h; exact ⟨x, rfl, Option.some.inj h⟩
theorem get_upto {lo : Int} {n j : Nat} {d : PyData} (h : (upto lo n)[j]? = some d) : j < n ∧ d = .int (lo + (j : Int)) := by
  have hl : j < (upto lo n).length := (List.getElem?_eq_some_iff.mp h).1
  rw [upto_len] at hl
  rw [upto_get hl] at h
  exact ⟨hl, (Option.some.inj h).symm⟩
abbrev Sm (x : Int) : Prop := -(2 ^ 64) < x ∧ x < 2 ^ 64
abbrev worthN : List Str := ["poly", "numbers", "found", "coefficient", "powers", "part", "number", "count", "lap"]
theorem sc26 : FnScope worthN ["poly", "numbers"] (defScope (topS 38)) := ⟨rfl, rfl, rfl, by decide +kernel, rfl, by decide +kernel, by decide +kernel⟩
theorem sc32 : FnScope worthN ["poly", "numbers"] (defScope (topS 51)) := ⟨rfl, rfl, rfl, by decide +kernel, rfl, by decide +kernel, by decide +kernel⟩
/-- what a polynomial comes to -/
def RWorth (ds : List PyData) (d : PyData) : Prop := ∃ (p : List Tm) (k : Bool) (xs : List Int), ds = [polD p, seqD k (xs.map .int)] ∧ (∀ x ∈ xs, Sm x) ∧ (∀ t ∈ p, ∀ n ∈ t.2, 0 ≤ n ∧ n ≤ 1000) ∧ d = .int (worth p xs)
section
variable {P : Program} {w : World} {K : PySem.W.Frag} {mg : Str → Option Value} {base : Heap} {k : Nat}
theorem fn_worthAt (D : Dfn K mg "worth_at" (topS 38)) (mz : mg "zip" = none) (mr : mg "range" = none) : Fn P w K mg base "worth_at" 1 ["poly", "numbers"] (spP RWorth) :=
  fn_blk (k := 0) D sc26 (fun ds d h => by obtain ⟨p, q, r, rfl, _⟩ := h; rfl) (fun kV doc pm an cdv ct us hl => by
    match us, hl with
    | [a, b], _ => rfl) fun f cdv A outer s H G hr ds d h => by
    obtain ⟨p, l, xs, rfl, hs, hp, rfl⟩ := h
    refine bk_set (i := 2) sc26.nd rfl (.inl rfl) (ef_e e_int) fun d hd => ?_
    subst hd
    refine bk_for (ts := [3, 4]) (fun j ρ μ => ρ = [some (polD p), some (seqD l (xs.map .int)), some (.int ((p.take j).foldl (fun a t => a + tmW t xs) 0)), none, none, none, none, none, none] ∧ ∀ i, μ i = none) PassesOwn.never rfl
      (pg_tup rfl (pgs_cons (pg_name (i := 3) sc26.nd rfl (Or.inl rfl)) (pgs_cons (pg_name (i := 4) sc26.nd rfl (Or.inl rfl)) pgs_nil))) (it_tup (e_name 0 rfl (.inl rfl) rfl)) ⟨rfl, fun i => by unfold mu; split <;> rfl⟩ (fun j d ρj μj hd hI => ?_) fun ρ' μ' hI => ?_
    · obtain ⟨rfl, hμ⟩ := hI
      obtain ⟨t, ht, rfl⟩ := get_map hd
      have htm : t ∈ p := List.mem_of_getElem? ht
      refine ⟨_, gt_tup2 (by simp) (by simp), fun t _ => hμ t, ?_⟩
      refine bk_set (i := 5) sc26.nd rfl (.inl rfl) (ef_e (e_name 3 rfl (.inl rfl) rfl)) fun d hd => ?_
      subst hd
      refine bk_for (ts := [6, 7]) (fun i ρ μ => ρ = [some (polD p), some (seqD l (xs.map .int)), some (.int ((p.take j).foldl (fun a t => a + tmW t xs) 0)), some (.int t.1), some (pwD t.2), some (.int (((xs.zip t.2).take i).foldl pwF t.1)), none, none, none] ∧ ∀ i, μ i = none) PassesOwn.never rfl
        (pg_tup rfl (pgs_cons (pg_name (i := 6) sc26.nd rfl (Or.inl rfl)) (pgs_cons (pg_name (i := 7) sc26.nd rfl (Or.inl rfl)) pgs_nil))) (it_zip (k := l) (l := true) (by rfl) mz (e_name 1 rfl (.inl rfl) rfl) (e_name 4 rfl (.inl rfl) rfl)) ⟨rfl, fun i => by
          show mu μj 5 none i = none
          unfold mu
          split
          · rfl
          · exact hμ i⟩ (fun i d ρi μi hd hI => ?_) fun ρ' μ' hI => ?_
      · obtain ⟨rfl, hμ'⟩ := hI
        rw [pairs_ints] at hd
        obtain ⟨q, hq, rfl⟩ := get_map hd
        have hqm : q ∈ xs.zip t.2 := List.mem_of_getElem? hq
        have hx := hs q.1 (List.of_mem_zip hqm).1
        have hn := hp t htm q.2 (List.of_mem_zip hqm).2
        refine ⟨_, gt_tup2 (by simp) (by simp), fun t _ => hμ' t, ?_⟩
        refine bk_for (ts := [8]) (fun n ρ μ => ρ = [some (polD p), some (seqD l (xs.map .int)), some (.int ((p.take j).foldl (fun a t => a + tmW t xs) 0)), some (.int t.1), some (pwD t.2), some (.int (((xs.zip t.2).take i).foldl pwF t.1 * q.1 ^ n)), some (.int q.1), some (.int q.2), none] ∧ ∀ i, μ i = none) PassesOwn.never rfl
          (pg_name (i := 8) sc26.nd rfl (Or.inl rfl)) (it_range1 (by rfl) mr (e_name 7 rfl (.inl rfl) rfl) (by omega) (by omega)) ⟨by rw [Int.pow_zero, Int.mul_one]; rfl, hμ'⟩ (fun n d ρn μn hd hI => ?_) fun ρ' μ' hI => ?_
        · obtain ⟨rfl, hμ3⟩ := hI
          refine ⟨_, gt_name (by simp), fun t _ => hμ3 t, ?_⟩
          refine bk_set (i := 5) sc26.nd rfl (.inl rfl) (ef_e (e_mul (e_name 5 rfl (.inl rfl) rfl) (e_name 6 rfl (.inl rfl) rfl) (.inr hx))) fun d hd => ?_
          subst hd
          refine bk_forget (ρ' := [some (polD p), some (seqD l (xs.map .int)), some (.int ((p.take j).foldl (fun a t => a + tmW t xs) 0)), some (.int t.1), some (pwD t.2), some (.int (((xs.zip t.2).take i).foldl pwF t.1 * q.1 ^ n * q.1)), some (.int q.1), some (.int q.2), none]) (by repeat (first | exact .nil | refine .keep ?_ | refine .drop ?_)) (bk_nil ⟨?_, fun i => ?_⟩)
          · rw [Int.pow_succ, ← Int.mul_assoc]
          · unfold mu
            split
            · rfl
            · exact hμ3 i
        · obtain ⟨rfl, hμ3⟩ := hI
          refine bk_forget (ρ' := [some (polD p), some (seqD l (xs.map .int)), some (.int ((p.take j).foldl (fun a t => a + tmW t xs) 0)), some (.int t.1), some (pwD t.2), some (.int (((xs.zip t.2).take i).foldl pwF t.1 * q.1 ^ (upto 0 q.2.toNat).length)), none, none, none]) (by repeat (first | exact .nil | refine .keep ?_ | refine .drop ?_)) (bk_nil ⟨?_, hμ3⟩)
          rw [foldl_take pwF t.1 hq, upto_len]
          rfl
      · obtain ⟨rfl, hμ'⟩ := hI
        refine bk_set (i := 2) sc26.nd rfl (.inl rfl) (ef_e (e_add (e_name 2 rfl (.inl rfl) rfl) (e_name 5 rfl (.inl rfl) rfl))) fun d hd => ?_
        subst hd
        refine bk_forget (ρ' := [some (polD p), some (seqD l (xs.map .int)), some (.int ((p.take j).foldl (fun a t => a + tmW t xs) 0 + ((xs.zip t.2).take (pairs (xs.map .int) (t.2.map .int)).length).foldl pwF t.1)), none, none, none, none, none, none]) (by repeat (first | exact .nil | refine .keep ?_ | refine .drop ?_)) (bk_nil ⟨?_, fun i => ?_⟩)
        · rw [foldl_take (fun a t => a + tmW t xs) 0 ht, pairs_ints, List.length_map, List.take_length]
          rfl
        · unfold mu
          split
          · rfl
          · exact hμ' i
    · obtain ⟨rfl, hμ⟩ := hI
      refine bk_ret (ef_e (e_name 2 rfl (.inl rfl) rfl)) fun d hd => ?_
      subst hd
      rw [List.length_map, List.take_length]
      rfl
theorem fn_lawWorth (D : Dfn K mg "_law_worth" (topS 51)) (mz : mg "zip" = none) (mr : mg "range" = none) : Fn P w K mg base "_law_worth" 1 ["poly", "numbers"] (spP RWorth) :=
  fn_blk (k := 0) D sc32 (fun ds d h => by obtain ⟨p, q, r, rfl, _⟩ := h; rfl) (fun kV doc pm an cdv ct us hl => by
    match us, hl with
    | [a, b], _ => rfl) fun f cdv A outer s H G hr ds d h => by
    obtain ⟨p, l, xs, rfl, hs, hp, rfl⟩ := h
    refine bk_set (i := 2) sc32.nd rfl (.inl rfl) (ef_e e_int) fun d hd => ?_
    subst hd
    refine bk_for (ts := [3, 4]) (fun j ρ μ => ρ = [some (polD p), some (seqD l (xs.map .int)), some (.int ((p.take j).foldl (fun a t => a + tmW t xs) 0)), none, none, none, none, none, none] ∧ ∀ i, μ i = none) PassesOwn.never rfl
      (pg_tup rfl (pgs_cons (pg_name (i := 3) sc32.nd rfl (Or.inl rfl)) (pgs_cons (pg_name (i := 4) sc32.nd rfl (Or.inl rfl)) pgs_nil))) (it_tup (e_name 0 rfl (.inl rfl) rfl)) ⟨rfl, fun i => by unfold mu; split <;> rfl⟩ (fun j d ρj μj hd hI => ?_) fun ρ' μ' hI => ?_
    · obtain ⟨rfl, hμ⟩ := hI
      obtain ⟨t, ht, rfl⟩ := get_map hd
      have htm : t ∈ p := List.mem_of_getElem? ht
      refine ⟨_, gt_tup2 (by simp) (by simp), fun t _ => hμ t, ?_⟩
      refine bk_set (i := 5) sc32.nd rfl (.inl rfl) (ef_e (e_name 3 rfl (.inl rfl) rfl)) fun d hd => ?_
      subst hd
      refine bk_for (ts := [6, 7]) (fun i ρ μ => ρ = [some (polD p), some (seqD l (xs.map .int)), some (.int ((p.take j).foldl (fun a t => a + tmW t xs) 0)), some (.int t.1), some (pwD t.2), some (.int (((xs.zip t.2).take i).foldl pwF t.1)), none, none, none] ∧ ∀ i, μ i = none) PassesOwn.never rfl
        (pg_tup rfl (pgs_cons (pg_name (i := 6) sc32.nd rfl (Or.inl rfl)) (pgs_cons (pg_name (i := 7) sc32.nd rfl (Or.inl rfl)) pgs_nil))) (it_zip (k := l) (l := true) (by rfl) mz (e_name 1 rfl (.inl rfl) rfl) (e_name 4 rfl (.inl rfl) rfl)) ⟨rfl, fun i => by
          show mu μj 5 none i = none
          unfold mu
          split
          · rfl
          · exact hμ i⟩ (fun i d ρi μi hd hI => ?_) fun ρ' μ' hI => ?_
      · obtain ⟨rfl, hμ'⟩ := hI
        rw [pairs_ints] at hd
        obtain ⟨q, hq, rfl⟩ := get_map hd
        have hqm : q ∈ xs.zip t.2 := List.mem_of_getElem? hq
        have hx := hs q.1 (List.of_mem_zip hqm).1
        have hn := hp t htm q.2 (List.of_mem_zip hqm).2
        refine ⟨_, gt_tup2 (by simp) (by simp), fun t _ => hμ' t, ?_⟩
        refine bk_for (ts := [8]) (fun n ρ μ => ρ = [some (polD p), some (seqD l (xs.map .int)), some (.int ((p.take j).foldl (fun a t => a + tmW t xs) 0)), some (.int t.1), some (pwD t.2), some (.int (((xs.zip t.2).take i).foldl pwF t.1 * q.1 ^ n)), some (.int q.1), some (.int q.2), none] ∧ ∀ i, μ i = none) PassesOwn.never rfl
          (pg_name (i := 8) sc32.nd rfl (Or.inl rfl)) (it_range1 (by rfl) mr (e_name 7 rfl (.inl rfl) rfl) (by omega) (by omega)) ⟨by rw [Int.pow_zero, Int.mul_one]; rfl, hμ'⟩ (fun n d ρn μn hd hI => ?_) fun ρ' μ' hI => ?_
        · obtain ⟨rfl, hμ3⟩ := hI
          refine ⟨_, gt_name (by simp), fun t _ => hμ3 t, ?_⟩
          refine bk_set (i := 5) sc32.nd rfl (.inl rfl) (ef_e (e_mul (e_name 5 rfl (.inl rfl) rfl) (e_name 6 rfl (.inl rfl) rfl) (.inr hx))) fun d hd => ?_
          subst hd
          refine bk_forget (ρ' := [some (polD p), some (seqD l (xs.map .int)), some (.int ((p.take j).foldl (fun a t => a + tmW t xs) 0)), some (.int t.1), some (pwD t.2), some (.int (((xs.zip t.2).take i).foldl pwF t.1 * q.1 ^ n * q.1)), some (.int q.1), some (.int q.2), none]) (by repeat (first | exact .nil | refine .keep ?_ | refine .drop ?_)) (bk_nil ⟨?_, fun i => ?_⟩)
          · rw [Int.pow_succ, ← Int.mul_assoc]
          · unfold mu
            split
            · rfl
            · exact hμ3 i
        · obtain ⟨rfl, hμ3⟩ := hI
          refine bk_forget (ρ' := [some (polD p), some (seqD l (xs.map .int)), some (.int ((p.take j).foldl (fun a t => a + tmW t xs) 0)), some (.int t.1), some (pwD t.2), some (.int (((xs.zip t.2).take i).foldl pwF t.1 * q.1 ^ (upto 0 q.2.toNat).length)), none, none, none]) (by repeat (first | exact .nil | refine .keep ?_ | refine .drop ?_)) (bk_nil ⟨?_, hμ3⟩)
          rw [foldl_take pwF t.1 hq, upto_len]
          rfl
      · obtain ⟨rfl, hμ'⟩ := hI
        refine bk_set (i := 2) sc32.nd rfl (.inl rfl) (ef_e (e_add (e_name 2 rfl (.inl rfl) rfl) (e_name 5 rfl (.inl rfl) rfl))) fun d hd => ?_
        subst hd
        refine bk_forget (ρ' := [some (polD p), some (seqD l (xs.map .int)), some (.int ((p.take j).foldl (fun a t => a + tmW t xs) 0 + ((xs.zip t.2).take (pairs (xs.map .int) (t.2.map .int)).length).foldl pwF t.1)), none, none, none, none, none, none]) (by repeat (first | exact .nil | refine .keep ?_ | refine .drop ?_)) (bk_nil ⟨?_, fun i => ?_⟩)
        · rw [foldl_take (fun a t => a + tmW t xs) 0 ht, pairs_ints, List.length_map, List.take_length]
          rfl
        · unfold mu
          split
          · rfl
          · exact hμ' i
    · obtain ⟨rfl, hμ⟩ := hI
      refine bk_ret (ef_e (e_name 2 rfl (.inl rfl) rfl)) fun d hd => ?_
      subst hd
      rw [List.length_map, List.take_length]
      rfl
end
end R1

set_option Elab.async false
set_option linter.all false
set_option maxRecDepth 100000
set_option maxHeartbeats 4000000
/-! K00W5: choices, products down, parts: walks. -/
namespace R1
open PySem PySem.Spec PyProof.Rows L2 Evl
def cho (n : Int) : Nat → Int
  | 0 => 1
  | k + 1 => (cho n k * (n - k)).fdiv (k + 1)
def facI : Nat → Int
  | 0 => 1
  | n + 1 => facI n * (n + 1)
def stepI (acc : List Int) (q : Int × Nat) : List Int :=
  (acc.set q.2 (acc.getD q.2 0 + q.2 * q.1)).set (q.2 + 1) ((acc.set q.2 (acc.getD q.2 0 + q.2 * q.1)).getD (q.2 + 1) 0 + q.1)
def stepS (l : List Int) : List Int := l.zipIdx.foldl stepI (List.replicate (l.length + 1) 0)
def stir : Nat → List Int
  | 0 => [1]
  | n + 1 => stepS (stir n)
theorem stepI_len (acc : List Int) (q : Int × Nat) : (stepI acc q).length = acc.length := by
  unfold stepI
  rw [List.length_set, List.length_set]
theorem foldI_len : ∀ (l : List (Int × Nat)) (acc : List Int), (l.foldl stepI acc).length = acc.length
  | [], acc => rfl
  | q :: l, acc => by
    show (l.foldl stepI (stepI acc q)).length = _
    rw [foldI_len l, stepI_len]
theorem stepS_len (l : List Int) : (stepS l).length = l.length + 1 := by
  unfold stepS
  rw [foldI_len, List.length_replicate]
theorem stir_len : ∀ n, (stir n).length = n + 1
  | 0 => rfl
  | n + 1 => by
    show (stepS (stir n)).length = _
    rw [stepS_len, stir_len n]
theorem atI_nat {α : Type} {xs : List α} {i : Nat} {d : α} (h : xs[i]? = some d) : atI xs (i : Int) = some d := by
  have hi : i < xs.length := (List.getElem?_eq_some_iff.mp h).1
  unfold atI ixN
  rw [if_pos (by omega), if_pos (by omega)]
  exact h
theorem ixN_nat {n i : Nat} (h : i < n) : ixN n (i : Int) = some i := by
  unfold ixN
  rw [if_pos (by omega), if_pos (by omega)]
  simp
theorem get_counted {ds : List PyData} {j : Nat} {d : PyData} (h : (counted ds)[j]? = some d) : ∃ x, ds[j]? = some x ∧ d = .tuple [.int (j : Int), x] := by
  have hl : j < (counted ds).length := (List.getElem?_eq_some_iff.mp h).1
  rw [counted_len] at hl
  have := counted_get (List.getElem?_eq_getElem hl)
  rw [h] at this
  exact ⟨_, List.getElem?_eq_getElem hl, Option.some.inj this⟩
theorem get_list {α : Type} {xs : List α} {i : Nat} {d : α} (h : i < xs.length) (e : xs.getD i d = d) : True := trivial
theorem map_getD {l : List Int} {i : Nat} (h : i < l.length) : (l.map PyData.int)[i]? = some (.int (l.getD i 0)) := by
  rw [List.getElem?_map, List.getElem?_eq_getElem h, List.getD_eq_getElem?_getD, List.getElem?_eq_getElem h]
  rfl
def RCho (ds : List PyData) (d : PyData) : Prop := ∃ n k : Int, ds = [.int n, .int k] ∧ 0 ≤ n ∧ n ≤ 1000 ∧ 0 ≤ k ∧ k ≤ 1000 ∧ d = .int (cho n k.toNat)
def RDown (ds : List PyData) (d : PyData) : Prop := ∃ n : Int, ds = [.int n] ∧ 0 ≤ n ∧ n ≤ 1000 ∧ d = .int (facI n.toNat)
def RParts (ds : List PyData) (d : PyData) : Prop := ∃ n : Int, ds = [.int n] ∧ 0 ≤ n ∧ n ≤ 1000 ∧ d = .list ((stir n.toNat).map .int)
section
variable {P : Program} {w : World} {K : PySem.W.Frag} {mg : Str → Option Value} {base : Heap} {k : Nat}
end
end R1

set_option Elab.async false
set_option linter.all false
set_option maxRecDepth 100000
set_option maxHeartbeats 4000000
/-! K00W6: falling_of: the walk. -/
namespace R1
open PySem PySem.Spec PyProof.Rows L2 Evl
/-! ### dicts from rows to whole numbers -/
abbrev KI := List (List Int × Int)
def kiD (m : KI) : List (List Int × PyData) := m.map fun q => (q.1, .int q.2)
def kiGet (m : KI) (p : List Int) : Int := ((m.find? fun q => decide (q.1 = p)).map (·.2)).getD 0
def kiPut (m : KI) (p : List Int) (c : Int) : KI := if (m.any fun q => decide (q.1 = p)) = true then m.map (fun q => if q.1 = p then (q.1, c) else q) else m ++ [(p, c)]
def kiAdd (m : KI) (p : List Int) (c : Int) : KI := kiPut m p (kiGet m p + c)
theorem kvGet_kiD (p : List Int) : ∀ m : KI, (kvGet (kiD m) p).getD (.int 0) = .int (kiGet m p)
  | [] => rfl
  | q :: m => by
    by_cases e : q.1 = p
    · have h1 : kvGet (kiD (q :: m)) p = some (.int q.2) := kvGet_pos (q := (q.1, .int q.2)) e
      have h2 : kiGet (q :: m) p = q.2 := by simp [kiGet, List.find?_cons, e]
      rw [h1, h2]
      rfl
    · have h1 : kvGet (kiD (q :: m)) p = kvGet (kiD m) p := kvGet_neg (q := (q.1, .int q.2)) e
      have h2 : kiGet (q :: m) p = kiGet m p := by simp [kiGet, List.find?_cons, e]
      rw [h1, h2, kvGet_kiD p m]
theorem kvGet_kiD' {p : List Int} : ∀ {m : KI}, p ∈ m.map (·.1) → kvGet (kiD m) p = some (.int (kiGet m p))
  | q :: m, h => by
    by_cases e : q.1 = p
    · have h1 : kvGet (kiD (q :: m)) p = some (.int q.2) := kvGet_pos (q := (q.1, .int q.2)) e
      have h2 : kiGet (q :: m) p = q.2 := by simp [kiGet, List.find?_cons, e]
      rw [h1, h2]
    · have h1 : kvGet (kiD (q :: m)) p = kvGet (kiD m) p := kvGet_neg (q := (q.1, .int q.2)) e
      have h2 : kiGet (q :: m) p = kiGet m p := by simp [kiGet, List.find?_cons, e]
      rw [h1, h2]
      refine kvGet_kiD' ?_
      rw [List.map_cons] at h
      exact (List.mem_cons.mp h).resolve_left fun z => e z.symm
theorem kvPut_kiD (p : List Int) (c : Int) (m : KI) : kvPut (kiD m) p (.int c) = kiD (kiPut m p c) := by
  unfold kvPut kiPut
  have h1 : ((kiD m).any fun kv => decide (kv.1 = p)) = m.any fun q => decide (q.1 = p) := by
    unfold kiD
    rw [List.any_map]
    rfl
  rw [h1]
  split
  · unfold kiD
    rw [List.map_map, List.map_map]
    refine List.map_congr_left fun q _ => ?_
    show (if q.1 = p then (q.1, PyData.int c) else (q.1, PyData.int q.2)) = (fun z : List Int × Int => (z.1, PyData.int z.2)) (if q.1 = p then (q.1, c) else q)
    by_cases e : q.1 = p
    · rw [if_pos e, if_pos e]
    · rw [if_neg e, if_neg e]
  · unfold kiD
    rw [List.map_append]
    rfl
theorem kiPut_len (m : KI) (p : List Int) (c : Int) : (kiPut m p c).length ≤ m.length + 1 := by
  unfold kiPut
  split
  · rw [List.length_map]; omega
  · rw [List.length_append, List.length_singleton]; omega
theorem kiAdd_len (m : KI) (p : List Int) (c : Int) : (kiAdd m p c).length ≤ m.length + 1 := kiPut_len _ _ _
theorem kiD_len (m : KI) : (kiD m).length = m.length := List.length_map _
theorem fold_len {α : Type} {f : KI → α → KI} {c : Nat} (h : ∀ b a, (f b a).length ≤ b.length + c) : ∀ (l : List α) (b : KI), (l.foldl f b).length ≤ b.length + c * l.length
  | [], b => by simp
  | a :: l, b => by
    have h1 := fold_len h l (f b a)
    have h2 := h b a
    show (l.foldl f (f b a)).length ≤ _
    rw [List.length_cons, Nat.mul_succ]
    omega
/-- one row moved along -/
def cellF (q : List Int × Int) (l : KI) (z : Int × Nat) : KI := if z.1 ≠ 0 then kiAdd l (q.1 ++ [(z.2 : Int)]) (q.2 * z.1) else l
def rowF (c : Int) (l : KI) (q : List Int × Int) : KI := (stir c.toNat).zipIdx.foldl (cellF q) l
def rowsF (rows : KI) (c : Int) : KI := rows.foldl (rowF c) []
def rowsOf (t : Tm) : KI := t.2.foldl rowsF [([], t.1)]
def putF (f : KI) (q : List Int × Int) : KI := kiAdd f q.1 q.2
def fallF (f : KI) (t : Tm) : KI := (rowsOf t).foldl putF f
def fallD (p : List Tm) : KI := p.foldl fallF []
def fall (p : List Tm) : List Tm := (srtP (((fallD p).filter fun q => decide (q.2 ≠ 0)).map (·.1))).map fun q => (kiGet (fallD p) q, q)
theorem cellF_len (q : List Int × Int) (l : KI) (z : Int × Nat) : (cellF q l z).length ≤ l.length + 1 := by
  unfold cellF
  split
  · exact kiAdd_len _ _ _
  · omega
theorem cells_len (q : List Int × Int) (l : KI) (zs : List (Int × Nat)) : (zs.foldl (cellF q) l).length ≤ l.length + zs.length := by
  have := fold_len (c := 1) (cellF_len q) zs l
  omega
theorem rowF_len {c : Int} (hc : c ≤ 6) (l : KI) (q : List Int × Int) : (rowF c l q).length ≤ l.length + 7 := by
  have := cells_len q l (stir c.toNat).zipIdx
  rw [List.length_zipIdx, stir_len] at this
  unfold rowF
  omega
theorem rows_len {c : Int} (hc : c ≤ 6) (l : KI) (rs : KI) : (rs.foldl (rowF c) l).length ≤ l.length + 7 * rs.length := fold_len (rowF_len hc) rs l
theorem rowsOf_len : ∀ (cs : List Int) (b : KI), (∀ c ∈ cs, c ≤ 6) → (cs.foldl rowsF b).length ≤ b.length * 7 ^ cs.length
  | [], b, _ => by simp
  | c :: cs, b, h => by
    have h1 := rowsOf_len cs (rowsF b c) fun x hx => h x (.tail _ hx)
    have h2 := rows_len (h c (.head _)) [] b
    rw [List.length_nil, Nat.zero_add] at h2
    have h3 : (rowsF b c).length * 7 ^ cs.length ≤ 7 * b.length * 7 ^ cs.length := Nat.mul_le_mul_right _ h2
    show (cs.foldl rowsF (rowsF b c)).length ≤ _
    rw [List.length_cons, Nat.pow_succ]
    have h4 : 7 * b.length * 7 ^ cs.length = b.length * (7 ^ cs.length * 7) := by
      rw [Nat.mul_comm 7 b.length, Nat.mul_assoc, Nat.mul_comm 7]
    omega
structure TmS (t : Tm) : Prop where
  l : t.2.length ≤ 3
  n : ∀ x ∈ t.2, 0 ≤ x ∧ x ≤ 6
theorem pow7 {n : Nat} (h : n ≤ 3) : 7 ^ n ≤ 343 := by
  match n, h with
  | 0, _ => decide
  | 1, _ => decide
  | 2, _ => decide
  | 3, _ => decide
theorem partial_len {t : Tm} (h : TmS t) (i : Nat) : ((t.2.take i).foldl rowsF [([], t.1)]).length ≤ 343 := by
  have h1 := rowsOf_len (t.2.take i) [([], t.1)] fun c hc => (h.n c (List.mem_of_mem_take hc)).2
  have h2 : (t.2.take i).length ≤ 3 := by rw [List.length_take]; have := h.l; omega
  have h3 := pow7 h2
  rw [List.length_singleton, Nat.one_mul] at h1
  omega
theorem rowsOf_343 {t : Tm} (h : TmS t) : (rowsOf t).length ≤ 343 := by
  have := partial_len h t.2.length
  rwa [List.take_length] at this
theorem fallF_len {f : KI} {t : Tm} (h : TmS t) : (fallF f t).length ≤ f.length + 343 := by
  have h1 := fold_len (c := 1) (f := putF) (fun b a => kiAdd_len _ _ _) (rowsOf t) f
  have h2 := rowsOf_343 h
  unfold fallF
  omega
theorem fallD_len : ∀ (p : List Tm) (f : KI), (∀ t ∈ p, TmS t) → (p.foldl fallF f).length ≤ f.length + 343 * p.length
  | [], f, _ => by simp
  | t :: p, f, h => by
    have h1 := fallD_len p (fallF f t) fun x hx => h x (.tail _ hx)
    have h2 := fallF_len (f := f) (h t (.head _))
    show (p.foldl fallF (fallF f t)).length ≤ _
    rw [List.length_cons]
    omega
theorem kiPut_mem {m : KI} {p q : List Int} {c : Int} (h : q ∈ (kiPut m p c).map (·.1)) : q ∈ m.map (·.1) ∨ q = p := by
  unfold kiPut at h
  split at h
  · left
    rw [List.map_map] at h
    obtain ⟨z, hz, rfl⟩ := List.mem_map.mp h
    refine List.mem_map.mpr ⟨z, hz, ?_⟩
    show z.1 = (if z.1 = p then (z.1, c) else z).1
    split <;> rfl
  · rw [List.map_append] at h
    rcases List.mem_append.mp h with h | h
    · exact .inl h
    · exact .inr (List.mem_singleton.mp h)
def AllLen (n : Nat) (m : KI) : Prop := ∀ q ∈ m.map (·.1), q.length = n
theorem allLen_add {n : Nat} {m : KI} {p : List Int} {c : Int} (h : AllLen n m) (hp : p.length = n) : AllLen n (kiAdd m p c) := fun q hq => by
  rcases kiPut_mem hq with h1 | rfl
  · exact h q h1
  · exact hp
theorem allLen_cells {n : Nat} {q : List Int × Int} (hq : q.1.length = n) : ∀ (zs : List (Int × Nat)) (l : KI), AllLen (n + 1) l → AllLen (n + 1) (zs.foldl (cellF q) l)
  | [], l, h => h
  | z :: zs, l, h => by
    refine allLen_cells hq zs (cellF q l z) ?_
    unfold cellF
    split
    · exact allLen_add h (by rw [List.length_append, hq]; rfl)
    · exact h
theorem allLen_rows {n : Nat} {c : Int} : ∀ (rs l : KI), AllLen n rs → AllLen (n + 1) l → AllLen (n + 1) (rs.foldl (rowF c) l)
  | [], l, _, h => h
  | q :: rs, l, hr, h => by
    refine allLen_rows rs (rowF c l q) (fun x hx => hr x (by rw [List.map_cons]; exact .tail _ hx)) ?_
    exact allLen_cells (hr q.1 (by rw [List.map_cons]; exact .head _)) _ _ h
theorem allLen_fold : ∀ (cs : List Int) (n : Nat) (b : KI), AllLen n b → AllLen (n + cs.length) (cs.foldl rowsF b)
  | [], n, b, h => h
  | c :: cs, n, b, h => by
    have := allLen_fold cs (n + 1) (rowsF b c) (allLen_rows b [] h (fun q hq => nomatch hq))
    rw [List.length_cons, Nat.add_comm cs.length 1, ← Nat.add_assoc]
    exact this
theorem partial_keys {t : Tm} (i : Nat) : AllLen (t.2.take i).length ((t.2.take i).foldl rowsF [([], t.1)]) := by
  have := allLen_fold (t.2.take i) 0 [([], t.1)] fun q hq => by
    have hq : q ∈ [([] : List Int)] := hq
    rw [List.mem_singleton.mp hq]
    rfl
  rwa [Nat.zero_add] at this
theorem stir_small : ∀ n, n ≤ 6 → ∀ x ∈ stir n, 0 ≤ x ∧ x ≤ 1000 := by decide +kernel
section
variable {X : Cx} {ρ : Ro} {μ : Mo} {rest : List Stmt} {N : Ro → Mo → Prop} {R : PyData → Mo → Prop} {i : Nat} {y : Str} {py : Pos} {elt c tg iter : Expr} {scope : Scope} {own : List (Str × Nat)} {pos spos : Pos} {g : TG} {ds : List PyData} {F : PyData → PyData} {f : PyData → Bool} {ρ' : PyData → Ro}
/-- name = [elt for .. if ..] on one line -/
theorem bk_setLcIf (hc : X.calm = true) (hN : X.N.Nodup) (hy : X.N[i]? = some y) (hyl : X.env.scope.names.lookup y = some .local) (hsw : swapsWith (.ListComp elt [⟨tg, iter, [c], 0⟩] scope pos) (some (.Name y py)) spos.line X.env = pure true)
    (ok : BlkOk X.N X.env.scope scope own) (hg : PGb X scope tg g) (it : IT X ρ tg iter ds) (gt : ∀ d, d ∈ ds → Gt g (own.map (·.2)) (wipeR ρ (own.map (·.2))) d (ρ' d)) (ht : ∀ d, d ∈ ds → Tb X scope (ρ' d) c (f d)) (he : ∀ d, d ∈ ds → f d = true → Eb X scope (ρ' d) elt (F d)) (hl : ds.length < 100000)
    (k : Bk X (ρ.set i (some (.list ((ds.filter f).map F)))) (mu μ i none) rest N R) (hs : ∀ x, foldedSetIterable iter X.env x = pure x := by intro _; rfl) : Bk X ρ μ (.Assign [.Name y py] (.ListComp elt [⟨tg, iter, [c], 0⟩] scope pos) spos :: rest) N R := fun S I0 H0 I H σ α D G qn qr =>
  ws_cons (ps_setLc (wi := WI X tg iter) (g := g) (tt := WTb X scope c) (te := WEb X scope elt) hc hN hy hyl hsw pi_wi ok hg (fun s H C cl fp => pts_one ⟨fun pins s' σ H' Q I h => h s H C cl fp pins s' I⟩) (fun s H C cl fp => ⟨fun pins s' σ H' Q I h => h s H C cl fp pins s' I⟩) hs)
    (tlcIf it gt ht he hl G.e G.v _ fun v I1 H1 n1 r1 => k S I0 H0 I1 H1 _ α D ((G.step n1).set r1) qn qr)
theorem bk_setLc (hc : X.calm = true) (hN : X.N.Nodup) (hy : X.N[i]? = some y) (hyl : X.env.scope.names.lookup y = some .local) (hsw : swapsWith (.ListComp elt [⟨tg, iter, [], 0⟩] scope pos) (some (.Name y py)) spos.line X.env = pure true)
    (ok : BlkOk X.N X.env.scope scope own) (hg : PGb X scope tg g) (it : IT X ρ tg iter ds) (gt : ∀ d, d ∈ ds → Gt g (own.map (·.2)) (wipeR ρ (own.map (·.2))) d (ρ' d)) (he : ∀ d, d ∈ ds → Eb X scope (ρ' d) elt (F d)) (hl : ds.length < 100000)
    (k : Bk X (ρ.set i (some (.list (ds.map F)))) (mu μ i none) rest N R) (hs : ∀ x, foldedSetIterable iter X.env x = pure x := by intro _; rfl) : Bk X ρ μ (.Assign [.Name y py] (.ListComp elt [⟨tg, iter, [], 0⟩] scope pos) spos :: rest) N R := fun S I0 H0 I H σ α D G qn qr =>
  ws_cons (ps_setLc (wi := WI X tg iter) (g := g) (tt := tYes) (te := WEb X scope elt) hc hN hy hyl hsw pi_wi ok hg (fun s H C cl fp => pts_nil) (fun s H C cl fp => ⟨fun pins s' σ H' Q I h => h s H C cl fp pins s' I⟩) hs)
    (tlc it gt he hl G.e G.v _ fun v I1 H1 n1 r1 => k S I0 H0 I1 H1 _ α D ((G.step n1).set r1) qn qr)
end
end R1

set_option Elab.async false
set_option linter.all false
set_option maxRecDepth 100000
set_option maxHeartbeats 4000000
/-! K00W7: falling_of: the walk. -/
namespace R1
open PySem PySem.Spec PyProof.Rows L2 Evl
abbrev fallN : List Str := ["poly", "found", "coefficient", "powers", "rows", "count", "later", "ahead", "number", "at", "times", "falls", "some"]
def RFall (ds : List PyData) (d : PyData) : Prop := ∃ p : List Tm, ds = [polD p] ∧ (∀ t ∈ p, TmS t) ∧ p.length ≤ 100 ∧ d = polD (fall p)
theorem mu2 {μ : Mo} {i : Nat} {m : Option MD} (h : ∀ t, t ≠ i → μ t = none) : ∀ t, t ≠ i → mu μ i m t = none := fun t ht => by rw [mu_ne ht]; exact h t ht
theorem mu0 {μ : Mo} {i j : Nat} (h : ∀ t, t ≠ i → μ t = none) (hj : j ≠ i) : ∀ t, t ≠ i → mu μ j none t = none := fun t ht => by
  unfold mu
  split
  · rfl
  · exact h t ht
def fstD : PyData → PyData
  | .tuple (a :: _) => a
  | _ => .none
def sndD : PyData → PyData
  | .tuple (_ :: b :: _) => b
  | _ => .none
def nzD (d : PyData) : Bool := match sndD d with
  | .int i => !decide (i = 0)
  | _ => false
section
variable {P : Program} {w : World} {K : PySem.W.Frag} {mg : Str → Option Value} {base : Heap} {k : Nat}
set_option maxHeartbeats 20000000 in
end
end R1

set_option Elab.async false
set_option linter.all false
set_option maxRecDepth 100000
set_option maxHeartbeats 4000000
/-! K00W8: falling, whole_worth; the draws: walks. -/
namespace R1
open PySem PySem.Spec PyProof.Rows L2 Evl
theorem bk_drop {X : Cx} {ρ : Ro} {μ μ1 : Mo} {e : Expr} {pos : Pos} {rest : List Stmt} {N : Ro → Mo → Prop} {R : PyData → Mo → Prop} {A : PyData → Prop} (h : Ef X ρ μ e A μ1) (k : Bk X ρ μ1 rest N R) (hs : swapsWith e none pos.line X.env = pure false := by rfl) : Bk X ρ μ (.Expr e pos :: rest) N R := fun S I0 H0 I H σ α D F qn qr =>
  ws_cons (ps_expr pe_we hs) (h S I0 H0 I H σ α F _ fun v d I' H' F' x r z => k S I0 H0 I' H' σ α D F' qn qr)
theorem sc25 : FnScope ["width", "poly", "numbers", "whole"] ["width", "poly", "numbers"] (defScope (topS 37)) := ⟨rfl, rfl, rfl, by decide +kernel, rfl, by decide +kernel, by decide +kernel⟩
theorem sc29 : FnScope ["pen", "many", "rest", "at", "cell", "mixed"] ["pen", "many"] (defScope (topS 41)) := ⟨rfl, rfl, rfl, by decide +kernel, rfl, by decide +kernel, by decide +kernel⟩
theorem sc30 : FnScope ["pen", "some"] ["pen", "some"] (defScope (topS 42)) := ⟨rfl, rfl, rfl, by decide +kernel, rfl, by decide +kernel, by decide +kernel⟩
theorem sc33 : FnScope ["pen", "way"] ["pen"] (defScope (topS 52)) := ⟨rfl, rfl, rfl, by decide +kernel, rfl, by decide +kernel, by decide +kernel⟩
theorem sc34 : FnScope ["pen"] ["pen"] (defScope (topS 53)) := ⟨rfl, rfl, rfl, by decide +kernel, rfl, by decide +kernel, by decide +kernel⟩
def RFalling (ds : List PyData) (d : PyData) : Prop := ∃ (wd : Int) (p : List Tm) (k : Bool) (es : List PyData), ds = [.int wd, seqD k es] ∧ Tms p es ∧ Good wd p ∧ (∀ t ∈ p, TmS t) ∧ p.length ≤ 100 ∧ d = polD (fall p)
theorem bk_mono {X : Cx} {ρ : Ro} {μ : Mo} {b : List Stmt} {N N' : Ro → Mo → Prop} {R : PyData → Mo → Prop} (h : Bk X ρ μ b N R) (k : ∀ ρ' μ', N ρ' μ' → N' ρ' μ') : Bk X ρ μ b N' R := fun S I0 H0 I H σ α D F qn qr =>
  h S I0 H0 I H σ α D F (fun I' H' σ' ρ' μ' α' F' z => qn I' H' σ' ρ' μ' α' F' (k _ _ z)) qr
/-- if c: .. else: .., and what both leave -/
theorem bk_ifJ {X : Cx} {ρ : Ro} {μ μ1 : Mo} {c : Expr} {b1 b2 rest : List Stmt} {pos : Pos} {N : Ro → Mo → Prop} {R : PyData → Mo → Prop} {B : Bool → Prop} (J : Ro → Mo → Prop) (hc : Tf X ρ μ c B μ1) (h1 : B true → Bk X ρ μ1 b1 J R) (h2 : B false → Bk X ρ μ1 b2 J R) (k : ∀ ρ' μ', J ρ' μ' → Bk X ρ' μ' rest N R) : Bk X ρ μ (.If c b1 b2 pos :: rest) N R :=
  bk_if hc (fun z => bk_mono (h1 z) k) fun z => bk_mono (h2 z) k
theorem shaped_ints (cs : List Int) : SeqAt.shaped (.list (cs.map .int)) = true := by
  unfold SeqAt.shaped
  have h1 : PyData.canLay0 (.list (cs.map .int)) = true := canLay_ints cs
  have h2 : PyData.depth (.list (cs.map .int)) ≤ 64 := by
    show PyData.depthAll (cs.map .int) + 1 ≤ 64
    rw [depth_ints]
    decide
  rw [h1, decide_eq_true h2]
  rfl
section
variable {P : Program} {w : World} {K : PySem.W.Frag} {mg : Str → Option Value} {base : Heap} {k : Nat}
/-! ### draws -/
def PreMany (ds : List PyData) : Prop := ∃ m : Int, ds = [.int m] ∧ 1 ≤ m ∧ m ≤ 1000000000
def RMany (ds : List PyData) (d : PyData) : Prop := ∃ m r : Int, ds = [.int m] ∧ d = .int r ∧ 0 ≤ r ∧ r < m
theorem fn_drawn0 (D : Dfn K mg "_law_draw" (topS 41)) (mi : mg "int" = none) (ml : mg "len" = none) (mA : mg "abs" = none) : Fn P w K mg base "_law_draw" 1 ["pen", "many"] (spD 1 PreMany RMany) :=
  fn_draw (k := 0) D sc29 (fun ds h => by obtain ⟨m, rfl, _⟩ := h; rfl) (fun kV doc pm an cdv ct us hl => by
    match us, hl with
    | [a, b], _ => rfl) fun f cdv A outer s H G hr ds n h hn => by
    obtain ⟨m, rfl, h1, h2⟩ := h
    have hpm : n + 1 ≤ 1048576 := hn
    refine bk_if1 (tf_t (t_lt (e_name 1 rfl (.inl rfl) rfl) e_int)) (fun hB => ?_) fun hB => ?_
    · refine bk_raise (i := 0) (m := n + 1) rfl (by omega) ?_
      refine bk_ret (ef_e e_int) fun d hd => ⟨⟨m, 0, rfl, hd, by omega, by omega⟩, mu_same⟩
    · have hm2 : 2 ≤ m := by have := of_decide_eq_false hB.symm; omega
      refine bk_open (i := 0) rfl fun cs at' rs ha0 han => ?_
      generalize hμ : mu (fun j => if j = 0 then some (MD.pen n) else none) 0 (some (.opn [.list (cs.map .int), .int at', .int rs])) = μ1
      have hm0 : μ1 0 = some (.opn [.list (cs.map .int), .int at', .int rs]) := by rw [← hμ, mu_same]
      clear hμ
      refine bk_if1 (tf_peekO (i := 0) hm0 (t_gt (e_ix (k := false) (e_name 0 rfl (.inl rfl) rfl) e_int rfl) e_int)) (fun hB => ?_) fun hB => ?_
      · have hrs : 0 < rs := of_decide_eq_true hB.symm
        refine bk_set (i := 2) sc29.nd rfl (.inl rfl) (ef_peekO (i := 0) hm0 (e_intI (by rfl) mi (e_ix (k := false) (e_name 0 rfl (.inl rfl) rfl) e_int rfl)) trivial) fun d hd => ?_
        subst hd
        have hm1 : mu μ1 2 none 0 = some (.opn [.list (cs.map .int), .int at', .int rs]) := by rw [mu_ne (by decide)]; exact hm0
        refine bk_lputO (i := 0) (m := 2) (ef_e (e_fdiv (e_name 2 rfl (.inl rfl) rfl) (e_name 1 rfl (.inl rfl) rfl) ⟨by omega, by omega⟩)) hm1 rfl (.inl rfl) e_int rfl fun d hd => ?_
        subst hd
        refine bk_close (i := 0) (n := n + 1) (cs := cs) (at' := at') (rs := rs.fdiv m) mu_same ha0 (by omega) ?_
        refine bk_ret (ef_e (e_mod (e_intI (by rfl) mi (e_name 2 rfl (.inl rfl) rfl)) (e_name 1 rfl (.inl rfl) rfl) (by omega))) fun d hd => ⟨⟨m, _, rfl, hd, Int.fmod_nonneg_of_pos _ (by omega), Int.fmod_lt_of_pos _ (by omega)⟩, mu_same⟩
      · refine bk_set (i := 3) sc29.nd rfl (.inl rfl) (ef_peekO (i := 0) hm0 (e_ix (k := false) (e_name 0 rfl (.inl rfl) rfl) e_int rfl) trivial) fun d hd => ?_
        subst hd
        have hm1 : mu μ1 3 none 0 = some (.opn [.list (cs.map .int), .int at', .int rs]) := by rw [mu_ne (by decide)]; exact hm0
        refine bk_lputO (i := 0) (m := 1) (ef_e (e_add (e_name 3 rfl (.inl rfl) rfl) e_int)) hm1 rfl (.inl rfl) e_int rfl fun d hd => ?_
        subst hd
        refine bk_set (i := 4) sc29.nd rfl (.inl rfl) (ef_e (e_add (e_mul e_int (e_name 3 rfl (.inl rfl) rfl) (.inl ⟨by decide, by decide⟩)) e_int)) fun d hd => ?_
        subst hd
        have hm2' : ∀ v, mu (mu μ1 3 none) 0 (some (.opn v)) 0 = some (.opn v) := fun v => mu_same
        have hm3 : mu (mu (mu μ1 3 none) 0 (some (.opn (([.list (cs.map .int), .int at', .int rs] : List PyData).set 1 (.int (at' + 1)))))) 4 none 0 = some (.opn [.list (cs.map .int), .int (at' + 1), .int rs]) := by rw [mu_ne (by decide), mu_same]; rfl
        generalize mu (mu (mu μ1 3 none) 0 (some (.opn (([.list (cs.map .int), .int at', .int rs] : List PyData).set 1 (.int (at' + 1)))))) 4 none = μ2 at hm3 ⊢
        refine bk_ifJ (fun ρ μ => ∃ c : Int, ρ = [none, some (.int m), none, some (.int at'), some (.int c), none] ∧ μ 0 = some (.opn [.list (cs.map .int), .int (at' + 1), .int rs])) (tf_peekO (i := 0) hm3 (t_neD hr.units (e_ix (k := false) (e_name 0 rfl (.inl rfl) rfl) e_int rfl) (e_lst (x1 := 0) as_nil (by show 0 ≤ 100000; decide)) (shaped_ints cs) (shaped_ints []))) (fun hB => ?_) (fun hB => bk_nil ⟨_, rfl, hm3⟩) fun ρ' μ3 hJ => ?_
        · have hne : cs ≠ [] := fun z => by
            subst z
            cases hB
          have hlen : 0 < cs.length := List.length_pos_iff.mpr hne
          have hf0 := Int.fmod_nonneg_of_pos at' (show (0 : Int) < (cs.length : Int) by omega)
          have hf1 := Int.fmod_lt_of_pos at' (show (0 : Int) < (cs.length : Int) by omega)
          have hat : atI (cs.map PyData.int) (at'.fmod ((cs.map PyData.int).length : Int)) = some (.int (cs.getD (at'.fmod (cs.length : Int)).toNat 0)) := by
            rw [List.length_map]
            have e : at'.fmod (cs.length : Int) = (((at'.fmod (cs.length : Int)).toNat : Nat) : Int) := by omega
            rw [e]
            exact atI_nat (map_getD (by omega))
          refine bk_set (i := 4) sc29.nd rfl (.inl rfl) (ef_peekO (i := 0) hm3 (e_ix (k := false) (e_ix (k := false) (e_name 0 rfl (.inl rfl) rfl) e_int rfl) (e_mod (e_intI (by rfl) mi (e_name 3 rfl (.inl rfl) rfl)) (e_len (k := false) (by rfl) ml (e_ix (k := false) (e_name 0 rfl (.inl rfl) rfl) e_int rfl)) (by rw [List.length_map]; omega)) hat) trivial) fun d hd => ?_
          subst hd
          exact bk_nil ⟨_, rfl, by rw [mu_ne (by decide)]; exact hm3⟩
        · obtain ⟨c, rfl, hm4⟩ := hJ
          have ten : ∀ {X : Cx} {ρ : Ro} {p1 p2 p3 : Pos} {j1 j2 : Nat}, E X ρ (.BinOp (.Constant (.int 10) j1 p1) .Pow (.Constant (.int 18) j2 p2) p3) (.int (10 ^ 18)) := fun {X ρ p1 p2 p3 j1 j2} => (e_pow e_int e_int ⟨by decide, by decide, by decide⟩).eq rfl
          refine bk_if1 (tf_peekO (i := 0) hm4 (tw_and (t_lt (e_name 3 rfl (.inl rfl) rfl) (e_len (k := false) (by rfl) ml (e_ix (k := false) (e_name 0 rfl (.inl rfl) rfl) e_int rfl))) fun _ => tw_and1 (t_ge (e_abs (by rfl) mA (e_name 4 rfl (.inl rfl) rfl)) ten)).t) (fun hB => ?_) fun hB => ?_
          · refine bk_set (i := 2) sc29.nd rfl (.inl rfl) (ef_e (e_add (e_mul e_int (e_sub (e_abs (by rfl) mA (e_name 4 rfl (.inl rfl) rfl)) ten) (.inl ⟨by decide, by decide⟩)) (e_intB (by rfl) mi (e_lt (e_name 4 rfl (.inl rfl) rfl) e_int)))) fun d hd => ?_
            subst hd
            have hm5 : mu μ3 2 none 0 = some (.opn [.list (cs.map .int), .int (at' + 1), .int rs]) := by rw [mu_ne (by decide)]; exact hm4
            refine bk_lputO (i := 0) (m := 2) (ef_e (e_fdiv (e_intI (by rfl) mi (e_name 2 rfl (.inl rfl) rfl)) (e_name 1 rfl (.inl rfl) rfl) ⟨by omega, by omega⟩)) hm5 rfl (.inl rfl) e_int rfl fun d hd => ?_
            subst hd
            refine bk_close (i := 0) (n := n + 1) (cs := cs) (at' := at' + 1) mu_same (by omega) (by omega) ?_
            refine bk_ret (ef_e (e_mod (e_intI (by rfl) mi (e_name 2 rfl (.inl rfl) rfl)) (e_name 1 rfl (.inl rfl) rfl) (by omega))) fun d hd => ⟨⟨m, _, rfl, hd, Int.fmod_nonneg_of_pos _ (by omega), Int.fmod_lt_of_pos _ (by omega)⟩, mu_same⟩
          · refine bk_close (i := 0) (n := n + 1) (cs := cs) (at' := at' + 1) hm4 (by omega) (by omega) ?_
            have c0 := Int.fmod_nonneg_of_pos c (show (0 : Int) < 2147483579 by decide)
            have c1 := Int.fmod_lt_of_pos c (show (0 : Int) < 2147483579 by decide)
            refine bk_set (i := 5) sc29.nd rfl (.inl rfl) (ef_e (e_mod (e_intI (by rfl) mi (e_pow (e_add (e_add (e_mod (e_intI (by rfl) mi (e_name 4 rfl (.inl rfl) rfl)) e_int (by decide)) (e_mul e_int (e_name 3 rfl (.inl rfl) rfl) (.inl ⟨by decide, by decide⟩))) e_int) e_int ⟨by decide, by decide, by omega⟩)) e_int (by decide))) fun d hd => ?_
            subst hd
            generalize hmx : ((c.fmod 2147483579 + 33013 * at' + 6101) ^ (5 : Int).toNat).fmod 2147483587 = mx
            have m0 : 0 ≤ mx := by rw [← hmx]; exact Int.fmod_nonneg_of_pos _ (by decide)
            have m1 : mx < 2147483587 := by rw [← hmx]; exact Int.fmod_lt_of_pos _ (by decide)
            have ha1 : at' ≤ 1048576 := by omega
            have b1 : mx * (2 * at' + 6101) ≤ 2147483587 * 2103253 := Int.mul_le_mul (by omega) (by omega) (by omega) (by omega)
            have b0 : 0 ≤ mx * (2 * at' + 6101) := Int.mul_nonneg m0 (by omega)
            have b3 : 33013 * at' * at' ≤ 33013 * 1048576 * 1048576 := Int.mul_le_mul (by omega) (by omega) (by omega) (by omega)
            have b2 : 0 ≤ 33013 * at' * at' := Int.mul_nonneg (by omega) (by omega)
            refine bk_set (i := 5) sc29.nd rfl (.inl rfl) (ef_e (e_mod (e_intI (by rfl) mi (e_pow (e_add (e_add (e_mul (e_name 5 rfl (.inl rfl) rfl) (e_add (e_mul e_int (e_name 3 rfl (.inl rfl) rfl) (.inl ⟨by decide, by decide⟩)) e_int) (.inl ⟨by omega, by omega⟩)) (e_mul (e_mul e_int (e_name 3 rfl (.inl rfl) rfl) (.inl ⟨by decide, by decide⟩)) (e_name 3 rfl (.inl rfl) rfl) (.inr ⟨by omega, by omega⟩))) e_int) e_int ⟨by decide, by decide, by omega⟩)) e_int (by decide))) fun d hd => ?_
            subst hd
            refine bk_ret (ef_e (e_mod (e_intI (by rfl) mi (e_fdiv (e_name 5 rfl (.inl rfl) rfl) e_int ⟨by decide, by decide⟩)) (e_name 1 rfl (.inl rfl) rfl) (by omega))) fun d hd => ⟨⟨m, _, rfl, hd, Int.fmod_nonneg_of_pos _ (by omega), Int.fmod_lt_of_pos _ (by omega)⟩, ?_⟩
            rw [mu_ne (by decide), mu_ne (by decide), mu_same]
end
end R1

set_option Elab.async false
set_option linter.all false
set_option maxRecDepth 100000
set_option maxHeartbeats 4000000
/-! K00W9: what is drawn: walks. -/
namespace R1
open PySem PySem.Spec PyProof.Rows L2 Evl
/-! ### loops whose iterable draws -/
def ITf (X : Cx) (ρ : Ro) (μ : Mo) (tg iter : Expr) (Pd : List PyData → Prop) (μ1 : Mo) : Prop := ∀ (S : Addr → Prop) (I0 H0 I H : Hp) (σ : L2.St) (α : Nat → Addr), Fr S I0 H0 I H σ ρ μ α → ∀ R : It → Hp → Prop,
  (∀ J ds I' H', Fr S I0 H0 I' H' σ ρ μ1 α → ItOk J I' GT ds → Pd ds → R J H') → WI X tg iter σ H R
theorem itf_range1 {X : Cx} {ρ : Ro} {μ μ1 : Mo} {tg a : Expr} {p pos : Pos} {Pn : Int → Prop} (hg : Gl X "range") (hm : X.mg "range" = none) (h : Ef X ρ μ a (IntP Pn) μ1) (hb : ∀ n, Pn n → -(2 ^ 62) ≤ n ∧ n < 2 ^ 62) (hs : starEach [a] X.env = [(false, eval a X.env)] := by rfl) :
    ITf X ρ μ tg (.Call (.Name "range" p) [a] [] pos) (fun ds => ∃ n, Pn n ∧ ds = upto 0 n.toNat) μ1 := fun S I0 H0 I H σ α F R q pins s i => by
  refine (pi_range1 (tg := tg) hg hm (pa1 hs) hs).run pins s σ H R i ?_
  refine h S I0 H0 I H σ α F _ fun v d I1 H1 F1 e1 r1 p1 => ?_
  obtain ⟨n, rfl, hn⟩ := p1
  cases r1
  exact ⟨n, rfl, (hb n hn).1, (hb n hn).2, q _ _ I1 H1 F1 itok_range ⟨n, hn, rfl⟩⟩
theorem bk_forF {X : Cx} {ρ : Ro} {μ μ1 : Mo} {tg iter : Expr} {Pd : List PyData → Prop} {R : PyData → Mo → Prop} {N : Ro → Mo → Prop} {pos : Pos} {rest body : List Stmt} {g : TG} {ts : List Nat} (Iv : List PyData → Nat → Ro → Mo → Prop) (hp : PassesOwn (model X.prog X.w) X.A X.env X.xe) (hc : X.calm = true) (hg : PG X tg g) (it : ITf X ρ μ tg iter Pd μ1) (h0 : ∀ ds, Pd ds → Iv ds 0 ρ μ1)
    (step : ∀ ds j d ρj μj, Pd ds → ds[j]? = some d → Iv ds j ρj μj → ∃ ρt, Gt g ts ρj d ρt ∧ (∀ t, t ∈ ts → μj t = none) ∧ Bk X ρt μj body (fun ρ' μ' => Iv ds (j + 1) ρ' μ') R) (done : ∀ ds ρ' μ', Pd ds → Iv ds ds.length ρ' μ' → Bk X ρ' μ' rest N R)
    (hs : ∀ x, foldedSetIterable iter X.env x = pure x := by intro _; rfl) : Bk X ρ μ (.For tg iter body [] pos :: rest) N R := fun S I0 H0 I H σ α D F qn qr => by
  refine ws_cons (ps_for hp hc pi_wi hg ps_ws hs) ?_
  refine it S I0 H0 I H σ α F _ fun J ds I1 H1 F1 ok pd => ?_
  refine ⟨fun i m σ' H' => m = ds.length - i ∧ i ≤ ds.length ∧ ∃ I2 ρ2 μ2 α2, Fr S I1 H0 I2 H' σ' ρ2 μ2 α2 ∧ Iv ds i ρ2 μ2, ⟨_, rfl, Nat.zero_le _, I1, ρ, μ1, α, F1.rise, h0 ds pd⟩, ?_⟩
  rintro i m σ2 H2 ⟨rfl, hi, I2, ρ2, μ2, α2, F2, iv⟩
  by_cases hlt : i < ds.length
  · refine .inr ⟨ok.go i I2 H2 F2.x.i F2.e trivial hlt, fun σ' H' => ∃ I3 ρ3 μ3 α3, Fr S I1 H0 I3 H' σ' ρ3 μ3 α3 ∧ Iv ds (i + 1) ρ3 μ3, fun σ' H' q => ⟨ds.length - (i + 1), by omega, rfl, hlt, q⟩, fun w H3 y => ?_⟩
    obtain ⟨I3, d, n3, hd, rd⟩ := ok.yld i I2 H2 w H3 F2.x.i F2.e trivial hlt y
    obtain ⟨ρt, gt, hm, hb⟩ := step ds i d ρ2 μ2 pd hd iv
    have F3 := F2.step n3
    refine gt.run I3 σ2 H3 w F3.e F3.v rd _ fun σ3 v3 ag hl => ?_
    refine hb S I1 H0 I3 H3 σ3 α2 _ (F3.tgt v3 ag hm) (fun I' H' σ' ρ' μ' α' F' k => ⟨I', ρ', μ', α', F', k⟩) fun v d I' H' σ' ρ' μ' α' F' r k => qr v d I' H' σ' ρ' μ' α' (F'.sink F1.x) r k
  · have e : i = ds.length := by omega
    subst e
    exact .inl ⟨ok.stop I2 H2 F2.x.i F2.e trivial, done ds ρ2 μ2 pd iv S I0 H0 I2 H2 σ2 α2 D (F2.sink F1.x) qn qr⟩
/-! ### polynomials from dicts -/
def polOf (m : KI) : List Tm := (srtP ((m.filter fun q => decide (q.2 ≠ 0)).map (·.1))).map fun q => (kiGet m q, q)
theorem sc31 : FnScope ["found", "some", "degree", "powers"] ["found"] (defScope (topS 45)) := ⟨rfl, rfl, rfl, by decide +kernel, rfl, by decide +kernel, by decide +kernel⟩
theorem sc36 : FnScope ["pen", "poly", "coefficient", "powers"] ["pen", "poly"] (defScope (topS 55)) := ⟨rfl, rfl, rfl, by decide +kernel, rfl, by decide +kernel, by decide +kernel⟩
def RPolOf (ds : List PyData) (d : PyData) : Prop := ∃ m : KI, ds = [kvD (kiD m)] ∧ m.length ≤ 1000 ∧ (m.map (·.1)).Nodup ∧ d = polD (polOf m)
def PrePick (ds : List PyData) : Prop := ∃ es : List PyData, ds = [.list es] ∧ 1 ≤ es.length ∧ es.length ≤ 1000
def RPick (ds : List PyData) (d : PyData) : Prop := ∃ es : List PyData, ds = [.list es] ∧ d ∈ es
def RNum (ds : List PyData) (d : PyData) : Prop := ∃ i : Int, d = .int i ∧ i ≠ 0 ∧ -(10 ^ 40) ≤ i ∧ i ≤ 10 ^ 40
def RSmall (ds : List PyData) (d : PyData) : Prop := ∃ i : Int, d = .int i ∧ -10 ≤ i ∧ i ≤ 10
def PreTold (ds : List PyData) : Prop := ∃ p : List Tm, ds = [polD p] ∧ p.length ≤ 100
def RTold (ds : List PyData) (d : PyData) : Prop := ∃ p es, ds = [polD p] ∧ d = .list es ∧ Tms p es
def keyD (d : PyData) : List Int := numsD (itsD d)
theorem keyD_pw (p : List Int) : keyD (pwD p) = p := numsD_map p
theorem kiGet_mem {m : KI} (h : (m.map (·.1)).Nodup) : ∀ {q : List Int × Int}, q ∈ m → kiGet m q.1 = q.2 := by
  induction m with
  | nil => intro q hq; exact nomatch hq
  | cons z m ih =>
    intro q hq
    rw [List.map_cons, List.nodup_cons] at h
    rcases List.mem_cons.mp hq with rfl | hq
    · simp [kiGet, List.find?_cons]
    · have hne : z.1 ≠ q.1 := fun e => h.1 (by rw [e]; exact List.mem_map.mpr ⟨q, hq, rfl⟩)
      have : kiGet (z :: m) q.1 = kiGet m q.1 := by simp [kiGet, List.find?_cons, hne]
      rw [this]
      exact ih h.2 hq
section
variable {P : Program} {w : World} {K : PySem.W.Frag} {mg : Str → Option Value} {base : Heap} {k : Nat}
theorem fn_pick (D : Dfn K mg "_law_pick" (topS 42)) (ml : mg "len" = none) (FD : Fn P w K mg base "_law_draw" 1 ["pen", "many"] (spD 1 PreMany RMany)) : Fn P w K mg base "_law_pick" 2 ["pen", "some"] (spD 1 PrePick RPick) :=
  fn_draw (k := 1) D sc30 (fun ds h => by obtain ⟨m, rfl, _⟩ := h; rfl) (fun kV doc pm an cdv ct us hl => by
    match us, hl with
    | [a, b], _ => rfl) fun f cdv A outer s H G hr ds n h hn => by
    obtain ⟨es, rfl, h1, h2⟩ := h
    refine bk_ret (R' := fun d => d ∈ es) (ef_two (A1 := fun z => z = .list es) (A2 := fun z => RMany [.int (es.length : Int)] z) (pe_ix ix_list pe_we pe_we (by intro _ _; rfl)) (ef_e (e_name 1 rfl (.inl rfl) rfl)) (ef_draw (i := 0) (n := n) FD hr (by rfl) rfl rfl (.inl rfl) hn (as_cons (e_len (k := false) (by rfl) ml (e_name 1 rfl (.inl rfl) rfl)) as_nil) ⟨_, rfl, by omega, by omega⟩) ?_) fun d hd => ⟨⟨es, rfl, hd⟩, mu_same⟩
    intro I H x y d d' hx rx ry p1 p2 Q q
    subst p1
    obtain ⟨m, r, e1, rfl, r0, r1⟩ := p2
    injection e1 with e1
    injection e1 with e1
    subst e1
    cases ry
    cases rx with
    | lst ea ra =>
      have hr : r = ((r.toNat : Nat) : Int) := by omega
      have hlt : r.toNat < es.length := by omega
      have hl := ra.length
      obtain ⟨v, hv, rv⟩ := ra.get (List.getElem?_eq_getElem hlt)
      refine ⟨_, _, r, v, rfl, rfl, SqL.of (hx _ _ ea), ?_, q v _ I H (.refl hx) rv (List.getElem_mem hlt)⟩
      rw [hr]
      exact atI_nat hv
theorem fn_small (D : Dfn K mg "_law_small" (topS 53)) (FP : Fn P w K mg base "_law_pick" 2 ["pen", "some"] (spD 1 PrePick RPick)) : Fn P w K mg base "_law_small" 3 ["pen"] (spD 1 (fun ds => ds = []) RSmall) :=
  fn_draw (k := 2) D sc34 (fun ds h => by subst h; rfl) (fun kV doc pm an cdv ct us hl => by
    match us, hl with
    | [a], _ => rfl) fun f cdv A outer s H G hr ds n h hn => by
    subst h
    refine bk_ret (ef_draw (i := 0) (n := n) FP hr (by rfl) rfl rfl (.inl rfl) hn (as_cons (e_lst (x1 := 0) (as_cons e_int (as_cons e_int (as_cons e_int (as_cons (e_neg e_int) (as_cons (e_neg e_int) (as_cons e_int (as_cons (e_neg e_int) (as_cons e_int (as_cons e_int (as_cons e_int as_nil)))))))))) (by show 10 ≤ 100000; decide)) as_nil) ⟨_, rfl, by show 1 ≤ 10; decide, by show 10 ≤ 1000; decide⟩) fun d hd => ⟨?_, mu_same⟩
    obtain ⟨es, e, hm⟩ := hd
    injection e with e
    injection e with e
    subst e
    simp only [List.mem_cons, List.not_mem_nil, or_false] at hm
    rcases hm with rfl | rfl | rfl | rfl | rfl | rfl | rfl | rfl | rfl | rfl <;> exact ⟨_, rfl, by decide, by decide⟩
theorem fn_number (D : Dfn K mg "_law_number" (topS 52)) (FD : Fn P w K mg base "_law_draw" 1 ["pen", "many"] (spD 1 PreMany RMany)) (FP : Fn P w K mg base "_law_pick" 2 ["pen", "some"] (spD 1 PrePick RPick)) : Fn P w K mg base "_law_number" 3 ["pen"] (spD 3 (fun ds => ds = []) RNum) :=
  fn_draw (k := 2) D sc33 (fun ds h => by subst h; rfl) (fun kV doc pm an cdv ct us hl => by
    match us, hl with
    | [a], _ => rfl) fun f cdv A outer s H G hr ds n h hn => by
    subst h
    have hn' : n + 3 ≤ 1048576 := hn
    refine bk_set (i := 1) sc33.nd rfl (.inl rfl) (ef_draw (i := 0) (n := n) FD (hr.mono (by decide)) (by rfl) rfl rfl (.inl rfl) (by show n + 1 ≤ 1048576; omega) (as_cons e_int as_nil) ⟨_, rfl, by decide, by decide⟩) fun d hd => ?_
    obtain ⟨_, r, _, rfl, _, _⟩ := hd
    have hm : mu (mu (fun j => if j = 0 then some (MD.pen n) else none) 0 (some (.pen (n + 1)))) 1 none 0 = some (.pen (n + 1)) := by rw [mu_ne (by decide), mu_same]
    generalize mu (mu (fun j => if j = 0 then some (MD.pen n) else none) 0 (some (.pen (n + 1)))) 1 none = μ1 at hm ⊢
    refine bk_if1 (tf_t (t_eqI (e_name 1 rfl (.inl rfl) rfl) e_int)) (fun hB => ?_) fun hB => ?_
    · refine bk_ret (ef_mul (P := fun x => 0 < x ∧ x ≤ 10 ^ 40) (P' := fun x => x = 1 ∨ x = -1) (ef_mono (ef_add (P := fun x => x = 10 ^ 39) (P' := fun x => 0 ≤ x ∧ x < 10 ^ 9) (ef_int ((e_pow e_int e_int ⟨by decide, by decide, by decide⟩).eq rfl)) (ef_mono (ef_draw (i := 0) (n := n + 1) FD (hr.mono (by decide)) (by rfl) hm rfl (.inl rfl) (by show n + 1 + 1 ≤ 1048576; omega) (as_cons ((e_pow e_int e_int ⟨by decide, by decide, by decide⟩).eq (show _ = PyData.int (10 ^ 9) from rfl)) as_nil) ⟨_, rfl, by decide, by decide⟩) fun d hd => ?_)) fun d hd => ?_)
        (ef_mono (ef_sub (P := fun x => x = 1) (P' := fun x => x = 0 ∨ x = 2) (ef_int e_int) (ef_mono (ef_mul (P := fun x => x = 2) (P' := fun x => x = 0 ∨ x = 1) (ef_int e_int) (ef_mono (ef_draw (i := 0) (n := n + 1 + 1) FD (hr.mono (by decide)) (by rfl) mu_same rfl (.inl rfl) (by show n + 1 + 1 + 1 ≤ 1048576; omega) (as_cons e_int as_nil) ⟨_, rfl, by decide, by decide⟩) fun d hd => ?_) (fun i j hi hj => .inl ⟨by subst hi; decide, by subst hi; decide⟩)) fun d hd => ?_)) fun d hd => ?_) (fun i j hi hj => .inr ⟨by rcases hj with rfl | rfl <;> decide, by rcases hj with rfl | rfl <;> decide⟩)) fun d hd => ⟨?_, mu_same⟩
      · obtain ⟨m, r, e, rfl, h0, h1⟩ := hd
        injection e with e
        injection e with e
        subst e
        exact ⟨r, rfl, h0, h1⟩
      · obtain ⟨k, rfl, i, j, rfl, hj, rfl⟩ := hd
        have e : (0 : Int) < 10 ^ 39 := by decide
        have e2 : (10 : Int) ^ 39 + 10 ^ 9 ≤ 10 ^ 40 := by decide
        exact ⟨_, rfl, by omega, by omega⟩
      · obtain ⟨m, r, e, rfl, h0, h1⟩ := hd
        injection e with e
        injection e with e
        subst e
        exact ⟨r, rfl, by omega⟩
      · obtain ⟨k, rfl, i, j, rfl, hj, rfl⟩ := hd
        exact ⟨_, rfl, by omega⟩
      · obtain ⟨k, rfl, i, j, rfl, hj, rfl⟩ := hd
        exact ⟨_, rfl, by omega⟩
      · obtain ⟨k, rfl, i, j, hi, hj, rfl⟩ := hd
        have e0 : (0 : Int) ≤ 10 ^ 40 := by decide
        refine ⟨_, rfl, ?_⟩
        rcases hj with rfl | rfl <;> (refine ⟨?_, ?_, ?_⟩ <;> omega)
    · refine bk_raise (i := 0) (m := n + 2) hm (by omega) ?_
      refine bk_ret (ef_draw (i := 0) (n := n + 2) FP hr (by rfl) mu_same rfl (.inl rfl) (by show n + 2 + 1 ≤ 1048576; omega) (as_cons (e_lst (x1 := 0) (as_cons e_int (as_cons e_int (as_cons e_int (as_cons (e_neg e_int) (as_cons (e_neg e_int) (as_cons e_int (as_cons (e_neg e_int) (as_cons e_int (as_cons e_int (as_cons e_int (as_cons (e_neg e_int) (as_cons e_int as_nil)))))))))))) (by show 12 ≤ 100000; decide)) as_nil) ⟨_, rfl, by show 1 ≤ 12; decide, by show 12 ≤ 1000; decide⟩) fun d hd => ⟨?_, mu_same⟩
      obtain ⟨es, e, hm⟩ := hd
      injection e with e
      injection e with e
      subst e
      simp only [List.mem_cons, List.not_mem_nil, or_false] at hm
      rcases hm with rfl | rfl | rfl | rfl | rfl | rfl | rfl | rfl | rfl | rfl | rfl | rfl <;> exact ⟨_, rfl, by decide, by decide, by decide⟩
end
end R1

set_option Elab.async false
set_option linter.all false
set_option maxRecDepth 100000
set_option maxHeartbeats 4000000
/-! K00W10: drawn polynomials: walks. -/
namespace R1
open PySem PySem.Spec PyProof.Rows L2 Evl
theorem sc35 : FnScope ["pen", "width", "degree", "terms", "found", "lap", "left", "powers", "step", "at"] ["pen", "width", "degree", "terms"] (defScope (topS 54)) := ⟨rfl, rfl, rfl, by decide +kernel, rfl, by decide +kernel, by decide +kernel⟩
abbrev drawnN : List Str := ["pen", "width", "degree", "terms", "found", "lap", "left", "powers", "step", "at"]
/-- what is drawn: rows of so many powers, up to six each, none twice -/
structure Keys (wd : Nat) (dg tm : Int) (m : KI) : Prop where
  nd : (m.map (·.1)).Nodup
  l : ∀ q ∈ m.map (·.1), q.length = wd
  n : ∀ q ∈ m.map (·.1), ∀ x ∈ q, 0 ≤ x
  s : ∀ q ∈ m.map (·.1), q.sum ≤ dg
  len : (m.length : Int) ≤ tm
  v : ∀ q ∈ m, -50 ≤ q.2 ∧ q.2 ≤ 50
def PreDrawn (ds : List PyData) : Prop := ∃ wd dg tm : Int, ds = [.int wd, .int dg, .int tm] ∧ 0 ≤ wd ∧ wd ≤ 3 ∧ 0 ≤ dg ∧ dg ≤ 6 ∧ 0 ≤ tm ∧ tm ≤ 5
def RDrawn (ds : List PyData) (d : PyData) : Prop := ∃ wd dg tm : Int, ∃ m : KI, ds = [.int wd, .int dg, .int tm] ∧ Keys wd.toNat dg tm m ∧ d = polD (polOf m)
theorem kiPut_keys (m : KI) (p : List Int) (c : Int) (h : (m.map (·.1)).Nodup) : ((kiPut m p c).map (·.1)).Nodup := by
  unfold kiPut
  by_cases e : (m.any fun q => decide (q.1 = p)) = true
  · rw [if_pos e, List.map_map]
    have : m.map ((fun q : List Int × Int => q.1) ∘ fun q => if q.1 = p then (q.1, c) else q) = m.map (·.1) := List.map_congr_left fun q _ => by
      show (if q.1 = p then (q.1, c) else q).1 = q.1
      split <;> rfl
    rw [this]
    exact h
  · rw [if_neg e, List.map_append]
    refine List.nodup_append.mpr ⟨h, List.Pairwise.cons (fun _ z => nomatch z) List.Pairwise.nil, fun a ha b hb => ?_⟩
    rw [List.mem_singleton.mp hb]
    intro z
    subst z
    obtain ⟨q, hq, rfl⟩ := List.mem_map.mp ha
    exact e (List.any_eq_true.mpr ⟨q, hq, decide_eq_true rfl⟩)
section
variable {P : Program} {w : World} {K : PySem.W.Frag} {mg : Str → Option Value} {base : Heap} {k : Nat}
theorem fn_polOf (D : Dfn K mg "_law_poly" (topS 45)) (ms : mg "sorted" = none) (mS : mg "sum" = none) (mt : mg "tuple" = none) : Fn P w K mg base "_law_poly" 1 ["found"] (spP RPolOf) :=
  fn_blk (k := 0) D sc31 (fun ds d h => by obtain ⟨p, rfl, _⟩ := h; rfl) (fun kV doc pm an cdv ct us hl => by
    match us, hl with
    | [a], _ => rfl) fun f cdv A outer s H G hr ds d h => by
    obtain ⟨m, rfl, hl, hnd, rfl⟩ := h
    have hu1 : (cxB P w K mg base ["found", "some", "degree", "powers"] "_law_poly" (topS 45) f cdv A outer s H G).A.units + 1 < cLine := by
      have : (cxB P w K mg base ["found", "some", "degree", "powers"] "_law_poly" (topS 45) f cdv A outer s H G).A.units + 16 * 0 + 200 < cLine := hr.un
      omega
    have hu70 : (cxB P w K mg base ["found", "some", "degree", "powers"] "_law_poly" (topS 45) f cdv A outer s H G).A.units + 70 < cLine := by
      have : (cxB P w K mg base ["found", "some", "degree", "powers"] "_law_poly" (topS 45) f cdv A outer s H G).A.units + 16 * 0 + 200 < cLine := hr.un
      omega
    have hks : (((kiD m).map fun q => pwD q.1).filter fun d => decide (kiGet m (keyD d) ≠ 0)).map (fun d => rkD (rkP (keyD d))) = (((m.filter fun q => decide (q.2 ≠ 0)).map (·.1)).map rkP).map rkD := by
      unfold kiD
      rw [List.map_map, List.filter_map, List.map_map, List.map_map, List.map_map]
      have hf : m.filter ((fun d => decide (kiGet m (keyD d) ≠ 0)) ∘ (fun q => pwD q.1) ∘ fun q => (q.1, PyData.int q.2)) = m.filter fun q => decide (q.2 ≠ 0) := List.filter_congr fun q hq => by
        show decide (kiGet m (keyD (pwD q.1)) ≠ 0) = _
        rw [keyD_pw, kiGet_mem hnd hq]
      rw [hf]
      refine List.map_congr_left fun q _ => ?_
      show rkD (rkP (keyD (pwD q.1))) = rkD (rkP q.1)
      rw [keyD_pw]
    refine bk_set (i := 1) sc31.nd rfl (.inl rfl) (ef_e (e_sortRk (ks := ((m.filter fun q => decide (q.2 ≠ 0)).map (·.1)).map rkP) hu70 (by rfl) ms ((e_lcIf (own := [("powers", 3)]) (g := gName 3) (f := fun d => decide (kiGet m (keyD d) ≠ 0)) (F := fun d => rkD (rkP (keyD d))) (ρ' := fun d => (wipeR _ [3]).set 3 (some d)) rfl sc31.nd (blkOk_by (own := [("powers", 3)]) (N := ["found", "some", "degree", "powers"]) (sc := defScope (topS 45)) (by decide +kernel))
      (fun _ _ _ _ _ => pg_name (i := 3) sc31.nd rfl (Or.inl rfl)) (it_keys (kvs := kiD m) (e_name 0 rfl (.inr (.inl rfl)) rfl)) (fun d _ => gt_name (by simp)) (fun d hd => ?_) (fun d hd _ => ?_) (by rw [List.length_map, kiD_len]; omega)).eq (by rw [hks])))) fun d hd => ?_
    · obtain ⟨q', hq', rfl⟩ := List.mem_map.mp hd
      obtain ⟨q, hq, rfl⟩ := List.mem_map.mp hq'
      have hqm : q.1 ∈ m.map (·.1) := List.mem_map.mpr ⟨q, hq, rfl⟩
      intro s0 H0 C cl fp
      rw [keyD_pw]
      refine T.eq (k := !decide (kiGet m q.1 = 0)) ?_ (by by_cases h : kiGet m q.1 = 0 <;> simp [h])
      exact t_neI (e_dget (kvs := kiD m) (p := q.1) hu1 (e_name 0 rfl (.inr (.inl rfl)) rfl) (e_name 3 rfl (.inl rfl) rfl) (kvGet_kiD' hqm)) e_int
    · obtain ⟨q', hq', rfl⟩ := List.mem_map.mp hd
      obtain ⟨q, hq, rfl⟩ := List.mem_map.mp hq'
      intro s0 H0 C cl fp
      rw [keyD_pw]
      exact e_tup (as_cons (e_sumT rfl (by rfl) mS (e_name 3 rfl (.inl rfl) rfl)) (as_cons (e_name 3 rfl (.inl rfl) rfl) as_nil)) (Nat.le_of_ble_eq_true rfl)
    · subst hd
      generalize hkk : (m.filter fun q => decide (q.2 ≠ 0)).map (·.1) = ks
      have hkl : ks.length ≤ m.length := by
        rw [← hkk, List.length_map]
        exact List.length_filter_le _ _
      have hsd : (srtD (ks.map rkP)).map rkD = (srtP ks).map fun q => .tuple [.int q.sum, pwD q] := by
        rw [← srtP_rk, List.map_map]
        rfl
      rw [hsd]
      refine bk_ret (ef_e ((e_tupOf (k := false) (by rfl) mt (e_lc (own := [("degree", 2), ("powers", 3)]) (g := gTup K 2 (gCons (gName 2) (gCons (gName 3) gNil))) (F := fun d => tmD (kiGet m (keyD (sndD d)), keyD (sndD d)))
        (ρ' := fun d => ((wipeR [some (kvD (kiD m)), some (.list ((srtP ks).map fun q => .tuple [.int q.sum, pwD q])), none, none] [2, 3]).set 2 (some (fstD d))).set 3 (some (sndD d))) rfl sc31.nd (blkOk_by (own := [("degree", 2), ("powers", 3)]) (N := ["found", "some", "degree", "powers"]) (sc := defScope (topS 45)) (by decide +kernel))
        (fun _ _ _ _ _ => pg_tup rfl (pgs_cons (pg_name (i := 2) sc31.nd rfl (Or.inl rfl)) (pgs_cons (pg_name (i := 3) sc31.nd rfl (Or.inl rfl)) pgs_nil))) (it_list (e_name 1 rfl (.inl rfl) rfl)) (fun d hd => ?_) (fun d hd => ?_) (by rw [List.length_map, (srtP_perm ks).length_eq]; omega))))) fun d hd => ?_
      · obtain ⟨q, hq, rfl⟩ := List.mem_map.mp hd
        exact gt_tup2 (by simp) (by simp)
      · obtain ⟨q, hq, rfl⟩ := List.mem_map.mp hd
        have hqk : q ∈ ks := (srtP_perm ks).mem_iff.mp hq
        have hqm : q ∈ m.map (·.1) := by
          rw [← hkk] at hqk
          obtain ⟨z, hz, rfl⟩ := List.mem_map.mp hqk
          exact List.mem_map.mpr ⟨z, (List.mem_filter.mp hz).1, rfl⟩
        have en : keyD (sndD (.tuple [.int q.sum, pwD q])) = q := keyD_pw q
        rw [en]
        intro s0 H0 C cl fp
        exact e_tup (as_cons (e_dget (kvs := kiD m) (p := q) hu1 (e_name 0 rfl (.inr (.inl rfl)) rfl) (e_name 3 rfl (.inl rfl) rfl) (kvGet_kiD' hqm)) (as_cons (e_name 3 rfl (.inl rfl) rfl) as_nil)) (Nat.le_of_ble_eq_true rfl)
      · subst hd
        show PyData.tuple _ = polD (polOf m)
        unfold polOf polD
        rw [hkk, List.map_map, List.map_map]
        congr 1
        refine List.map_congr_left fun q _ => ?_
        show tmD (kiGet m (keyD (pwD q)), keyD (pwD q)) = tmD (kiGet m q, q)
        rw [keyD_pw]
theorem fn_told (D : Dfn K mg "_law_told_otherwise" (topS 55)) (ml : mg "list" = none) (FD : Fn P w K mg base "_law_draw" 1 ["pen", "many"] (spD 1 PreMany RMany)) : Fn P w K mg base "_law_told_otherwise" 2 ["pen", "poly"] (spD 100 PreTold RTold) :=
  fn_draw (k := 1) D sc36 (fun ds h => by obtain ⟨p, rfl, _⟩ := h; rfl) (fun kV doc pm an cdv ct us hl => by
    match us, hl with
    | [a, b], _ => rfl) fun f cdv A outer s H G hr ds n h hn => by
    obtain ⟨p, rfl, hp⟩ := h
    have hn' : n + 100 ≤ 1048576 := hn
    have hl : (p.map tmD).length = p.length := List.length_map _
    refine bk_raise (i := 0) (m := n + (100 - p.length)) rfl (by omega) ?_
    have e1 : mu (fun j => if j = 0 then some (MD.pen n) else none) 0 (some (.pen (n + (100 - p.length)))) = penMo 0 (n + (100 - p.length)) := penMo_mu (pn := 0) (n := n)
    rw [e1]
    refine bk_ret (ef_lc (pn := 0) (cost := 1) (own := [("coefficient", 2), ("powers", 3)]) (g := gTup K 2 (gCons (gName 2) (gCons (gName 3) gNil))) (Rel := fun d e => ∀ t, d = tmD t → TmIs t e)
        (ρ' := fun d => ((wipeR [none, some (polD p), none, none] [2, 3]).set 2 (some (fstD d))).set 3 (some (sndD d))) rfl sc36.nd (blkOk_by (own := [("coefficient", 2), ("powers", 3)]) (N := ["pen", "poly", "coefficient", "powers"]) (sc := defScope (topS 55)) (by decide +kernel))
        (fun _ _ _ _ _ => pg_tup rfl (pgs_cons (pg_name (i := 2) sc36.nd rfl (Or.inl rfl)) (pgs_cons (pg_name (i := 3) sc36.nd rfl (Or.inl rfl)) pgs_nil))) (it_tup (e_name 1 rfl (.inl rfl) rfl)) (fun d hd => ?_) (by decide) (fun d m hd hm => ?_) (by rw [hl]; omega)) fun d hd => ⟨?_, ?_⟩
    · obtain ⟨t, ht, rfl⟩ := List.mem_map.mp hd
      exact gt_tup2 (by simp) (by simp)
    · obtain ⟨t, ht, rfl⟩ := List.mem_map.mp hd
      intro s0 H0 C cl fp
      have hmm : m + 1 ≤ 1048576 := by rw [hl] at hm; omega
      have e2 : mu (penMo 0 m) 0 (some (.pen (m + 1))) = penMo 0 (m + 1) := penMo_mu (pn := 0) (n := m)
      have inj : ∀ t', tmD t = tmD t' → t = t' := fun t' e => by
        injection e with e
        injection e with e4 e5
        injection e4 with e6
        injection e5 with e7 _
        injection e7 with e8
        exact Prod.ext e6 (ints_inj e8)
      refine ef_ifExp (μ1 := mu (penMo 0 m) 0 (some (.pen (m + 1)))) (tf_eqI (P := fun _ => True) (P' := fun _ => True) (ef_mono (ef_draw (i := 0) (n := m) FD hr (by rfl) penMo_same rfl (.inr (.inl rfl)) hmm (as_cons e_int as_nil) ⟨_, rfl, by decide, by decide⟩) fun d hd => ?_) (ef_of e_int ⟨_, rfl, trivial⟩)) (fun _ => ?_) fun _ => ?_
      · obtain ⟨_, r, _, rfl, _⟩ := hd
        exact ⟨r, rfl, trivial⟩
      · rw [e2]
        exact ef_of (e_lst (x1 := 0) (as_cons (e_name 2 rfl (.inl rfl) rfl) (as_cons (e_listOf (k := true) (by rfl) ml (e_name 3 rfl (.inl rfl) rfl)) as_nil)) (by show 2 ≤ 100000; decide)) fun t' e => by
          have := inj t' e
          subst this
          exact ⟨false, false, rfl⟩
      · rw [e2]
        exact ef_of (e_tup (as_cons (e_name 2 rfl (.inl rfl) rfl) (as_cons (e_name 3 rfl (.inl rfl) rfl) as_nil)) (by show 2 ≤ 100000; decide)) fun t' e => by
          have := inj t' e
          subst this
          exact ⟨true, true, rfl⟩
    · obtain ⟨es, rfl, hr⟩ := hd
      refine ⟨p, es, rfl, rfl, ?_⟩
      clear e1 hl hp
      have go : ∀ (p : List Tm) (es : List PyData), AllR (fun d e => ∀ t, d = tmD t → TmIs t e) (p.map tmD) es → Tms p es := by
        intro p
        induction p with
        | nil => intro es h; cases h; exact .nil
        | cons t p ih =>
          intro es h
          cases h with
          | cons a b => exact .cons (a t rfl) (ih _ b)
      exact go p es hr
    · rw [hl]
      show penMo 0 _ 0 = _
      rw [penMo_same]
      congr 2
      omega
end
end R1

set_option Elab.async false
set_option linter.all false
set_option maxRecDepth 100000
set_option maxHeartbeats 4000000
/-! K00W11: _law_drawn: the walk. -/
namespace R1
open PySem PySem.Spec PyProof.Rows L2 Evl
theorem sum_set : ∀ {l : List Int} {i : Nat}, i < l.length → (l.set i (l.getD i 0 + 1)).sum = l.sum + 1
  | x :: l, 0, _ => by
    show (x + 1) + l.sum = x + l.sum + 1
    omega
  | x :: l, i + 1, h => by
    show x + (l.set i (l.getD i 0 + 1)).sum = x + l.sum + 1
    rw [sum_set (by simpa using h)]
    omega
structure KeysJ (wd : Nat) (dg : Int) (j : Nat) (m : KI) : Prop where
  nd : (m.map (·.1)).Nodup
  l : ∀ q ∈ m.map (·.1), q.length = wd
  n : ∀ q ∈ m.map (·.1), ∀ x ∈ q, 0 ≤ x
  s : ∀ q ∈ m.map (·.1), q.sum ≤ dg
  len : m.length ≤ j
  v : ∀ q ∈ m, -(10 * (j : Int)) ≤ q.2 ∧ q.2 ≤ 10 * (j : Int)
theorem kiGet_or (m : KI) (p : List Int) : kiGet m p = 0 ∨ ∃ q ∈ m, kiGet m p = q.2 := by
  unfold kiGet
  cases h : m.find? fun q => decide (q.1 = p) with
  | none => exact .inl rfl
  | some q => exact .inr ⟨q, List.mem_of_find?_eq_some h, rfl⟩
theorem kiPut_memV {m : KI} {p : List Int} {c : Int} {q : List Int × Int} (h : q ∈ kiPut m p c) : q ∈ m ∨ q.2 = c := by
  unfold kiPut at h
  split at h
  · obtain ⟨z, hz, rfl⟩ := List.mem_map.mp h
    by_cases e : z.1 = p
    · rw [if_pos e]; exact .inr rfl
    · rw [if_neg e]; exact .inl hz
  · rcases List.mem_append.mp h with h | h
    · exact .inl h
    · rw [List.mem_singleton.mp h]; exact .inr rfl
theorem KeysJ.get {wd j : Nat} {dg : Int} {m : KI} (h : KeysJ wd dg j m) (p : List Int) : -(10 * (j : Int)) ≤ kiGet m p ∧ kiGet m p ≤ 10 * (j : Int) := by
  rcases kiGet_or m p with e | ⟨q, hq, e⟩
  · rw [e]; omega
  · rw [e]; exact h.v q hq
theorem KeysJ.add {wd j : Nat} {dg : Int} {m : KI} {p : List Int} {c : Int} (h : KeysJ wd dg j m) (hl : p.length = wd) (hn : ∀ x ∈ p, 0 ≤ x) (hs : p.sum ≤ dg) (hc : -(10 * ((j : Int) + 1)) ≤ c ∧ c ≤ 10 * ((j : Int) + 1)) : KeysJ wd dg (j + 1) (kiPut m p c) :=
  ⟨kiPut_keys m p c h.nd, fun q hq => (kiPut_mem hq).elim (h.l q) fun e => by rw [e]; exact hl, fun q hq => (kiPut_mem hq).elim (h.n q) fun e => by rw [e]; exact hn, fun q hq => (kiPut_mem hq).elim (h.s q) fun e => by rw [e]; exact hs, by have := kiPut_len m p c; have := h.len; omega, fun q hq => by
    rcases kiPut_memV hq with h1 | h1
    · have := h.v q h1; omega
    · rw [h1]; omega⟩
theorem pw_tup (p : List Int) : PyData.tuple (p.map .int) = pwD p := rfl
section
variable {P : Program} {w : World} {K : PySem.W.Frag} {mg : Str → Option Value} {base : Heap} {k : Nat}
theorem fn_drawnP (D : Dfn K mg "_law_drawn" (topS 54)) (mr : mg "range" = none) (mt : mg "tuple" = none) (FD : Fn P w K mg base "_law_draw" 1 ["pen", "many"] (spD 1 PreMany RMany)) (FS : Fn P w K mg base "_law_small" 3 ["pen"] (spD 1 (fun ds => ds = []) RSmall)) (FP : Fn P w K mg base "_law_poly" 1 ["found"] (spP RPolOf)) :
    Fn P w K mg base "_law_drawn" 4 ["pen", "width", "degree", "terms"] (spD 41 PreDrawn RDrawn) :=
  fn_draw (k := 3) D sc35 (fun ds h => by obtain ⟨a, b, c, rfl, _⟩ := h; rfl) (fun kV doc pm an cdv ct us hl => by
    match us, hl with
    | [a, b, c, d], _ => rfl) fun f cdv A outer s H G hr ds n h hn => by
    obtain ⟨wd, dg, tm, rfl, w0, w1, g0, g1, t0, t1⟩ := h
    have hn' : n + 41 ≤ 1048576 := hn
    have hu1 : (cxB P w K mg base drawnN "_law_drawn" (topS 54) f cdv A outer s H G).A.units + 1 < cLine := by
      have : (cxB P w K mg base drawnN "_law_drawn" (topS 54) f cdv A outer s H G).A.units + 16 * 3 + 200 < cLine := hr.un
      omega
    refine bk_own (i := 4) sc35.nd rfl (.inl rfl) en_dict rfl (by show 4 < 10; decide) ?_
    refine bk_forF (ts := [5]) (Pd := fun ds => ∃ r : Int, (0 ≤ r ∧ r ≤ tm) ∧ ds = upto 0 r.toNat) (fun ds j ρ μ => ρ = [none, some (.int wd), some (.int dg), some (.int tm), none, none, none, none, none, none] ∧ μ 0 = some (.pen (n + 1 + 8 * j)) ∧ (∃ m, μ 4 = some (.dct (kiD m)) ∧ KeysJ wd.toNat dg j m) ∧ ∀ i, i ≠ 0 → i ≠ 4 → μ i = none) PassesOwn.never rfl
      (pg_name (i := 5) sc35.nd rfl (Or.inl rfl)) (itf_range1 (Pn := fun r => 0 ≤ r ∧ r ≤ tm) (by rfl) mr (ef_mono (ef_draw (i := 0) (n := n) FD (hr.mono (by decide)) (by rfl) (by rw [mu_ne (by decide)]; rfl) rfl (.inl rfl) (by show n + 1 ≤ 1048576; omega) (as_cons (e_add (e_name 3 rfl (.inl rfl) rfl) e_int) as_nil) ⟨_, rfl, by omega, by omega⟩) fun d hd => ?_) fun r hr => ⟨by omega, by omega⟩)
      (fun ds hd => ⟨rfl, mu_same, ⟨[], by rw [mu_ne (by decide), mu_same]; rfl, ⟨List.Pairwise.nil, fun _ z => (nomatch z), fun _ z => (nomatch z), fun _ z => (nomatch z), Nat.le_refl _, fun _ z => (nomatch z)⟩⟩, fun i h0 h4 => by rw [mu_ne h0, mu_ne h4]; exact if_neg h0⟩) (fun ds j d ρj μj hds hd hI => ?_) fun ds ρ' μ' hds hI => ?_
    · obtain ⟨m, r, e, rfl, h0, h1⟩ := hd
      injection e with e
      injection e with e
      subst e
      exact ⟨r, rfl, h0, by omega⟩
    · obtain ⟨lap, ⟨l0, l1⟩, rfl⟩ := hds
      obtain ⟨hj, rfl⟩ := get_upto hd
      obtain ⟨rfl, hm0, ⟨m, hm4, hk⟩, hμ⟩ := hI
      have hj5 : j < 5 := by omega
      refine ⟨_, gt_name (by simp), fun t ht => hμ t (by simp at ht; omega) (by simp at ht; omega), ?_⟩
      refine bk_parOwn (i := 6) (j := 7) rfl sc35.nd rfl rfl (by decide) rfl rfl (ef_draw (i := 0) FD (hr.mono (by decide)) (by rfl) hm0 rfl (.inl rfl) (by show n + 1 + 8 * j + 1 ≤ 1048576; omega) (as_cons (e_add (e_name 2 rfl (.inl rfl) rfl) e_int) as_nil) ⟨_, rfl, by omega, by omega⟩)
        (en_rep (e_lst (x1 := 0) (as_cons e_int as_nil) (by show 1 ≤ 100000; decide)) (e_name 1 rfl (.inl rfl) rfl) (by show 1 * _ ≤ _; omega)) rfl (by show 7 < 10; decide) fun d hd => ?_
      obtain ⟨mm, left, e, rfl, f0, f1⟩ := hd
      injection e with e
      injection e with e
      subst e
      have hf6 : left ≤ 6 := by omega
      have hfd : left ≤ dg := by omega
      have hv0 : 0 ≤ (if 0 < wd then left else 0) := by split <;> omega
      have hv6 : (if 0 < wd then left else 0) ≤ 6 := by split <;> omega
      refine bk_for (ts := [8]) (fun i ρ μ => ρ = [none, some (.int wd), some (.int dg), some (.int tm), none, some (.int (0 + (j : Int))), some (.int left), none, none, none] ∧ μ 0 = some (.pen (n + 1 + 8 * j + 1 + i)) ∧ μ 4 = some (.dct (kiD m)) ∧ (∃ ps : List Int, μ 7 = some (.lst (ps.map .int)) ∧ ps.length = wd.toNat ∧ (∀ x ∈ ps, 0 ≤ x) ∧ ps.sum = i) ∧ ∀ i, i ≠ 0 → i ≠ 4 → i ≠ 7 → μ i = none) PassesOwn.never rfl
        (pg_name (i := 8) sc35.nd rfl (Or.inl rfl)) (it_range1 (n := if 0 < wd then left else 0) (by rfl) mr (e_ifExp (k := decide (0 < wd)) (t_gt (e_name 1 rfl (.inl rfl) rfl) e_int) (fun hB => (e_name 6 rfl (.inl rfl) rfl).eq (by rw [if_pos (of_decide_eq_true hB)])) fun hB => e_int.eq (by rw [if_neg (of_decide_eq_false hB)]))) ⟨rfl, ?_, ?_, ⟨List.replicate wd.toNat 0, ?_, List.length_replicate, fun x hx => ?_, ?_⟩, fun i h0 h4 h7 => ?_⟩ (fun i d ρi μi hd hI => ?_) fun ρ' μ' hI => ?_
      · rw [mu_ne (by decide), mu_ne (by decide), mu_same]
      · rw [mu_ne (by decide), mu_ne (by decide), mu_ne (by decide)]; exact hm4
      · rw [mu_same, List.map_replicate, List.flatten_replicate_singleton]
      · rw [(List.mem_replicate.mp hx).2]; omega
      · have : ∀ n : Nat, (List.replicate n (0 : Int)).sum = 0 := fun n => by
          induction n with
          | zero => rfl
          | succ n ih => rw [List.replicate_succ, List.sum_cons, ih]; rfl
        exact this _
      · rw [mu_ne h7]
        by_cases h6 : i = 6
        · rw [h6, mu_same]
        · rw [mu_ne h6, mu_ne h0]
          exact hμ i h0 h4
      · obtain ⟨hi, rfl⟩ := get_upto hd
        obtain ⟨rfl, hn0, hn4, ⟨ps, hn7, hpl, hpx, hps⟩, hμ2⟩ := hI
        have hwp : 0 < wd := by
          by_cases h : 0 < wd
          · exact h
          · rw [if_neg h] at hi; simp at hi
        have hi6 : i < 6 := by omega
        refine ⟨_, gt_name (by simp), fun t ht => hμ2 t (by simp at ht; omega) (by simp at ht; omega) (by simp at ht; omega), ?_⟩
        refine bk_set (i := 9) sc35.nd rfl (.inl rfl) (ef_draw (i := 0) FD (hr.mono (by decide)) (by rfl) hn0 rfl (.inl rfl) (by show n + 1 + 8 * j + 1 + i + 1 ≤ 1048576; omega) (as_cons (e_name 1 rfl (.inl rfl) rfl) as_nil) ⟨_, rfl, by omega, by omega⟩) fun d hd => ?_
        obtain ⟨mm, a, e, rfl, a0, a1⟩ := hd
        injection e with e
        injection e with e
        subst e
        have ha : a = ((a.toNat : Nat) : Int) := by omega
        have hal : a.toNat < ps.length := by omega
        have hm7 : mu (mu μi 0 (some (.pen (n + 1 + 8 * j + 1 + i + 1)))) 9 none 7 = some (.lst (ps.map .int)) := by rw [mu_ne (by decide), mu_ne (by decide)]; exact hn7
        refine bk_lput (i := 7) (n := a) (m := a.toNat) (ef_peek hm7 (e_add (e_ix (k := false) (e_name 7 rfl (.inl rfl) rfl) (e_name 9 rfl (.inl rfl) rfl) (by rw [ha]; exact atI_nat (map_getD hal))) e_int) trivial) hm7 rfl (.inl rfl) (e_name 9 rfl (.inl rfl) rfl) (by rw [ha, List.length_map]; exact ixN_nat hal) fun d hd => ?_
        subst hd
        refine bk_forget (ρ' := [none, some (.int wd), some (.int dg), some (.int tm), none, some (.int (0 + (j : Int))), some (.int left), none, none, none]) (by repeat (first | exact .nil | refine .keep ?_ | refine .drop ?_)) (bk_nil ⟨rfl, ?_, ?_, ⟨ps.set a.toNat (ps.getD a.toNat 0 + 1), ?_, by rw [List.length_set]; exact hpl, fun x hx => ?_, ?_⟩, fun t h0 h4 h7 => ?_⟩)
        · rw [mu_ne (by decide), mu_ne (by decide), mu_same]; rfl
        · rw [mu_ne (by decide), mu_ne (by decide), mu_ne (by decide)]; exact hn4
        · rw [mu_same, List.map_set]
        · have hg : 0 ≤ ps.getD a.toNat 0 := by
            rw [List.getD_eq_getElem?_getD, List.getElem?_eq_getElem hal]
            exact hpx _ (List.getElem_mem hal)
          rcases List.mem_or_eq_of_mem_set hx with h | h
          · have := hpx x h; omega
          · rw [h]; omega
        · rw [sum_set hal, hps]; rfl
        · rw [mu_ne h7]
          by_cases h9 : t = 9
          · rw [h9, mu_same]
          · rw [mu_ne h9, mu_ne h0]
            exact hμ2 t h0 h4 h7
      · obtain ⟨rfl, hn0, hn4, ⟨ps, hn7, hpl, hpx, hps⟩, hμ2⟩ := hI
        rw [upto_len] at hn0 hps
        refine bk_raise (i := 0) (m := n + 1 + 8 * j + 7) hn0 (by omega) ?_
        refine bk_freeze (i := 7) (ds := ps.map .int) (by rw [mu_ne (by decide)]; exact hn7) ?_
        generalize hμ3 : mu (mu μ' 0 (some (.pen (n + 1 + 8 * j + 7)))) 7 none = μ3
        have q0 : μ3 0 = some (.pen (n + 1 + 8 * j + 7)) := by rw [← hμ3, mu_ne (by decide), mu_same]
        have q4 : μ3 4 = some (.dct (kiD m)) := by rw [← hμ3, mu_ne (by decide), mu_ne (by decide)]; exact hn4
        have qn : ∀ t, t ≠ 0 → t ≠ 4 → μ3 t = none := fun t h0 h4 => by
          rw [← hμ3]
          by_cases h7 : t = 7
          · rw [h7, mu_same]
          · rw [mu_ne h7, mu_ne h0]; exact hμ2 t h0 h4 h7
        clear hμ3
        have hx6 : ps.sum ≤ dg := by rw [hps]; omega
        refine bk_dput (i := 4) (kvs := kiD m) (μ1 := mu μ3 0 (some (.pen (n + 1 + 8 * j + 7 + 1)))) (pw := ps) (A1 := fun d => ∃ c : Int, d = .int (kiGet m ps + c) ∧ -10 ≤ c ∧ c ≤ 10) hu1 (ef_mono (ef_add (P := fun k => k = kiGet m ps) (P' := fun c => -10 ≤ c ∧ c ≤ 10) (ef_mono (ef_dget (i := 4) (p := ps) (kvs := kiD m) hu1 q4 rfl (.inl rfl) ((e_tupOf (k := false) (by rfl) mt (e_name 7 rfl (.inl rfl) rfl)).eq (pw_tup ps)) e_int) fun d h => ⟨_, h.trans (kvGet_kiD _ _), rfl⟩) (ef_mono (ef_draw (i := 0) FS hr (by rfl) q0 rfl (.inl rfl) (by show n + 1 + 8 * j + 7 + 1 ≤ 1048576; omega) as_nil rfl) fun d hd => ?_)) fun d hd => ?_) (by rw [mu_ne (by decide)]; exact q4) rfl (.inl rfl) ((e_tupOf (k := false) (by rfl) mt (e_name 7 rfl (.inl rfl) rfl)).eq (pw_tup ps)) (by rw [kiD_len]; have := hk.len; omega) fun d hd => ?_
        · obtain ⟨i, rfl, i0, i1⟩ := hd
          exact ⟨i, rfl, i0, i1⟩
        · obtain ⟨k, rfl, x, y, rfl, hy, rfl⟩ := hd
          exact ⟨y, rfl, hy.1, hy.2⟩
        · obtain ⟨c, rfl, c0, c1⟩ := hd
          have hgb := hk.get ps
          refine bk_forget (ρ' := [none, some (.int wd), some (.int dg), some (.int tm), none, none, none, none, none, none]) (by repeat (first | exact .nil | refine .keep ?_ | refine .drop ?_)) (bk_nil ⟨rfl, ?_, ⟨kiPut m ps (kiGet m ps + c), ?_, hk.add hpl hpx hx6 (by omega)⟩, fun t h0 h4 => ?_⟩)
          · rw [mu_ne (by decide), mu_same]
            congr 2
          · rw [mu_same, kvPut_kiD]
          · rw [mu_ne h4, mu_ne h0]
            exact qn t h0 h4
    · obtain ⟨r, ⟨r0, r1⟩, rfl⟩ := hds
      obtain ⟨rfl, hm0, ⟨m, hm4, hk⟩, hμ⟩ := hI
      rw [upto_len] at hm0 hk
      refine bk_raise (i := 0) (m := n + 41) hm0 (by omega) ?_
      refine bk_lock (i := 4) (kvs := kiD m) (by rw [mu_ne (by decide)]; exact hm4) ?_
      refine bk_ret (ef_e (e_call FP (hr.mono (by decide)) (by rfl) (as_cons (e_name 4 rfl (.inl rfl) rfl) as_nil) ⟨m, rfl, by have := hk.len; omega, hk.nd, rfl⟩)) fun d hd => ⟨⟨wd, dg, tm, m, rfl, ⟨hk.nd, hk.l, hk.n, hk.s, by have := hk.len; omega, fun q hq => by have := hk.v q hq; omega⟩, hd⟩, ?_⟩
      rw [mu_ne (by decide), mu_same]
end
end R1

set_option Elab.async false
set_option linter.all false
set_option maxRecDepth 100000
set_option maxHeartbeats 4000000
/-! K00W13: more rules over frames; polynomials that are drawn are good; _law_pen. -/
namespace R1
open PySem PySem.Spec PyProof.Rows L2 Evl
section
variable {X : Cx} {ρ : Ro} {μ μ1 : Mo} {a b : Expr} {d : PyData} {A B : PyData → Prop} {pos p : Pos} {x : Str} {k : Nat} {ps : List Str} {Rr : List PyData → PyData → Prop} {sp : Sp}
/-- f(e), e draws -/
theorem ef_call1 (F : Fn X.prog X.w X.K X.mg X.base x k ps (spP Rr)) (hr : Room k X.A) (hg : Gl X x) (ha : Ef X ρ μ a A μ1) (h : ∀ d, A d → ∃ d', Rr [d] d' ∧ B d') (hdb : (x == ("__debug__" : Str)) = false := by decide) (he : starEach [a] X.env = (false, eval a X.env) :: starEach [] X.env := by rfl) (hpl : (backTo pos (starEach [] X.env)).any (·.1) = false := by rfl) :
    Ef X ρ μ (.Call (.Name x p) [a] [] pos) B μ1 := fun S I0 H0 I H σ α F1 Q q => by
  refine we_call F hr hg (wa_of (pa_cons pe_we pa_wa he) ?_) hdb he hpl
  refine ha S I0 H0 I H σ α F1 _ fun v d I' H' F2 e2 r2 hA => ?_
  obtain ⟨d', hR, hB⟩ := h d hA
  exact wa_of pa_nil ⟨I', [d], d', F2.e, .cons r2 .nil, hR, fun u I3 H3 n3 r3 => q u d' I3 H3 (F2.step n3) (e2.trans n3.i) r3 hB⟩
/-- f(e, e2), e2 draws -/
theorem ef_call2 (F : Fn X.prog X.w X.K X.mg X.base x k ps (spP Rr)) (hr : Room k X.A) (hg : Gl X x) (ha : E X ρ a d) (hb : Ef X ρ μ b A μ1) (h : ∀ d2, A d2 → ∃ d', Rr [d, d2] d' ∧ B d') (hdb : (x == ("__debug__" : Str)) = false := by decide) (he : starEach [a, b] X.env = (false, eval a X.env) :: starEach [b] X.env := by rfl) (he2 : starEach [b] X.env = (false, eval b X.env) :: starEach [] X.env := by rfl) (hpl : (backTo pos (starEach [b] X.env)).any (·.1) = false := by rfl) :
    Ef X ρ μ (.Call (.Name x p) [a, b] [] pos) B μ1 := fun S I0 H0 I H σ α F1 Q q => by
  refine we_call F hr hg (wa_of (pa_cons pe_we pa_wa he) ?_) hdb he hpl
  refine ha I σ H F1.e F1.v _ fun v I1 H1 n1 r1 => ?_
  refine wa_of (pa_cons pe_we pa_wa he2) ?_
  refine hb S I0 H0 I1 H1 σ α (F1.step n1) _ fun u d2 I' H' F2 e2 r2 hA => ?_
  obtain ⟨d', hR, hB⟩ := h d2 hA
  exact wa_of pa_nil ⟨I', [d, d2], d', F2.e, .cons (r1.up e2) (.cons r2 .nil), hR, fun u I3 H3 n3 r3 => q u d' I3 H3 (F2.step n3) ((n1.i.trans e2).trans n3.i) r3 hB⟩
/-- dict(e), e draws a list of pairs -/
theorem ef_dictOf (hu : X.A.units + 64 < cLine) (hc : X.calm = true) (hg : Gl X "dict") (hm : X.mg "dict" = none) {Pk : List (List Int × PyData) → Prop} (ha : Ef X ρ μ a (fun d => ∃ kvs : List (List Int × PyData), d = .list (kvs.map fun q => .tuple [pwD q.1, q.2]) ∧ Pk kvs) μ1) (hs : starEach [a] X.env = [(false, eval a X.env)] := by rfl) :
    Ef X ρ μ (.Call (.Name "dict" p) [a] [] pos) (fun d => ∃ kvs, d = kvD (kvAll kvs) ∧ Pk kvs) μ1 := fun S I0 H0 I H σ α F1 Q q =>
  we_of (pe_callTy (cr_dictOf hu hc) hg hm (by decide +kernel) (pa1 hs) (by decide) (by decide) hs rfl) (ha S I0 H0 I H σ α F1 _ fun v d I' H' F2 e2 r2 hA => by
    obtain ⟨kvs, rfl, hk⟩ := hA
    cases r2 with
    | lst ea ra =>
      exact ⟨_, _, I', kvs, rfl, SqL.of (F2.e _ _ ea), F2.e, ra, fun p ob ws rw hp => q _ _ _ _ (F2.step (Nw.new (o := .frz ob (.dT ws)) F2.e hp)) (e2.trans (Nw.new (o := .frz ob (.dT ws)) F2.e hp).i) (.dct upd_same (rw.up (Nw.new (o := .frz ob (.dT ws)) F2.e hp).i).ps) ⟨kvs, rfl, hk⟩⟩)
/-- (a, b), b draws -/
theorem ef_tup2 {x1 : Nat} (ha : E X ρ a d) (hb : Ef X ρ μ b A μ1) (he : starEach [a, b] X.env = (false, eval a X.env) :: starEach [b] X.env := by rfl) (he2 : starEach [b] X.env = (false, eval b X.env) :: starEach [] X.env := by rfl) : Ef X ρ μ (.Tuple [a, b] x1 pos) (fun z => ∃ d', z = .tuple [d, d'] ∧ A d') μ1 := fun S I0 H0 I H σ α F1 Q q => by
  refine we_of (pe_tup pa_wa) (wa_of (pa_cons pe_we pa_wa he) ?_)
  refine ha I σ H F1.e F1.v _ fun v I1 H1 n1 r1 => ?_
  refine wa_of (pa_cons pe_we pa_wa he2) ?_
  refine hb S I0 H0 I1 H1 σ α (F1.step n1) _ fun u d2 I' H' F2 e2 r2 hA => ?_
  refine wa_of pa_nil ⟨by show 2 ≤ sizeLine; decide, fun t ht => ?_⟩
  have nn := Nw.new (o := .tup [v, u]) F2.e ht
  exact q _ _ _ _ (F2.step nn) ((n1.i.trans e2).trans nn.i) (.tup upd_same (.cons ((r1.up e2).up nn.i) (.cons (r2.up nn.i) .nil))) ⟨d2, rfl, hA⟩
end
theorem penMo_forget {pn n i : Nat} (h : i ≠ pn) : mu (penMo pn n) i none = penMo pn n := by
  funext j
  unfold mu penMo
  by_cases e : j = i
  · rw [if_pos e, if_neg (by omega)]
  · rw [if_neg e]
theorem mo_eq {μ : Mo} {pn n : Nat} (h : μ pn = some (.pen n)) (h0 : ∀ i, i ≠ pn → μ i = none) : μ = penMo pn n := by
  funext j
  unfold penMo
  by_cases e : j = pn
  · rw [if_pos e, e, h]
  · rw [if_neg e, h0 j e]
/-! ### what is drawn is good -/
theorem polOf_mem {m : KI} (hnd : (m.map (·.1)).Nodup) {t : Tm} (h : t ∈ polOf m) : t.1 ≠ 0 ∧ (t.2, t.1) ∈ m := by
  unfold polOf at h
  obtain ⟨q, hq, rfl⟩ := List.mem_map.mp h
  have hq2 := (srtP_perm _).mem_iff.mp hq
  obtain ⟨z, hz, rfl⟩ := List.mem_map.mp hq2
  obtain ⟨h1, h2⟩ := List.mem_filter.mp hz
  have e := kiGet_mem hnd h1
  refine ⟨?_, ?_⟩
  · show kiGet m z.1 ≠ 0
    rw [e]
    exact of_decide_eq_true h2
  · show (z.1, kiGet m z.1) ∈ m
    rw [e]
    exact h1
theorem polOf_len (m : KI) : (polOf m).length ≤ m.length := by
  unfold polOf
  rw [List.length_map, (srtP_perm _).length_eq, List.length_map]
  exact List.length_filter_le _ _
theorem polOf_nd {m : KI} (hnd : (m.map (·.1)).Nodup) : ((polOf m).map (·.2)).Nodup := by
  have e : (polOf m).map (·.2) = srtP ((m.filter fun q => decide (q.2 ≠ 0)).map (·.1)) := by
    unfold polOf
    rw [List.map_map]
    exact List.map_id _
  rw [e]
  exact (srtP_perm _).nodup_iff.mpr (List.Pairwise.sublist (List.Sublist.map _ List.filter_sublist) hnd)
theorem polOf_desc {m : KI} (hnd : (m.map (·.1)).Nodup) : (polOf m).Pairwise fun a b => rkLt (rkP b.2) (rkP a.2) = true := by
  have hn : (srtP ((m.filter fun q => decide (q.2 ≠ 0)).map (·.1))).Nodup := (srtP_perm _).nodup_iff.mpr (List.Pairwise.sublist (List.Sublist.map _ List.filter_sublist) hnd)
  unfold polOf
  rw [List.pairwise_map]
  have hp := srtD_pw (((m.filter fun q => decide (q.2 ≠ 0)).map (·.1)).map rkP)
  rw [← srtP_rk, List.pairwise_map] at hp
  refine List.Pairwise.imp₂ (fun {a b} h1 h2 => ?_) hp hn
  cases h : rkLt (rkP b) (rkP a) with
  | true => rfl
  | false =>
    exfalso
    have h2 : ¬ a = b := h2
    have e := rkLt_tri _ _ h1 h
    exact h2 (congrArg (fun k : Rk => k.2.1) e)
structure Pok (w : Nat) (p : List Tm) : Prop where
  g : Good (w : Int) p
  s : ∀ t ∈ p, TmS t
  l : p.length ≤ 5
  w : w ≤ 3
theorem pok_of {w : Nat} {m : KI} (hw : w ≤ 3) (nd : (m.map (·.1)).Nodup) (l : ∀ q ∈ m.map (·.1), q.length = w) (n : ∀ q ∈ m.map (·.1), ∀ x ∈ q, 0 ≤ x ∧ x ≤ 6) (len : m.length ≤ 5) : Pok w (polOf m) := by
  have hl := polOf_len m
  have key : ∀ t ∈ polOf m, t.2 ∈ m.map (·.1) := fun t ht => List.mem_map.mpr ⟨_, (polOf_mem nd ht).2, rfl⟩
  refine ⟨⟨fun t ht => ⟨(polOf_mem nd ht).1, by rw [l _ (key t ht)], fun x hx => by have := n _ (key t ht) x hx; omega⟩, polOf_desc nd, by omega, by omega, by omega⟩, fun t ht => ⟨by rw [l _ (key t ht)]; exact hw, n _ (key t ht)⟩, by omega, hw⟩
theorem kvAll_go : ∀ (m acc : List (List Int × PyData)), ((acc ++ m).map (·.1)).Nodup → m.foldl (fun a q => kvPut a q.1 q.2) acc = acc ++ m
  | [], acc, _ => (List.append_nil acc).symm
  | q :: m, acc, h => by
    have hq : kvGet acc q.1 = none := by
      cases e : kvGet acc q.1 with
      | none => rfl
      | some d =>
        exfalso
        have hm : q.1 ∈ acc.map (·.1) := kvGet_mem.mp (by rw [e]; rfl)
        rw [List.map_append, List.nodup_append] at h
        exact h.2.2 q.1 hm q.1 (by rw [List.map_cons]; exact .head _) rfl
    have e1 : kvPut acc q.1 q.2 = acc ++ [q] := by
      unfold kvPut
      rw [kvGet_any, hq]
      rfl
    show m.foldl _ (kvPut acc q.1 q.2) = _
    rw [e1, kvAll_go m (acc ++ [q]) (by rw [List.append_assoc]; exact h), List.append_assoc]
    rfl
theorem kvAll_nd {m : List (List Int × PyData)} (h : (m.map (·.1)).Nodup) : kvAll m = m := by
  have := kvAll_go m [] (by rw [List.nil_append]; exact h)
  rwa [List.nil_append] at this
/-! ### the pen -/
theorem sc28 : FnScope ["script", "cell"] ["script"] (defScope (topS 40)) := ⟨rfl, rfl, rfl, by decide +kernel, rfl, by decide +kernel, by decide +kernel⟩
section
variable {X : Cx} {ρ : Ro} {tg iter elt : Expr} {ds : List PyData} {scope : Scope} {own : List (Str × Nat)} {pos : Pos} {g : TG} {F : PyData → PyData} {ρ' : PyData → Ro}
theorem tlcAt {I : Hp} {σ : L2.St} {H : Hp} (itA : ∀ R : It → Hp → Prop, (∀ J I' H', Nw I H I' H' → ItOk J I' GT ds → R J H') → WI X tg iter σ H R)
    (gt : ∀ d, d ∈ ds → Gt g (own.map (·.2)) (wipeR ρ (own.map (·.2))) d (ρ' d)) (he : ∀ d, d ∈ ds → Eb X scope (ρ' d) elt (F d)) (hl : ds.length < 100000)
    (hx : Ex I H) (vs : VS I σ ρ) (Q : VK) (k : ∀ v I' H', Nw I H I' H' → Rp I' v (.list (ds.map F)) → Q v H') : tLc (WI X tg iter) g tYes (WEb X scope elt) (own.map (·.2)) σ H Q := by
  refine itA _ fun J I1 H1 n1 ok1 D hD => ?_
  have hD0 : I1 D = none := fresh_back n1.j hD
  refine ⟨fun i m H' => m = ds.length - i ∧ i ≤ ds.length ∧ LcP I1 H1 D (fun _ => true) F ds i H', ⟨ds.length, rfl, Nat.zero_le _, I1, [], Ex.refl _, n1.j.trans (Ex.new hD), hD0, upd_same, Ex.new hD, fun a e _ => e, .nil⟩, ?_⟩
  rintro i m H2 ⟨rfl, hi, I2, acc, a1, a2, a3, a4, a5, a6, a7⟩
  by_cases hlt : i < ds.length
  · refine .inr ⟨ok1.go i I2 H2 a1 a2 trivial hlt, LcP I1 H1 D (fun _ => true) F ds (i + 1), fun H' p' => ⟨ds.length - (i + 1), by omega, rfl, hlt, p'⟩, fun x H3 y => ?_⟩
    obtain ⟨I3, d, n3, hd, rd⟩ := ok1.yld i I2 H2 x H3 a1 a2 trivial hlt y
    have hm : d ∈ ds := List.mem_of_getElem? hd
    refine (gt d hm).run I3 (L2.wipe σ (own.map (·.2))) H3 x n3.j (((vs.up n1.i).up (a1.trans n3.i)).wipe _) rd _ ?_
    intro σ2 vs2 ag hl2
    refine ⟨wipe_same ag hl2, ?_⟩
    have D3 := n3.keep a4 a3
    unfold tYes
    dsimp only
    rw [if_pos rfl]
    intro s0 H0 C cl fp
    refine he d hm s0 H0 C cl fp I3 σ2 H3 n3.j vs2 _ fun v5 I5 H5 n5 r5 => ?_
    have D5 := n5.keep D3.1 D3.2
    refine ⟨acc, D5.1, lcp_len (I := I1) (H := H1) (H' := H2) (D := D) a7 hl, I5, acc ++ [v5], (a1.trans n3.i).trans n5.i, n5.j.mut D5.2, D5.2, upd_same, ((a5.trans n3.h).trans n5.h).mut hD, fun a e z => ?_, ?_⟩
    · exact n5.k a (n3.k a (a6 a e z) (z.up a5)) (z.up (a5.trans n3.h))
    · rw [take_filter hd, if_pos rfl]
      exact (a7.up (n3.i.trans n5.i)).snoc r5
  · have e : i = ds.length := by omega
    subst e
    have nw : Nw I1 H1 (upd I2 D (.lst acc)) H2 := by
      refine ⟨a1.trans (Ex.new a3), fun a o q => ?_, a5, fun a e z => ?_⟩
      · by_cases h : a = D
        · subst h; rw [upd_same] at q; rw [a4]; exact q
        · rw [upd_ne h] at q; exact a2 a o q
      · rw [upd_ne (z.ne hD)]
        exact a6 a e z
    refine .inl ⟨ok1.stop I2 H2 a1 a2 trivial, k _ _ _ (n1.trans nw) ?_⟩
    rw [List.take_length, List.filter_eq_self.mpr fun _ _ => rfl] at a7
    exact .lst upd_same (a7.up (Ex.new a3))
end
def spPen (K : PySem.W.Frag) : Sp := fun vs H Q _ => ∃ (a : Addr) (ns : List Int), vs = [.ref a] ∧ SqL K H a (ns.map V.int) ∧ ns.length ≤ 63 ∧
  ∀ (I' H' : Hp) (p c : Addr) (cs : List Int), Nw (fun _ => none) H I' H' → I' c = some (.lst (cs.map V.int)) → H' p = none → Q (.ref p) (upd H' p (.lst [.ref c, .int 0, .int 0]))
section
variable {P : Program} {w : World} {K : PySem.W.Frag} {mg : Str → Option Value} {base : Heap} {k : Nat}
theorem fn_pen (D : Dfn K mg "_law_pen" (topS 40)) (mi : mg "int" = none) : Fn P w K mg base "_law_pen" 1 ["script"] (spPen K) :=
  fn_mk (k := 0) D sc28 (fun vs H Q E h => by obtain ⟨a, ns, rfl, _⟩ := h; rfl) (fun kV doc pm an cdv ct us hl => by
    match us, hl with
    | [a], _ => rfl) fun f cdv A outer s H G hr vs Q h => by
    obtain ⟨a, ns, rfl, hS, hl, q⟩ := h
    have vs0 : VS (fun _ => none) (L2.start ["script", "cell"] [V.ref a]) [none, none] := ⟨rfl, fun i d e => by
      rcases i with _ | _ | i
      · simp at e
      · simp at e
      · simp at e⟩
    refine ws_ret (we_of (pe_lst pa_wa) (wa_of (pa_cons pe_we pa_wa rfl) ?_))
    obtain ⟨cs, hcs⟩ : ∃ cs : List Int, cutV (ns.map V.int) none (some 63) = cs.map V.int := by
      unfold cutV
      refine ⟨((ns.drop (HT.sIx (ns.map V.int).length 0 none)).take (HT.sIx (ns.map V.int).length (ns.map V.int).length (some 63) - HT.sIx (ns.map V.int).length 0 none)), ?_⟩
      rw [List.map_take, List.map_drop]
    have hcl : cs.length ≤ 63 := by
      have := cutV_length (ns.map V.int) none (some 63)
      rw [hcs, List.length_map, List.length_map] at this
      omega
    refine we_of (pe_lc (wi := WI _ _ _) (g := gName 1) (tt := tYes) (te := WEb _ _ _) (own := [("cell", 1)]) rfl sc28.nd pi_wi (blkOk_by (own := [("cell", 1)]) (N := ["script", "cell"]) (sc := defScope (topS 40)) (by decide +kernel)) (fun _ _ _ _ _ => pg_name (i := 1) sc28.nd rfl (Or.inl rfl)) (fun s H C cl fp => pts_nil) (fun s H C cl fp => ⟨fun pins s' σ H' Q I h => h s H C cl fp pins s' I⟩) (by intro _; rfl)) ?_
    refine tlcAt (ρ := [none, none]) (I := fun _ => none) (ds := cs.map .int) (F := fun d => d) (ρ' := fun d => (wipeR _ [1]).set 1 (some d)) (fun R k pins s i => (pi_list pe_we).run pins s _ H R i ?_) (fun d _ => gt_name (by simp)) (fun d hd => ?_) (by rw [List.length_map]; omega) (fun a o z => nomatch z) vs0 _ fun v I1 H1 n1 r1 => ?_
    · refine we_of (pe_slice sl_list pe_we po_none (po_some pe_int)) ?_
      refine we_of (pe_var (i := 0) rfl (.inl rfl) (by decide) (by decide)) ⟨.ref a, rfl, 63, rfl, a, _, rfl, hS, fun c hc => ?_⟩
      rw [hcs]
      have nn : Nw (fun _ => none) H (upd (fun _ => none) c (.lst (cs.map V.int))) (upd H c (.lst (cs.map V.int))) := Nw.new (fun a o z => nomatch z) hc
      exact ⟨c, rfl, ⟨_, SqL.of upd_same⟩, k _ _ _ nn (itok_list upd_same (rpAll_ints cs))⟩
    · obtain ⟨i, hi, rfl⟩ := List.mem_map.mp hd
      intro s0 H0 C cl fp
      exact e_intI (by rfl) mi (e_name 1 rfl (.inl rfl) rfl)
    · rw [List.map_id'] at r1
      cases r1 with
      | lst ea ra =>
        rw [ra.ints] at ea
        refine wa_of (pa_cons pe_int (pa_cons pe_int pa_nil rfl) rfl) ?_
        exact ⟨by show 3 ≤ sizeLine; decide, fun p hp => q I1 H1 p _ cs n1 ea hp⟩
end
end R1

set_option Elab.async false
set_option linter.all false
set_option maxRecDepth 100000
set_option maxHeartbeats 4000000
namespace R1
open PySem PySem.Spec PyProof.Rows L2 Evl
def ev (m : KI) (φ : List Int → Int) : Int := (m.map fun q => q.2 * φ q.1).sum
theorem ev_nil (φ : List Int → Int) : ev [] φ = 0 := rfl
theorem ev_cons (q : List Int × Int) (m : KI) (φ : List Int → Int) : ev (q :: m) φ = q.2 * φ q.1 + ev m φ := by
  unfold ev
  rw [List.map_cons, List.sum_cons]
theorem ev_append (a b : KI) (φ : List Int → Int) : ev (a ++ b) φ = ev a φ + ev b φ := by
  unfold ev
  rw [List.map_append, List.sum_append]
theorem ev_perm {a b : KI} (h : a.Perm b) (φ : List Int → Int) : ev a φ = ev b φ := by
  induction h with
  | nil => rfl
  | cons x _ ih => rw [ev_cons, ev_cons, ih]
  | swap x y l => rw [ev_cons, ev_cons, ev_cons, ev_cons]; omega
  | trans _ _ h1 h2 => rw [h1, h2]
theorem ev_congr {m : KI} {φ ψ : List Int → Int} (h : ∀ q ∈ m, φ q.1 = ψ q.1) : ev m φ = ev m ψ := by
  induction m with
  | nil => rfl
  | cons q m ih => rw [ev_cons, ev_cons, h q (.head _), ih fun x hx => h x (.tail _ hx)]
theorem ev_filter (m : KI) (φ : List Int → Int) : ev (m.filter fun q => decide (q.2 ≠ 0)) φ = ev m φ := by
  induction m with
  | nil => rfl
  | cons q m ih =>
    rw [List.filter_cons, ev_cons]
    by_cases h : q.2 = 0
    · rw [if_neg (by simp [h]), ih, h, Int.zero_mul, Int.zero_add]
    · rw [if_pos (by simp [h]), ev_cons, ih]
abbrev Nd (m : KI) : Prop := (m.map (·.1)).Nodup
theorem kiGet_none {m : KI} {p : List Int} (h : p ∉ m.map (·.1)) : kiGet m p = 0 := by
  induction m with
  | nil => rfl
  | cons q m ih =>
    rw [List.map_cons, List.mem_cons, not_or] at h
    have : kiGet (q :: m) p = kiGet m p := by simp [kiGet, List.find?_cons, Ne.symm h.1]
    rw [this]
    exact ih h.2
theorem any_iff {m : KI} {p : List Int} : (m.any fun q => decide (q.1 = p)) = true ↔ p ∈ m.map (·.1) := by
  rw [List.any_eq_true, List.mem_map]
  constructor
  · rintro ⟨q, hq, e⟩
    exact ⟨q, hq, of_decide_eq_true e⟩
  · rintro ⟨q, hq, e⟩
    exact ⟨q, hq, decide_eq_true e⟩
theorem ev_put {m : KI} (h : Nd m) {p : List Int} {c : Int} (φ : List Int → Int) (hp : p ∈ m.map (·.1)) : ev (m.map fun q => if q.1 = p then (q.1, c) else q) φ = ev m φ + (c - kiGet m p) * φ p := by
  induction m with
  | nil => exact nomatch hp
  | cons q m ih =>
    have hn : q.1 ∉ m.map (·.1) ∧ Nd m := by
      have h := h
      unfold Nd at h
      rw [List.map_cons, List.nodup_cons] at h
      exact h
    rw [List.map_cons, ev_cons, ev_cons]
    by_cases e : q.1 = p
    · subst e
      have e1 : kiGet (q :: m) q.1 = q.2 := by simp [kiGet, List.find?_cons]
      have e2 : (m.map fun z => if z.1 = q.1 then (z.1, c) else z) = m := by
        conv => rhs; rw [← List.map_id m]
        refine List.map_congr_left fun z hz => ?_
        rw [if_neg fun w => hn.1 (by rw [← w]; exact List.mem_map.mpr ⟨z, hz, rfl⟩)]
        rfl
      rw [if_pos rfl, e2, e1, Int.sub_mul]
      show c * φ q.1 + ev m φ = _
      omega
    · have e1 : kiGet (q :: m) p = kiGet m p := by simp [kiGet, List.find?_cons, e]
      rw [if_neg e, e1, ih hn.2 ((List.mem_cons.mp (by rw [List.map_cons] at hp; exact hp)).resolve_left fun w => e w.symm)]
      omega
theorem ev_add {m : KI} (h : Nd m) (p : List Int) (c : Int) (φ : List Int → Int) : ev (kiAdd m p c) φ = ev m φ + c * φ p := by
  unfold kiAdd kiPut
  by_cases e : (m.any fun q => decide (q.1 = p)) = true
  · rw [if_pos e, ev_put h φ (any_iff.mp e)]
    congr 2
    omega
  · rw [if_neg e, ev_append, ev_cons, ev_nil, kiGet_none fun z => e (any_iff.mpr z), Int.zero_add, Int.add_zero]
theorem nd_add {m : KI} (h : Nd m) (p : List Int) (c : Int) : Nd (kiAdd m p c) := kiPut_keys m p _ h
def one (q : List Int) (r : List Int) : Int := if r = q then 1 else 0
theorem ev_one {m : KI} (h : Nd m) (q : List Int) : ev m (one q) = kiGet m q := by
  induction m with
  | nil => rfl
  | cons z m ih =>
    have hn : z.1 ∉ m.map (·.1) ∧ Nd m := by
      have h := h
      unfold Nd at h
      rw [List.map_cons, List.nodup_cons] at h
      exact h
    rw [ev_cons, ih hn.2]
    by_cases e : z.1 = q
    · subst e
      have e1 : kiGet (z :: m) z.1 = z.2 := by simp [kiGet, List.find?_cons]
      rw [e1, kiGet_none hn.1]
      unfold one
      rw [if_pos rfl, Int.mul_one, Int.add_zero]
    · have e1 : kiGet (z :: m) q = kiGet m q := by simp [kiGet, List.find?_cons, e]
      rw [e1]
      unfold one
      rw [if_neg e, Int.mul_zero, Int.zero_add]
def mon : List Int → List Int → Int
  | x :: xs, n :: ns => x ^ n.toNat * mon xs ns
  | _, _ => 1
theorem pwF_fold : ∀ (l : List (Int × Int)) (c : Int), l.foldl pwF c = c * l.foldl pwF 1
  | [], c => by simp
  | q :: l, c => by
    show l.foldl pwF (pwF c q) = c * l.foldl pwF (pwF 1 q)
    rw [pwF_fold l (pwF c q), pwF_fold l (pwF 1 q)]
    unfold pwF
    rw [Int.one_mul, Int.mul_assoc]
theorem fold_mon : ∀ (xs ns : List Int), (xs.zip ns).foldl pwF 1 = mon xs ns
  | [], [] => rfl
  | [], _ :: _ => rfl
  | _ :: _, [] => rfl
  | x :: xs, n :: ns => by
    show (xs.zip ns).foldl pwF (pwF 1 (x, n)) = x ^ n.toNat * mon xs ns
    rw [pwF_fold, fold_mon xs ns]
    unfold pwF
    rw [Int.one_mul]
theorem tmW_mon (t : Tm) (xs : List Int) : tmW t xs = t.1 * mon xs t.2 := by
  unfold tmW
  rw [pwF_fold, fold_mon]
theorem fold_sum {α : Type} (f : α → Int) : ∀ (l : List α) (a : Int), l.foldl (fun a x => a + f x) a = a + (l.map f).sum
  | [], a => by simp
  | x :: l, a => by
    show l.foldl _ (a + f x) = _
    rw [fold_sum f l, List.map_cons, List.sum_cons, Int.add_assoc]
theorem worth_sum (p : List Tm) (xs : List Int) : worth p xs = (p.map fun t => t.1 * mon xs t.2).sum := by
  unfold worth
  rw [fold_sum (fun t => tmW t xs), Int.zero_add]
  congr 1
  exact List.map_congr_left fun t _ => tmW_mon t xs
/-! ### sorted polynomials and what they add up to under a test -/
def pev (p : List Tm) (φ : List Int → Int) : Int := (p.map fun t => t.1 * φ t.2).sum
theorem pev_nil (φ : List Int → Int) : pev [] φ = 0 := rfl
theorem pev_cons (t : Tm) (p : List Tm) (φ : List Int → Int) : pev (t :: p) φ = t.1 * φ t.2 + pev p φ := by
  unfold pev
  rw [List.map_cons, List.sum_cons]
theorem pev_append (p q : List Tm) (φ : List Int → Int) : pev (p ++ q) φ = pev p φ + pev q φ := by
  unfold pev
  rw [List.map_append, List.sum_append]
theorem pev_congr {p : List Tm} {φ ψ : List Int → Int} (h : ∀ t ∈ p, φ t.2 = ψ t.2) : pev p φ = pev p ψ := by
  unfold pev
  congr 1
  exact List.map_congr_left fun t ht => by rw [h t ht]
theorem pev_perm {p q : List Tm} (h : p.Perm q) (φ : List Int → Int) : pev p φ = pev q φ := by
  induction h with
  | nil => rfl
  | cons x _ ih => rw [pev_cons, pev_cons, ih]
  | swap x y l => rw [pev_cons, pev_cons, pev_cons, pev_cons]; omega
  | trans _ _ h1 h2 => rw [h1, h2]
theorem pev_add (p : List Tm) (φ ψ : List Int → Int) : pev p (fun a => φ a + ψ a) = pev p φ + pev p ψ := by
  induction p with
  | nil => rfl
  | cons t p ih => rw [pev_cons, pev_cons, pev_cons, ih, Int.mul_add]; omega
theorem pev_mul (p : List Tm) (φ : List Int → Int) (k : Int) : pev p (fun a => k * φ a) = k * pev p φ := by
  induction p with
  | nil => rw [pev_nil, pev_nil, Int.mul_zero]
  | cons t p ih =>
    rw [pev_cons, pev_cons, ih, Int.mul_add]
    congr 1
    rw [← Int.mul_assoc, Int.mul_comm t.1 k, Int.mul_assoc]
theorem pev_zero (p : List Tm) : pev p (fun _ => 0) = 0 := by
  induction p with
  | nil => rfl
  | cons t p ih => rw [pev_cons, ih, Int.mul_zero, Int.zero_add]
theorem pev_swap (p q : List Tm) (φ : List Int → List Int → Int) : pev p (fun a => pev q fun b => φ a b) = pev q fun b => pev p fun a => φ a b := by
  induction p with
  | nil => rw [pev_nil]; exact (pev_zero q).symm
  | cons t p ih =>
    rw [pev_cons, ih]
    have : (fun b => pev (t :: p) fun a => φ a b) = fun b => t.1 * φ t.2 b + pev p fun a => φ a b := by
      funext b
      rw [pev_cons]
    rw [this, pev_add, pev_mul]
/-- a dict of terms as terms -/
theorem pev_polOf {m : KI} (h : Nd m) (φ : List Int → Int) : pev (polOf m) φ = ev m φ := by
  rw [← ev_filter m]
  have hp : ((polOf m).map fun t => ((t.2, t.1) : List Int × Int)).Perm (m.filter fun q => decide (q.2 ≠ 0)) := by
    unfold polOf
    rw [List.map_map]
    have h1 := (srtP_perm ((m.filter fun q => decide (q.2 ≠ 0)).map (·.1))).map fun q => (q, kiGet m q)
    refine h1.trans ?_
    rw [List.map_map]
    have : ((m.filter fun q => decide (q.2 ≠ 0)).map ((fun q => (q, kiGet m q)) ∘ fun x => x.1)) = m.filter fun q => decide (q.2 ≠ 0) := by
      conv => rhs; rw [← List.map_id (m.filter fun q => decide (q.2 ≠ 0))]
      refine List.map_congr_left fun q hq => ?_
      show (q.1, kiGet m q.1) = q
      rw [kiGet_mem h (List.mem_filter.mp hq).1]
    rw [this]
  rw [← ev_perm hp]
  unfold ev pev
  rw [List.map_map]
  rfl
/-- sorting does not look at the order told -/
theorem srtP_perm_eq {a b : List (List Int)} (h : a.Perm b) : srtP a = srtP b := by
  refine srtP_eq ((srtP_perm a).trans h) ?_
  have hp := srtD_pw (a.map rkP)
  rw [← srtP_rk, List.pairwise_map] at hp
  exact hp
theorem mem_nz {m : KI} (h : Nd m) {q : List Int} : q ∈ (m.filter fun z => decide (z.2 ≠ 0)).map (·.1) ↔ kiGet m q ≠ 0 := by
  constructor
  · intro z
    obtain ⟨y, hy, rfl⟩ := List.mem_map.mp z
    obtain ⟨h1, h2⟩ := List.mem_filter.mp hy
    rw [kiGet_mem h h1]
    exact of_decide_eq_true h2
  · intro z
    by_cases hm : q ∈ m.map (·.1)
    · obtain ⟨y, hy, rfl⟩ := List.mem_map.mp hm
      rw [kiGet_mem h hy] at z
      exact List.mem_map.mpr ⟨y, List.mem_filter.mpr ⟨hy, decide_eq_true z⟩, rfl⟩
    · exact absurd (kiGet_none hm) z
/-- dicts alike under all tests give one sorted polynomial -/
theorem polOf_eq {m n : KI} (hm : Nd m) (hn : Nd n) (h : ∀ φ, ev m φ = ev n φ) : polOf m = polOf n := by
  have hg : ∀ q, kiGet m q = kiGet n q := fun q => by rw [← ev_one hm, ← ev_one hn, h]
  have hk : ((m.filter fun z => decide (z.2 ≠ 0)).map (·.1)).Perm ((n.filter fun z => decide (z.2 ≠ 0)).map (·.1)) := by
    refine (List.perm_ext_iff_of_nodup ?_ ?_).mpr fun q => ?_
    · exact List.Pairwise.sublist (List.Sublist.map _ List.filter_sublist) hm
    · exact List.Pairwise.sublist (List.Sublist.map _ List.filter_sublist) hn
    · rw [mem_nz hm, mem_nz hn, hg]
  unfold polOf
  rw [srtP_perm_eq hk]
  exact List.map_congr_left fun q _ => by rw [hg]
/-- terms as a dict -/
def kiOf (p : List Tm) : KI := p.foldl (fun m t => kiAdd m t.2 t.1) []
theorem kiOf_go : ∀ (p : List Tm) (m : KI), Nd m → Nd (p.foldl (fun m t => kiAdd m t.2 t.1) m) ∧ ∀ φ, ev (p.foldl (fun m t => kiAdd m t.2 t.1) m) φ = ev m φ + pev p φ
  | [], m, h => ⟨h, fun φ => by rw [pev_nil, Int.add_zero]; rfl⟩
  | t :: p, m, h => by
    obtain ⟨h1, h2⟩ := kiOf_go p (kiAdd m t.2 t.1) (nd_add h _ _)
    refine ⟨h1, fun φ => ?_⟩
    show ev (p.foldl _ (kiAdd m t.2 t.1)) φ = _
    rw [h2 φ, ev_add h, pev_cons, Int.add_assoc]
theorem kiOf_nd (p : List Tm) : Nd (kiOf p) := (kiOf_go p [] List.Pairwise.nil).1
theorem ev_kiOf (p : List Tm) (φ : List Int → Int) : ev (kiOf p) φ = pev p φ := by
  have := (kiOf_go p [] List.Pairwise.nil).2 φ
  rw [ev_nil, Int.zero_add] at this
  exact this
/-- the sorted polynomial of terms -/
def cano (p : List Tm) : List Tm := polOf (kiOf p)
theorem polOf_cano {m : KI} (h : Nd m) {p : List Tm} (e : ∀ φ, ev m φ = pev p φ) : polOf m = cano p := polOf_eq h (kiOf_nd p) fun φ => by rw [e, ev_kiOf]
theorem cano_eq {p q : List Tm} (e : ∀ φ, pev p φ = pev q φ) : cano p = cano q := polOf_eq (kiOf_nd p) (kiOf_nd q) fun φ => by rw [ev_kiOf, ev_kiOf, e]
theorem pev_cano (p : List Tm) (φ : List Int → Int) : pev (cano p) φ = pev p φ := by
  unfold cano
  rw [pev_polOf (kiOf_nd p), ev_kiOf]
/-! ### products -/
def zadd (a b : List Int) : List Int := List.zipWith (· + ·) a b
theorem zadd_comm : ∀ a b, zadd a b = zadd b a
  | [], [] => rfl
  | [], _ :: _ => rfl
  | _ :: _, [] => rfl
  | x :: a, y :: b => by
    show (x + y) :: zadd a b = (y + x) :: zadd b a
    rw [zadd_comm a b, Int.add_comm]
theorem zadd_assoc : ∀ a b c, zadd (zadd a b) c = zadd a (zadd b c)
  | [], _, _ => by simp [zadd]
  | _ :: _, [], _ => by simp [zadd]
  | _ :: _, _ :: _, [] => by simp [zadd]
  | x :: a, y :: b, z :: c => by
    show (x + y + z) :: zadd (zadd a b) c = (x + (y + z)) :: zadd a (zadd b c)
    rw [zadd_assoc a b c, Int.add_assoc]
theorem zadd_zero : ∀ a : List Int, zadd a (List.replicate a.length 0) = a
  | [] => rfl
  | x :: a => by
    show (x + 0) :: zadd a (List.replicate a.length 0) = x :: a
    rw [zadd_zero a, Int.add_zero]
/-- the product of rows of terms, each term by each -/
def mulP (p q : List Tm) : List Tm := (p.map fun t => q.map fun u => ((t.1 * u.1, zadd u.2 t.2) : Tm)).flatten
theorem pev_flatten (φ : List Int → Int) : ∀ l : List (List Tm), pev l.flatten φ = (l.map fun p => pev p φ).sum
  | [] => rfl
  | p :: l => by rw [List.flatten_cons, pev_append, pev_flatten φ l, List.map_cons, List.sum_cons]
theorem pev_mulP (p q : List Tm) (φ : List Int → Int) : pev (mulP p q) φ = pev p fun b => pev q fun d => φ (zadd d b) := by
  unfold mulP
  rw [pev_flatten, List.map_map]
  show _ = (p.map fun t => t.1 * pev q fun d => φ (zadd d t.2)).sum
  congr 1
  refine List.map_congr_left fun t _ => ?_
  show pev (q.map fun u => ((t.1 * u.1, zadd u.2 t.2) : Tm)) φ = _
  rw [← pev_mul q (fun d => φ (zadd d t.2)) t.1]
  unfold pev
  rw [List.map_map]
  congr 1
  refine List.map_congr_left fun u _ => ?_
  show t.1 * u.1 * φ (zadd u.2 t.2) = u.1 * (t.1 * φ (zadd u.2 t.2))
  rw [← Int.mul_assoc, Int.mul_comm t.1 u.1]
theorem mulP_comm (p q : List Tm) (φ : List Int → Int) : pev (mulP p q) φ = pev (mulP q p) φ := by
  rw [pev_mulP, pev_mulP, pev_swap]
  refine pev_congr fun t _ => pev_congr fun u _ => ?_
  rw [zadd_comm]
theorem mulP_assoc (p q r : List Tm) (φ : List Int → Int) : pev (mulP (mulP p q) r) φ = pev (mulP p (mulP q r)) φ := by
  rw [pev_mulP, pev_mulP, pev_mulP]
  refine pev_congr fun t _ => ?_
  rw [pev_mulP]
  refine pev_congr fun u _ => pev_congr fun v _ => ?_
  rw [zadd_assoc]
/-- alike under all tests -/
def Eqv (p q : List Tm) : Prop := ∀ φ, pev p φ = pev q φ
theorem Eqv.refl (p : List Tm) : Eqv p p := fun _ => rfl
theorem Eqv.symm {p q : List Tm} (h : Eqv p q) : Eqv q p := fun φ => (h φ).symm
theorem Eqv.trans {p q r : List Tm} (h : Eqv p q) (k : Eqv q r) : Eqv p r := fun φ => (h φ).trans (k φ)
theorem Eqv.cano (p : List Tm) : Eqv (cano p) p := fun φ => pev_cano p φ
theorem Eqv.mul {p q r s : List Tm} (h : Eqv p r) (k : Eqv q s) : Eqv (mulP p q) (mulP r s) := fun φ => by
  rw [pev_mulP, pev_mulP, h]
  exact pev_congr fun t _ => k _
theorem Eqv.app {p q r s : List Tm} (h : Eqv p r) (k : Eqv q s) : Eqv (p ++ q) (r ++ s) := fun φ => by
  rw [pev_append, pev_append, h, k]
theorem eqv_comm (p q : List Tm) : Eqv (mulP p q) (mulP q p) := fun φ => mulP_comm p q φ
theorem eqv_assoc (p q r : List Tm) : Eqv (mulP (mulP p q) r) (mulP p (mulP q r)) := fun φ => mulP_assoc p q r φ
theorem Eqv.eq {p q : List Tm} (h : Eqv p q) : R1.cano p = R1.cano q := cano_eq h
/-- rows of w numbers each, none below 0 -/
def Len (w : Nat) (p : List Tm) : Prop := ∀ t ∈ p, t.2.length = w
def oneP (w : Nat) : List Tm := [(1, List.replicate w 0)]
def conP (w : Nat) (c : Int) : List Tm := [(c, List.replicate w 0)]
theorem zadd_len {a b : List Int} {w : Nat} (ha : a.length = w) (hb : b.length = w) : (zadd a b).length = w := by
  unfold zadd
  rw [List.length_zipWith, ha, hb, Nat.min_self]
theorem Len.mul {w : Nat} {p q : List Tm} (hp : Len w p) (hq : Len w q) : Len w (mulP p q) := fun t ht => by
  unfold mulP at ht
  obtain ⟨l, hl, h⟩ := List.mem_flatten.mp ht
  obtain ⟨a, ha, rfl⟩ := List.mem_map.mp hl
  obtain ⟨b, hb, rfl⟩ := List.mem_map.mp h
  exact zadd_len (hq b hb) (hp a ha)
theorem len_con (w : Nat) (c : Int) : Len w (conP w c) := fun t ht => by
  rw [List.mem_singleton.mp ht]
  exact List.length_replicate
theorem eqv_con {w : Nat} {p : List Tm} (h : Len w p) (c : Int) : ∀ φ, pev (mulP (conP w c) p) φ = c * pev p φ := fun φ => by
  rw [pev_mulP]
  show pev [(c, List.replicate w 0)] _ = _
  rw [pev_cons, pev_nil, Int.add_zero]
  congr 1
  refine pev_congr fun t ht => ?_
  show φ (zadd t.2 (List.replicate w 0)) = _
  rw [← h t ht, zadd_zero]
theorem eqv_one {w : Nat} {p : List Tm} (h : Len w p) : Eqv (mulP (oneP w) p) p := fun φ => by
  have := eqv_con h 1 φ
  rw [Int.one_mul] at this
  exact this
/-- a power: one more factor behind -/
def powP (w : Nat) (p : List Tm) : Nat → List Tm
  | 0 => oneP w
  | n + 1 => mulP (powP w p n) p
theorem len_pow {w : Nat} {p : List Tm} (h : Len w p) : ∀ n, Len w (powP w p n)
  | 0 => len_con w 1
  | n + 1 => (len_pow h n).mul h
theorem pow_add {w : Nat} {p : List Tm} (h : Len w p) (m : Nat) : ∀ n, Eqv (powP w p (m + n)) (mulP (powP w p m) (powP w p n))
  | 0 => ((eqv_comm _ _).trans (eqv_one (len_pow h m))).symm
  | n + 1 => ((pow_add h m n).mul (Eqv.refl p)).trans (eqv_assoc _ _ _)
theorem pow_congr {w : Nat} {p q : List Tm} (h : Eqv p q) : ∀ n, Eqv (powP w p n) (powP w q n)
  | 0 => Eqv.refl _
  | n + 1 => (pow_congr h n).mul h
/-- squares: half as often -/
theorem pow_sq {w : Nat} {p : List Tm} (h : Len w p) : ∀ n, Eqv (powP w (mulP p p) n) (powP w p (2 * n))
  | 0 => Eqv.refl _
  | n + 1 => by
    have h1 : Eqv (powP w (mulP p p) (n + 1)) (mulP (powP w p (2 * n)) (mulP p p)) := (pow_sq h n).mul (Eqv.refl _)
    exact h1.trans (eqv_assoc _ _ _).symm
/-- putting in: the product of the powers, whole behind -/
def putM (w : Nat) : List (List Tm) → List Int → List Tm → List Tm
  | p :: ps, n :: ns, a => putM w ps ns (mulP a (powP w p n.toNat))
  | _, _, a => a
theorem putM_congr {w : Nat} : ∀ (ps : List (List Tm)) (ns : List Int) {a b : List Tm}, Eqv a b → Eqv (putM w ps ns a) (putM w ps ns b)
  | [], _, _, _, h => h
  | _ :: _, [], _, _, h => h
  | p :: ps, n :: ns, _, _, h => putM_congr ps ns (h.mul (Eqv.refl _))
theorem putM_len {w : Nat} : ∀ (ps : List (List Tm)) (ns : List Int) {a : List Tm}, (∀ p ∈ ps, Len w p) → Len w a → Len w (putM w ps ns a)
  | [], _, _, _, h => h
  | _ :: _, [], _, _, h => h
  | p :: ps, n :: ns, _, hp, h => putM_len ps ns (fun x hx => hp x (.tail _ hx)) (h.mul (len_pow (hp p (.head _)) _))
/-- a number ahead -/
theorem putM_con {w : Nat} (c : Int) : ∀ (ps : List (List Tm)) (ns : List Int) {a b : List Tm}, (∀ φ, pev b φ = c * pev a φ) → ∀ φ, pev (putM w ps ns b) φ = c * pev (putM w ps ns a) φ
  | [], _, _, _, h => h
  | _ :: _, [], _, _, h => h
  | p :: ps, n :: ns, a, b, h => putM_con c ps ns fun φ => by rw [pev_mulP, pev_mulP, h]
/-- all terms put in -/
def putP (w : Nat) (p : List Tm) (ps : List (List Tm)) : List Tm := (p.map fun t => putM w ps t.2 (conP w t.1)).flatten
theorem pev_putP (w : Nat) (p : List Tm) (ps : List (List Tm)) (φ : List Int → Int) : pev (putP w p ps) φ = (p.map fun t => pev (putM w ps t.2 (conP w t.1)) φ).sum := by
  unfold putP
  rw [pev_flatten, List.map_map]
  rfl
theorem pev_putP1 (w : Nat) (p : List Tm) (ps : List (List Tm)) (φ : List Int → Int) : pev (putP w p ps) φ = pev p fun ns => pev (putM w ps ns (oneP w)) φ := by
  rw [pev_putP]
  unfold pev
  congr 1
  refine List.map_congr_left fun t _ => ?_
  refine putM_con t.1 ps t.2 (fun ψ => ?_) φ
  show pev [(t.1, List.replicate w 0)] ψ = t.1 * pev [(1, List.replicate w 0)] ψ
  rw [pev_cons, pev_cons, pev_nil, Int.add_zero, Int.add_zero, Int.one_mul]
/-! ### worth -/
def Pos0 (p : List Tm) : Prop := ∀ t ∈ p, ∀ n ∈ t.2, 0 ≤ n
theorem mon_zadd : ∀ (xs a b : List Int), a.length = b.length → xs.length = a.length → (∀ n ∈ a, 0 ≤ n) → (∀ n ∈ b, 0 ≤ n) → mon xs (zadd a b) = mon xs a * mon xs b
  | [], [], [], _, _, _, _ => rfl
  | x :: xs, m :: a, n :: b, h1, h2, ha, hb => by
    show x ^ (m + n).toNat * mon xs (zadd a b) = (x ^ m.toNat * mon xs a) * (x ^ n.toNat * mon xs b)
    have e : (m + n).toNat = m.toNat + n.toNat := by have := ha m (.head _); have := hb n (.head _); omega
    rw [e, Int.pow_add, mon_zadd xs a b (by simpa using h1) (by simpa using h2) (fun y hy => ha y (.tail _ hy)) fun y hy => hb y (.tail _ hy)]
    simp only [Int.mul_assoc, Int.mul_left_comm, Int.mul_comm]
theorem worth_pev (p : List Tm) (xs : List Int) : worth p xs = pev p (mon xs) := worth_sum p xs
theorem pev_mulc (p : List Tm) (φ : List Int → Int) (k : Int) : pev p (fun a => φ a * k) = pev p φ * k := by
  have : (fun a => φ a * k) = fun a => k * φ a := by funext a; rw [Int.mul_comm]
  rw [this, pev_mul, Int.mul_comm]
theorem worth_mul {w : Nat} {p q : List Tm} (xs : List Int) (hx : xs.length = w) (hp : Len w p) (hq : Len w q) (np : Pos0 p) (nq : Pos0 q) : worth (mulP p q) xs = worth p xs * worth q xs := by
  rw [worth_pev, worth_pev, worth_pev, pev_mulP]
  have : pev p (fun b => pev q fun d => mon xs (zadd d b)) = pev p fun b => pev q (mon xs) * mon xs b := by
    refine pev_congr fun t ht => ?_
    rw [← pev_mulc q (mon xs)]
    refine pev_congr fun u hu => ?_
    exact mon_zadd xs u.2 t.2 ((hq u hu).trans (hp t ht).symm) (hx.trans (hq u hu).symm) (nq u hu) (np t ht)
  rw [this, pev_mul, Int.mul_comm]
theorem Pos0.mul {p q : List Tm} (hp : Pos0 p) (hq : Pos0 q) : Pos0 (mulP p q) := fun t ht => by
  unfold mulP at ht
  obtain ⟨l, hl, h⟩ := List.mem_flatten.mp ht
  obtain ⟨a, ha, rfl⟩ := List.mem_map.mp hl
  obtain ⟨b, hb, rfl⟩ := List.mem_map.mp h
  have go : ∀ (x y : List Int), (∀ n ∈ x, 0 ≤ n) → (∀ n ∈ y, 0 ≤ n) → ∀ n ∈ zadd x y, 0 ≤ n := by
    intro x
    induction x with
    | nil => intro y _ _ n hn; simp [zadd] at hn
    | cons i x ih =>
      intro y hx hy n hn
      cases y with
      | nil => simp [zadd] at hn
      | cons j y =>
        have hn : n ∈ (i + j) :: zadd x y := hn
        rcases List.mem_cons.mp hn with rfl | hn
        · have := hx i (.head _); have := hy j (.head _); omega
        · exact ih y (fun z hz => hx z (.tail _ hz)) (fun z hz => hy z (.tail _ hz)) n hn
  exact go _ _ (hq b hb) (hp a ha)
theorem pos_con (w : Nat) (c : Int) : Pos0 (conP w c) := fun t ht n hn => by
  rw [List.mem_singleton.mp ht] at hn
  rw [(List.mem_replicate.mp hn).2]
  decide
theorem pos_pow {w : Nat} {p : List Tm} (h : Pos0 p) : ∀ n, Pos0 (powP w p n)
  | 0 => pos_con w 1
  | n + 1 => (pos_pow h n).mul h
theorem mon_zero : ∀ (xs : List Int) (n : Nat), mon xs (List.replicate n 0) = 1
  | [], 0 => rfl
  | [], _ + 1 => rfl
  | _ :: _, 0 => rfl
  | x :: xs, n + 1 => by
    show x ^ (0 : Int).toNat * mon xs (List.replicate n 0) = 1
    rw [mon_zero xs n]
    show x ^ 0 * 1 = 1
    rw [Int.pow_zero]
    rfl
theorem worth_con (w : Nat) (c : Int) (xs : List Int) : worth (conP w c) xs = c := by
  rw [worth_pev]
  show pev [(c, List.replicate w 0)] _ = c
  rw [pev_cons, pev_nil, mon_zero, Int.mul_one, Int.add_zero]
theorem worth_pow {w : Nat} {p : List Tm} (xs : List Int) (hx : xs.length = w) (hp : Len w p) (np : Pos0 p) : ∀ n, worth (powP w p n) xs = worth p xs ^ n
  | 0 => by rw [Int.pow_zero]; exact worth_con w 1 xs
  | n + 1 => by
    show worth (mulP (powP w p n) p) xs = _
    rw [worth_mul xs hx (len_pow hp n) hp (pos_pow np n) np, worth_pow xs hx hp np n, Int.pow_succ]
theorem worth_putM {w : Nat} (xs : List Int) (hx : xs.length = w) : ∀ (ps : List (List Tm)) (ns : List Int) (a : List Tm), (∀ p ∈ ps, Len w p ∧ Pos0 p) → Len w a → Pos0 a → worth (putM w ps ns a) xs = worth a xs * mon (ps.map fun p => worth p xs) ns
  | [], _, a, _, _, _ => by show worth a xs = worth a xs * 1; rw [Int.mul_one]
  | _ :: _, [], a, _, _, _ => by show worth a xs = worth a xs * 1; rw [Int.mul_one]
  | p :: ps, n :: ns, a, h, ha, na => by
    obtain ⟨hp, np⟩ := h p (.head _)
    show worth (putM w ps ns (mulP a (powP w p n.toNat))) xs = worth a xs * (worth p xs ^ n.toNat * mon (ps.map fun p => worth p xs) ns)
    rw [worth_putM xs hx ps ns _ (fun q hq => h q (.tail _ hq)) (ha.mul (len_pow hp _)) (na.mul (pos_pow np _)), worth_mul xs hx ha (len_pow hp _) na (pos_pow np _), worth_pow xs hx hp np, Int.mul_assoc]
theorem worth_putP {w : Nat} (xs : List Int) (hx : xs.length = w) (p : List Tm) (ps : List (List Tm)) (h : ∀ p ∈ ps, Len w p ∧ Pos0 p) : worth (putP w p ps) xs = worth p (ps.map fun p => worth p xs) := by
  rw [worth_pev, pev_putP1, worth_pev]
  refine pev_congr fun t _ => ?_
  show pev (putM w ps t.2 (oneP w)) (mon xs) = _
  rw [← worth_pev, worth_putM xs hx ps t.2 (oneP w) h (len_con w 1) (pos_con w 1)]
  show worth (conP w 1) xs * _ = _
  rw [worth_con, Int.one_mul]
/-! ### unknowns -/
def unit (w i : Nat) : List Int := (List.range w).map fun j => if j = i then 1 else 0
def unkP (w i : Nat) : List Tm := [(1, unit w i)]
def smul (n : Nat) (a : List Int) : List Int := a.map fun x => n * x
theorem unit_len (w i : Nat) : (unit w i).length = w := by unfold unit; rw [List.length_map, List.length_range]
theorem zadd_smul : ∀ (a : List Int) (n : Nat), zadd a (smul n a) = smul (n + 1) a
  | [], _ => rfl
  | x :: a, n => by
    show (x + n * x) :: zadd a (smul n a) = ((n + 1 : Nat) : Int) * x :: smul (n + 1) a
    rw [zadd_smul a n]
    congr 1
    rw [Int.natCast_add, Int.add_mul]
    show x + n * x = n * x + 1 * x
    omega
theorem smul_zero : ∀ a : List Int, smul 0 a = List.replicate a.length 0
  | [] => rfl
  | x :: a => by
    show ((0 : Nat) : Int) * x :: smul 0 a = 0 :: List.replicate a.length 0
    rw [smul_zero a]
    congr 1
    exact Int.zero_mul x
theorem mulP_one (a b : List Int) (c d : Int) : mulP [(c, a)] [(d, b)] = [(c * d, zadd b a)] := rfl
theorem pow_unk (w i : Nat) : ∀ n, powP w (unkP w i) n = [(1, smul n (unit w i))]
  | 0 => by
    show [(1, List.replicate w 0)] = _
    rw [smul_zero, unit_len]
  | n + 1 => by
    show mulP (powP w (unkP w i) n) (unkP w i) = _
    rw [pow_unk w i n]
    show [((1 : Int) * 1, zadd (unit w i) (smul n (unit w i)))] = _
    rw [zadd_smul]
    rfl
theorem zadd_getD : ∀ (a b : List Int) (j : Nat), a.length = b.length → (zadd a b).getD j 0 = a.getD j 0 + b.getD j 0
  | [], [], j, _ => rfl
  | x :: a, y :: b, 0, _ => rfl
  | x :: a, y :: b, j + 1, h => by
    show (zadd a b).getD j 0 = a.getD j 0 + b.getD j 0
    exact zadd_getD a b j (by simpa using h)
theorem smul_getD (n : Nat) : ∀ (a : List Int) (j : Nat), (smul n a).getD j 0 = n * a.getD j 0
  | [], j => by show (0 : Int) = n * 0; rw [Int.mul_zero]
  | x :: a, 0 => rfl
  | x :: a, j + 1 => smul_getD n a j
theorem unit_getD {w i j : Nat} (h : j < w) : (unit w i).getD j 0 = if j = i then 1 else 0 := by
  unfold unit
  rw [List.getD_eq_getElem?_getD, List.getElem?_map, List.getElem?_range h]
  rfl
theorem list_getD_ext : ∀ {a b : List Int}, a.length = b.length → (∀ j, j < a.length → a.getD j 0 = b.getD j 0) → a = b
  | [], [], _, _ => rfl
  | x :: a, y :: b, h, k => by
    have h0 := k 0 (by simp)
    have h0 : x = y := h0
    rw [h0]
    exact congrArg (y :: ·) (list_getD_ext (by simpa using h) fun j hj => by have := k (j + 1) (by simpa using hj); exact this)
/-- what the product of powers of unknowns is -/
theorem putM_unk {w : Nat} : ∀ (ns : List Int) (i : Nat) (a : List Int), i + ns.length = w → a.length = w → (∀ n ∈ ns, 0 ≤ n) → ∃ b, putM w ((List.range' i ns.length).map (unkP w)) ns [(1, a)] = [(1, b)] ∧ b.length = w ∧ ∀ j, j < w → b.getD j 0 = a.getD j 0 + if i ≤ j then ns.getD (j - i) 0 else 0
  | [], i, a, h, ha, _ => ⟨a, rfl, ha, fun j hj => by rw [if_neg (by simp at h; omega), Int.add_zero]⟩
  | n :: ns, i, a, h, ha, hn => by
    have hs : (smul n.toNat (unit w i)).length = w := by unfold smul; rw [List.length_map, unit_len]
    have hz : (zadd (smul n.toNat (unit w i)) a).length = w := zadd_len hs ha
    obtain ⟨b, e, hb, hj⟩ := putM_unk ns (i + 1) (zadd (smul n.toNat (unit w i)) a) (by simp at h; omega) hz fun x hx => hn x (.tail _ hx)
    refine ⟨b, ?_, hb, fun j hjw => ?_⟩
    · show putM w (unkP w i :: (List.range' (i + 1) ns.length).map (unkP w)) (n :: ns) [(1, a)] = _
      show putM w ((List.range' (i + 1) ns.length).map (unkP w)) ns (mulP [(1, a)] (powP w (unkP w i) n.toNat)) = _
      rw [pow_unk, mulP_one]
      exact e
    · rw [hj j hjw, zadd_getD _ _ j (hs.trans ha.symm), smul_getD, unit_getD hjw]
      have h0 := hn n (.head _)
      by_cases h1 : j = i
      · rw [if_pos h1, if_neg (by omega), if_pos (by omega), h1, Nat.sub_self]
        show (n.toNat : Int) * 1 + a.getD i 0 + 0 = a.getD i 0 + n
        omega
      · rw [if_neg h1]
        by_cases h2 : i ≤ j
        · rw [if_pos (by omega), if_pos h2]
          have : j - i = (j - (i + 1)) + 1 := by omega
          rw [this]
          show (n.toNat : Int) * 0 + a.getD j 0 + ns.getD (j - (i + 1)) 0 = a.getD j 0 + ns.getD (j - (i + 1)) 0
          omega
        · rw [if_neg (by omega), if_neg h2]
          omega
/-- unknowns put in change nothing -/
theorem putP_unk {w : Nat} {p : List Tm} (hp : Len w p) (np : Pos0 p) : Eqv (putP w p ((List.range w).map (unkP w))) p := fun φ => by
  rw [pev_putP1]
  refine pev_congr fun t ht => ?_
  have hl := hp t ht
  obtain ⟨b, e, hb, hj⟩ := putM_unk (w := w) t.2 0 (List.replicate w 0) (by omega) List.length_replicate (np t ht)
  have eb : b = t.2 := list_getD_ext (hb.trans hl.symm) fun j hjl => by
    rw [hj j (by omega), if_pos (Nat.zero_le _), Nat.sub_zero]
    have : (List.replicate w (0 : Int)).getD j 0 = 0 := by
      rw [List.getD_eq_getElem?_getD, List.getElem?_replicate]
      split <;> rfl
    rw [this, Int.zero_add]
  rw [List.range_eq_range']
  rw [hl] at e
  show pev (putM w ((List.range' 0 w).map (unkP w)) t.2 [(1, List.replicate w 0)]) φ = _
  rw [e, eb, pev_cons, pev_nil, Int.one_mul, Int.add_zero]
end R1

set_option Elab.async false
set_option linter.all false
set_option maxRecDepth 100000
set_option maxHeartbeats 4000000
/-! K00W14: need_poly, constants. -/
namespace R1
open PySem PySem.Spec PyProof.Rows L2 Evl
theorem scNP : FnScope ["width", "value", "part"] ["width", "value", "part"] (defScope (topS 19)) := ⟨rfl, rfl, rfl, by decide +kernel, rfl, by decide +kernel, by decide +kernel⟩
theorem scCon : FnScope ["width", "number"] ["width", "number"] (defScope (topS 27)) := ⟨rfl, rfl, rfl, by decide +kernel, rfl, by decide +kernel, by decide +kernel⟩
theorem scLCon : FnScope ["width", "number"] ["width", "number"] (defScope (topS 48)) := ⟨rfl, rfl, rfl, by decide +kernel, rfl, by decide +kernel, by decide +kernel⟩
section
variable {P : Program} {w : World} {K : PySem.W.Frag} {mg : Str → Option Value} {base : Heap} {k : Nat}
def RNeed (ds : List PyData) (d : PyData) : Prop := ∃ (wd : Int) (p : List Tm) (k : Bool) (es : List PyData) (x : Str), ds = [.int wd, seqD k es, .str x] ∧ Tms p es ∧ Good wd p ∧ d = polD p
theorem fn_need (D : Dfn K mg "need_poly" (topS 19)) (F1 : Fn P w K mg base "is_poly" 5 ["width", "value"] (spP RPoly)) (F2 : Fn P w K mg base "as_poly" 1 ["value"] (spP RAs)) :
    Fn P w K mg base "need_poly" 6 ["width", "value", "part"] (spP RNeed) :=
  fn_pure (k := 5) D scNP (fun ds d h => by obtain ⟨p, q, r, t, x, rfl, _⟩ := h; rfl) (fun kV doc pm an cdv ct us hl => by
    match us, hl with
    | [a, b, c], _ => rfl) fun f cdv A outer s H G hr ds d h => by
    obtain ⟨wd, p, l, es, x, rfl, ht, hg, rfl⟩ := h
    refine bd_ifF ((t_not (t_val (e_call F1 hr (by rfl) (as_cons (e_name 0 rfl (.inl rfl) rfl) (as_cons (e_name 1 rfl (.inl rfl) rfl) as_nil)) ⟨wd, p, l, es, rfl, ht, hg, rfl⟩))).eq rfl) (bd_ret (e_call F2 (hr.mono (by decide)) (by rfl) (as_cons (e_name 1 rfl (.inl rfl) rfl) as_nil) ⟨p, l, es, rfl, ht, hg.l, rfl⟩))
end
end R1

set_option Elab.async false
set_option linter.all false
set_option maxRecDepth 100000
set_option maxHeartbeats 4000000
/-! K00W16: constants. -/
namespace R1
open PySem PySem.Spec PyProof.Rows L2 Evl
/-- a number as a polynomial -/
def numP (w : Nat) (c : Int) : List Tm := if c = 0 then [] else conP w c
def RCon (ds : List PyData) (d : PyData) : Prop := ∃ (w : Nat) (c : Int), ds = [.int w, .int c] ∧ w ≤ 100 ∧ d = polD (numP w c)
section
variable {P : Program} {w : World} {K : PySem.W.Frag} {mg : Str → Option Value} {base : Heap} {k : Nat}
theorem fn_con (D : Dfn K mg "constant_of" (topS 27)) : Fn P w K mg base "constant_of" 1 ["width", "number"] (spP RCon) :=
  fn_pure (k := 0) D scCon (fun ds d h => by obtain ⟨p, q, rfl, _⟩ := h; rfl) (fun kV doc pm an cdv ct us hl => by
    match us, hl with
    | [a, b], _ => rfl) fun f cdv A outer s H G hr ds d h => by
    obtain ⟨wd, c, rfl, hw, rfl⟩ := h
    refine bd_ret (e_ifExp (k := decide (c = 0)) (t_eqI (e_name 1 rfl (.inl rfl) rfl) e_int) (fun h => ?_) fun h => ?_)
    · have e : numP wd c = [] := if_pos (of_decide_eq_true h)
      rw [e]
      exact e_tup as_nil (by show 0 ≤ 100000; decide)
    · have e : numP wd c = conP wd c := if_neg (of_decide_eq_false h)
      rw [e]
      refine (e_tup (as_cons (e_tup (as_cons (e_name 1 rfl (.inl rfl) rfl) (as_cons (e_repT (n := wd) (d := .int 0) (e_tup (as_cons e_int as_nil) (by show 1 ≤ 100000; decide)) (e_name 0 rfl (.inl rfl) rfl) (by omega)) as_nil)) (by show 2 ≤ 100000; decide)) as_nil) (by show 1 ≤ 100000; decide)).eq ?_
      show PyData.tuple [.tuple [.int c, .tuple (List.replicate wd (PyData.int 0))]] = PyData.tuple [.tuple [.int c, .tuple ((List.replicate wd 0).map .int)]]
      rw [List.map_replicate]
theorem fn_lcon (D : Dfn K mg "_law_constant" (topS 48)) : Fn P w K mg base "_law_constant" 1 ["width", "number"] (spP RCon) :=
  fn_pure (k := 0) D scLCon (fun ds d h => by obtain ⟨p, q, rfl, _⟩ := h; rfl) (fun kV doc pm an cdv ct us hl => by
    match us, hl with
    | [a, b], _ => rfl) fun f cdv A outer s H G hr ds d h => by
    obtain ⟨wd, c, rfl, hw, rfl⟩ := h
    refine bd_ret (e_ifExp (k := decide (c = 0)) (t_eqI (e_name 1 rfl (.inl rfl) rfl) e_int) (fun h => ?_) fun h => ?_)
    · have e : numP wd c = [] := if_pos (of_decide_eq_true h)
      rw [e]
      exact e_tup as_nil (by show 0 ≤ 100000; decide)
    · have e : numP wd c = conP wd c := if_neg (of_decide_eq_false h)
      rw [e]
      refine (e_tup (as_cons (e_tup (as_cons (e_name 1 rfl (.inl rfl) rfl) (as_cons (e_repT (n := wd) (d := .int 0) (e_tup (as_cons e_int as_nil) (by show 1 ≤ 100000; decide)) (e_name 0 rfl (.inl rfl) rfl) (by omega)) as_nil)) (by show 2 ≤ 100000; decide)) as_nil) (by show 1 ≤ 100000; decide)).eq ?_
      show PyData.tuple [.tuple [.int c, .tuple (List.replicate wd (PyData.int 0))]] = PyData.tuple [.tuple [.int c, .tuple ((List.replicate wd 0).map .int)]]
      rw [List.map_replicate]
end
end R1

set_option Elab.async false
set_option linter.all false
set_option maxRecDepth 100000
set_option maxHeartbeats 4000000
/-! K00W17: is_poly of terms in any order. -/
namespace R1
open PySem PySem.Spec PyProof.Rows L2 Evl
def gtD (d : PyData) : Bool := match d with
  | .tuple [a, b] => rkLt (rkP (keyD (sndD b))) (rkP (keyD (sndD a)))
  | _ => false
def ordB (p : List Tm) : Bool := (p.zip (p.drop 1)).all fun y => rkLt (rkP y.2.2) (rkP y.1.2)
def RPolyB (ds : List PyData) (d : PyData) : Prop := ∃ (wd : Int) (p : List Tm) (k : Bool) (es : List PyData), ds = [.int wd, seqD k es] ∧ Tms p es ∧ (∀ t ∈ p, TmOk wd t) ∧ p.length < 1000 ∧ wd ≤ 16 ∧ d = .bool (ordB p)
section
variable {P : Program} {w : World} {K : PySem.W.Frag} {mg : Str → Option Value} {base : Heap} {k : Nat}
theorem fn_polyB (D : Dfn K mg "is_poly" (topS 17)) (ma : mg "all" = none) (mz : mg "zip" = none) (mt : mg "tuple" = none) (F : Fn P w K mg base "is_listed" 1 ["value"] (spP RListed)) (F1 : Fn P w K mg base "rank_of" 1 ["powers"] (spP RkR)) (F2 : Fn P w K mg base "is_term" 4 ["width", "value"] (spP RTerm)) :
    Fn P w K mg base "is_poly" 5 ["width", "value"] (spP RPolyB) :=
  fn_pure (k := 4) D sc17 (fun ds d h => by obtain ⟨p, q, r, t, rfl, _⟩ := h; rfl) (fun kV doc pm an cdv ct us hl => by
    match us, hl with
    | [a, b], _ => rfl) fun f cdv A outer s H G hr ds d h => by
    obtain ⟨wd, p, l, es, rfl, ht, hgt, hgl, hgw, rfl⟩ := h
    have hl : es.length < 100000 := by
      have := hgl
      rw [ht.length]
      omega
    have n1 : ∀ q, E (cxB P w K mg base ["width", "value", "ranks", "term", "one", "other"] "is_poly" (topS 17) f cdv A outer s H G) [some (.int wd), some (seqD l es), none, none, none, none] (.Name "value" q) (seqD l es) := fun q => e_name 1 rfl (.inl rfl) rfl
    refine bd_ifF ((tw_or (k := false) (l := false) ((t_not (t_val (e_call F (hr.mono (by decide)) (by rfl) (as_cons (n1 _) as_nil) ⟨l, _, rfl, rfl⟩))).eq rfl) fun _ => tw_or1 ((t_not (t_val ((e_all rfl (by rfl) ma ((e_lc (own := [("term", 3)]) (g := gName 3) (F := fun _ => .bool true) (ρ' := fun d => (wipeR _ [3]).set 3 (some d)) rfl sc17.nd (blkOk_by (own := [("term", 3)]) (N := ["width", "value", "ranks", "term", "one", "other"]) (sc := defScope (topS 17)) (by decide +kernel)) (fun _ _ _ _ _ => pg_name (i := 3) sc17.nd rfl (Or.inl rfl)) (it_seq (n1 _)) (fun d _ => gt_name (by simp)) (fun d hd => ?_) hl).eq (by rw [all_reps]))).eq (by rw [reps_all])))).eq rfl)).t.eq rfl) ?_
    · obtain ⟨t, htm, hti⟩ := ht.mem d hd
      intro s0 H0 C cl fp
      exact e_call F2 hr (by rfl) (as_cons (e_name 0 rfl (.inr (.inl rfl)) rfl) (as_cons (e_name 3 rfl (.inl rfl) rfl) as_nil)) ⟨wd, t, d, rfl, hti, hgt t htm, hgw, rfl⟩
    · refine bd_setLc (i := 2) (own := [("term", 3)]) (g := gName 3) (F := fun d => rkD (rkP (rowOf d))) (ρ' := fun d => (wipeR _ [3]).set 3 (some d)) rfl sc17.nd rfl rfl (sw_true rfl rfl rfl (by decide +kernel)) (blkOk_by (own := [("term", 3)]) (N := ["width", "value", "ranks", "term", "one", "other"]) (sc := defScope (topS 17)) (by decide +kernel)) (fun _ _ _ _ _ => pg_name (i := 3) sc17.nd rfl (Or.inl rfl)) (it_seq (n1 _)) (fun d _ => gt_name (by simp)) (fun d hd => ?_) hl ?_
      · obtain ⟨t, htm, hti⟩ := ht.mem d hd
        intro s0 H0 C cl fp
        rw [rowOf_is hti]
        obtain ⟨k1, k2, rfl⟩ := hti
        exact e_call F1 (hr.mono (by decide)) (by rfl) (as_cons ((e_tupOf (k := k2) (by rfl) mt (e_ix (k := k1) (e_name 3 rfl (.inl rfl) rfl) e_int rfl)).eq rfl) as_nil) ⟨t.2, rfl, rfl⟩
      · have n2 : ∀ q, E (cxB P w K mg base ["width", "value", "ranks", "term", "one", "other"] "is_poly" (topS 17) f cdv A outer s H G) [some (.int wd), some (seqD l es), some (.list (es.map fun d => rkD (rkP (rowOf d)))), none, none, none] (.Name "ranks" q) (.list (es.map fun d => rkD (rkP (rowOf d)))) := fun q => e_name 2 rfl (.inl rfl) rfl
        have hrk : (es.map fun d => rkD (rkP (rowOf d))) = p.map fun t => rkD (rkP t.2) := by
          have : (es.map fun d => rkD (rkP (rowOf d))) = (es.map rowOf).map fun q => rkD (rkP q) := by rw [List.map_map]; rfl
          rw [this, ht.rows, List.map_map]
          rfl
        refine bd_ret ((e_all (bs := (pairs (es.map fun d => rkD (rkP (rowOf d))) ((es.map fun d => rkD (rkP (rowOf d))).drop 1)).map gtD) rfl (by rfl) ma ((e_lc (own := [("one", 4), ("other", 5)]) (g := gTup K 2 (gCons (gName 4) (gCons (gName 5) gNil))) (F := fun d => .bool (gtD d))
          (ρ' := fun d => match d with | .tuple [a, b] => ((wipeR [some (.int wd), some (seqD l es), some (.list (es.map fun d => rkD (rkP (rowOf d)))), none, none, none] [4, 5]).set 4 (some a)).set 5 (some b) | _ => []) rfl sc17.nd (blkOk_by (own := [("one", 4), ("other", 5)]) (N := ["width", "value", "ranks", "term", "one", "other"]) (sc := defScope (topS 17)) (by decide +kernel))
          (fun _ _ _ _ _ => pg_tup rfl (pgs_cons (pg_name (i := 4) sc17.nd rfl (Or.inl rfl)) (pgs_cons (pg_name (i := 5) sc17.nd rfl (Or.inl rfl)) pgs_nil))) (it_zip (k := false) (l := false) (by rfl) mz (n2 _) (e_from (n := 1) (n2 _))) (fun d hd => ?_) (fun d hd => ?_) ?_).eq (by rw [List.map_map]; rfl))).eq ?_)
        · obtain ⟨x, hx, rfl⟩ := List.mem_map.mp hd
          exact gt_tup2 (by simp) (by simp)
        · obtain ⟨x, hx, rfl⟩ := List.mem_map.mp hd
          rw [hrk, ← List.map_drop, List.zip_map] at hx
          obtain ⟨y, hy, rfl⟩ := List.mem_map.mp hx
          intro s0 H0 C cl fp
          have eg : gtD (.tuple [rkD (rkP y.1.2), rkD (rkP y.2.2)]) = rkLt (rkP y.2.2) (rkP y.1.2) := by
            show rkLt (rkP (keyD (pwD y.2.2))) (rkP (keyD (pwD y.1.2))) = _
            rw [keyD_pw, keyD_pw]
          refine (e_rkGt (m := y.1.2.sum) (n := y.2.2.sum) (p := y.1.2) (q := y.2.2) (hr.units) (e_name 4 rfl (.inl rfl) rfl) (e_name 5 rfl (.inl rfl) rfl)).eq ?_
          exact congrArg PyData.bool eg.symm
        · rw [pairs_len, List.length_map]
          omega
        · rw [hrk]
          congr 1
          unfold ordB pairs
          rw [← List.map_drop, List.zip_map, List.map_map, List.map_map, List.all_map]
          congr 1
          funext y
          show rkLt (rkP (keyD (pwD y.2.2))) (rkP (keyD (pwD y.1.2))) = _
          rw [keyD_pw, keyD_pw]
end
end R1

set_option Elab.async false
set_option linter.all false
set_option maxRecDepth 100000
set_option maxHeartbeats 4000000
/-! K00N: how great coefficients get: sums of absolute values. -/
namespace R1
open PySem PySem.Spec PyProof.Rows L2 Evl
def nrm (p : List Tm) : Nat := (p.map fun t => t.1.natAbs).sum
def nrmK (m : KI) : Nat := (m.map fun q => q.2.natAbs).sum
theorem nrm_cons (t : Tm) (p : List Tm) : nrm (t :: p) = t.1.natAbs + nrm p := rfl
theorem nrm_append (p q : List Tm) : nrm (p ++ q) = nrm p + nrm q := by
  unfold nrm
  rw [List.map_append, List.sum_append]
theorem nrm_mem {p : List Tm} {t : Tm} (h : t ∈ p) : t.1.natAbs ≤ nrm p := by
  induction p with
  | nil => exact nomatch h
  | cons u p ih =>
    rw [nrm_cons]
    rcases List.mem_cons.mp h with rfl | h
    · exact Nat.le_add_right _ _
    · exact Nat.le_trans (ih h) (Nat.le_add_left _ _)
theorem nrm_scale (c : Int) (s : List Int) (q : List Tm) : nrm (q.map fun u => ((c * u.1, zadd u.2 s) : Tm)) = c.natAbs * nrm q := by
  induction q with
  | nil => rfl
  | cons u q ih =>
    rw [List.map_cons, nrm_cons, nrm_cons, ih, Nat.mul_add, Int.natAbs_mul]
theorem nrm_mul (p q : List Tm) : nrm (mulP p q) = nrm p * nrm q := by
  induction p with
  | nil => exact (Nat.zero_mul _).symm
  | cons t p ih =>
    show nrm ((q.map fun u => ((t.1 * u.1, zadd u.2 t.2) : Tm)) ++ mulP p q) = _
    rw [nrm_append, nrm_scale, ih, nrm_cons, Nat.add_mul]
theorem mulP_len (p q : List Tm) : (mulP p q).length = p.length * q.length := by
  induction p with
  | nil => exact (Nat.zero_mul _).symm
  | cons t p ih =>
    show ((q.map fun u => ((t.1 * u.1, zadd u.2 t.2) : Tm)) ++ mulP p q).length = _
    rw [List.length_append, List.length_map, ih, List.length_cons, Nat.add_mul, Nat.one_mul, Nat.add_comm]
theorem ev_le (m : KI) (s : List Int → Int) (hs : ∀ q, -1 ≤ s q ∧ s q ≤ 1) : ev m s ≤ (nrmK m : Int) := by
  induction m with
  | nil => exact Int.le_refl _
  | cons z m ih =>
    rw [ev_cons]
    have e : (nrmK (z :: m) : Int) = (z.2.natAbs : Int) + (nrmK m : Int) := by
      show ((z.2.natAbs + nrmK m : Nat) : Int) = _
      rw [Int.natCast_add]
    rw [e]
    have h1 : z.2 * s z.1 ≤ (z.2.natAbs : Int) := by
      have hb := hs z.1
      have h3 : s z.1 = -1 ∨ s z.1 = 0 ∨ s z.1 = 1 := by omega
      rcases h3 with h | h | h <;> rw [h] <;> omega
    omega
theorem sign_in (x : Int) : -1 ≤ x.sign ∧ x.sign ≤ 1 := by
  rcases Int.lt_trichotomy x 0 with h | h | h
  · rw [Int.sign_eq_neg_one_of_neg h]; decide
  · rw [h]; decide
  · rw [Int.sign_eq_one_of_pos h]; decide
theorem mul_sign' (x : Int) : x * x.sign = (x.natAbs : Int) := by
  rcases Int.lt_trichotomy x 0 with h | h | h
  · rw [Int.sign_eq_neg_one_of_neg h]; omega
  · rw [h]; rfl
  · rw [Int.sign_eq_one_of_pos h]; omega
theorem nrmK_ev {m : KI} (h : Nd m) : (nrmK m : Int) = ev m fun q => (kiGet m q).sign := by
  have key : ∀ l : KI, (∀ q ∈ l, kiGet m q.1 = q.2) → (nrmK l : Int) = ev l fun q => (kiGet m q).sign := by
    intro l
    induction l with
    | nil => intro _; rfl
    | cons z l ih =>
      intro hl
      rw [ev_cons, hl z (.head _), mul_sign', ← ih fun q hq => hl q (.tail _ hq)]
      show ((z.2.natAbs + nrmK l : Nat) : Int) = _
      rw [Int.natCast_add]
  exact key m fun q hq => kiGet_mem h hq
theorem nrmK_add {m : KI} (h : Nd m) (p : List Int) (c : Int) : nrmK (kiAdd m p c) ≤ nrmK m + c.natAbs := by
  have e := nrmK_ev (nd_add h p c)
  rw [ev_add h] at e
  have h1 := ev_le m (fun q => (kiGet (kiAdd m p c) q).sign) fun q => sign_in _
  have h2 : c * (kiGet (kiAdd m p c) p).sign ≤ (c.natAbs : Int) := by
    have hb := sign_in (kiGet (kiAdd m p c) p)
    have h3 : (kiGet (kiAdd m p c) p).sign = -1 ∨ (kiGet (kiAdd m p c) p).sign = 0 ∨ (kiGet (kiAdd m p c) p).sign = 1 := by omega
    rcases h3 with h | h | h <;> rw [h] <;> omega
  have h3 : (nrmK (kiAdd m p c) : Int) ≤ ((nrmK m + c.natAbs : Nat) : Int) := by
    rw [e, Int.natCast_add]
    exact Int.add_le_add h1 h2
  exact Int.ofNat_le.mp h3
theorem nrmK_kiOf_go : ∀ (p : List Tm) (m : KI), Nd m → nrmK (p.foldl (fun m t => kiAdd m t.2 t.1) m) ≤ nrmK m + nrm p
  | [], m, _ => Nat.le_refl _
  | t :: p, m, h => by
    have h1 := nrmK_kiOf_go p (kiAdd m t.2 t.1) (nd_add h _ _)
    have h2 := nrmK_add h t.2 t.1
    rw [nrm_cons]
    show nrmK (p.foldl _ (kiAdd m t.2 t.1)) ≤ _
    omega
theorem nrmK_kiOf (p : List Tm) : nrmK (kiOf p) ≤ nrm p := by
  have := nrmK_kiOf_go p [] List.Pairwise.nil
  have e : nrmK [] = 0 := rfl
  rw [e, Nat.zero_add] at this
  exact this
theorem pev_sign (l : List Tm) (f : List Int → Int) (h : ∀ t ∈ l, f t.2 = t.1) : (nrm l : Int) = pev l fun q => (f q).sign := by
  induction l with
  | nil => rfl
  | cons t l ih =>
    rw [pev_cons, h t (.head _), mul_sign', ← ih fun u hu => h u (.tail _ hu), nrm_cons, Int.natCast_add]
theorem nrm_polOf {m : KI} (h : Nd m) : nrm (polOf m) = nrmK m := by
  have h1 : (nrm (polOf m) : Int) = pev (polOf m) fun q => (kiGet m q).sign := pev_sign _ _ fun t ht => by
    obtain ⟨h1, h2⟩ := polOf_mem h ht
    exact kiGet_mem h h2
  rw [pev_polOf h, ← nrmK_ev h] at h1
  exact Int.ofNat.inj h1
theorem nrm_cano (p : List Tm) : nrm (cano p) ≤ nrm p := by
  unfold cano
  rw [nrm_polOf (kiOf_nd p)]
  exact nrmK_kiOf p
theorem kiOf_len_go : ∀ (p : List Tm) (m : KI), (p.foldl (fun m t => kiAdd m t.2 t.1) m).length ≤ m.length + p.length
  | [], m => Nat.le_refl _
  | t :: p, m => by
    have h1 := kiOf_len_go p (kiAdd m t.2 t.1)
    have h2 := kiAdd_len m t.2 t.1
    rw [List.length_cons]
    show (p.foldl _ (kiAdd m t.2 t.1)).length ≤ _
    omega
theorem kiOf_len (p : List Tm) : (kiOf p).length ≤ p.length := by
  have := kiOf_len_go p []
  rw [List.length_nil, Nat.zero_add] at this
  exact this
theorem cano_len (p : List Tm) : (cano p).length ≤ p.length := Nat.le_trans (polOf_len _) (kiOf_len p)
theorem kiOf_keys_go : ∀ (p : List Tm) (m : KI) (q : List Int), q ∈ (p.foldl (fun m t => kiAdd m t.2 t.1) m).map (·.1) → q ∈ m.map (·.1) ∨ ∃ t ∈ p, t.2 = q
  | [], m, q, h => .inl h
  | t :: p, m, q, h => by
    rcases kiOf_keys_go p (kiAdd m t.2 t.1) q h with h | ⟨u, hu, e⟩
    · rcases kiPut_mem h with h | h
      · exact .inl h
      · exact .inr ⟨t, .head _, h.symm⟩
    · exact .inr ⟨u, .tail _ hu, e⟩
theorem cano_mem {p : List Tm} {t : Tm} (h : t ∈ cano p) : t.1 ≠ 0 ∧ ∃ u ∈ p, u.2 = t.2 := by
  obtain ⟨h1, h2⟩ := polOf_mem (kiOf_nd p) h
  refine ⟨h1, ?_⟩
  rcases kiOf_keys_go p [] t.2 (List.mem_map.mpr ⟨_, h2, rfl⟩) with h | h
  · exact nomatch h
  · exact h
theorem Len.cano {w : Nat} {p : List Tm} (h : Len w p) : Len w (cano p) := fun t ht => by
  obtain ⟨_, u, hu, e⟩ := cano_mem ht
  rw [← e]
  exact h u hu
theorem Pos0.cano {p : List Tm} (h : Pos0 p) : Pos0 (cano p) := fun t ht => by
  obtain ⟨_, u, hu, e⟩ := cano_mem ht
  rw [← e]
  exact h u hu
theorem cano_nd (p : List Tm) : ((cano p).map (·.2)).Nodup := polOf_nd (kiOf_nd p)
theorem cano_cano (p : List Tm) : cano (cano p) = cano p := (Eqv.cano p).eq
theorem polOf_self {m : KI} (h : Nd m) : cano (polOf m) = polOf m := (polOf_cano h fun φ => (pev_polOf h φ).symm).symm
/-- products of numbers of at most so many bits -/
def Fit (x : Int) : Prop := x.natAbs < 2 ^ 20000
theorem fit_mul {i j : Int} (hi : Fit i) (hj : Fit j) : CMulX i j := mulx_ok hi hj (by decide)
theorem fit_nrm {p : List Tm} (h : nrm p < 2 ^ 20000) : ∀ t ∈ p, Fit t.1 := fun t ht => Nat.lt_of_le_of_lt (nrm_mem ht) h
end R1

set_option Elab.async false
set_option linter.all false
set_option maxRecDepth 100000
set_option maxHeartbeats 4000000
/-! K00W18: as_dict, of_dict, put_to. -/
namespace R1
open PySem PySem.Spec PyProof.Rows L2 Evl
theorem scAD : FnScope ["poly", "coefficient", "powers"] ["poly"] (defScope (topS 21)) := ⟨rfl, rfl, rfl, by decide +kernel, rfl, by decide +kernel, by decide +kernel⟩
abbrev ofdN : List Str := ["found", "some", "powers", "coefficient"]
theorem scOD : FnScope ofdN ["found"] (defScope (topS 22)) := ⟨rfl, rfl, rfl, by decide +kernel, rfl, by decide +kernel, by decide +kernel⟩
abbrev putN : List Str := ["found", "poly", "factor", "shift", "coefficient", "powers", "moved", "one", "other"]
theorem scPT : FnScope putN ["found", "poly", "factor", "shift"] (defScope (topS 23)) := ⟨rfl, rfl, rfl, by decide +kernel, rfl, by decide +kernel, by decide +kernel⟩
theorem room_u1 {k : Nat} {A : Around} (hr : Room k A) : A.units + 1 < cLine := by
  have := hr.units
  omega
/-! ### as_dict -/
def rowK (d : PyData) : List Int := keyD (sndD d)
theorem rowK_tm (t : Tm) : rowK (tmD t) = t.2 := keyD_pw t.2
theorem asD_go : ∀ (p : List Tm) (m : KI), (p.map tmD).foldl (kvF rowK fstD) (kiD m) = kiD (p.foldl (fun m t => kiPut m t.2 t.1) m)
  | [], m => rfl
  | t :: p, m => by
    show (p.map tmD).foldl (kvF rowK fstD) (kvPut (kiD m) (rowK (tmD t)) (.int t.1)) = _
    rw [rowK_tm, kvPut_kiD]
    exact asD_go p (kiPut m t.2 t.1)
theorem put_add : ∀ (p : List Tm) (m : KI), (m.map (·.1) ++ p.map (·.2)).Nodup → p.foldl (fun m t => kiPut m t.2 t.1) m = p.foldl (fun m t => kiAdd m t.2 t.1) m
  | [], m, _ => rfl
  | t :: p, m, h => by
    have hn : t.2 ∉ m.map (·.1) := fun z => by
      rw [List.map_cons, List.nodup_append] at h
      exact h.2.2 t.2 z t.2 (.head _) rfl
    have e : kiAdd m t.2 t.1 = kiPut m t.2 t.1 := by
      unfold kiAdd
      rw [kiGet_none hn, Int.zero_add]
    have e2 : (kiPut m t.2 t.1).map (·.1) = m.map (·.1) ++ [t.2] := by
      unfold kiPut
      rw [if_neg fun z => hn (any_iff.mp z), List.map_append]
      rfl
    show p.foldl _ (kiPut m t.2 t.1) = p.foldl _ (kiAdd m t.2 t.1)
    rw [e]
    refine put_add p _ ?_
    rw [e2, List.append_assoc]
    exact h
theorem asD_fold {p : List Tm} (h : (p.map (·.2)).Nodup) : (p.map tmD).foldl (kvF rowK fstD) [] = kiD (kiOf p) := by
  have e := asD_go p []
  rw [put_add p [] (by rw [List.map_nil, List.nil_append]; exact h)] at e
  exact e
def RAsD (ds : List PyData) (md : MD) : Prop := ∃ p : List Tm, ds = [polD p] ∧ (p.map (·.2)).Nodup ∧ p.length ≤ 1000 ∧ md = .dct (kiD (kiOf p))
/-! ### put_to -/
def zD : PyData → Int
  | .int i => i
  | _ => 0
def addD (d : PyData) : PyData := .int (zD (fstD d) + zD (sndD d))
theorem addD_pairs : ∀ (a b : List Int), (pairs (a.map .int) (b.map .int)).map addD = (zadd a b).map .int
  | [], _ => rfl
  | _ :: _, [] => rfl
  | x :: a, y :: b => by
    show PyData.int (x + y) :: (pairs (a.map .int) (b.map .int)).map addD = PyData.int (x + y) :: (zadd a b).map .int
    rw [addD_pairs a b]
def putTo (m : KI) (p : List Tm) (f : Int) (s : List Int) : KI := p.foldl (fun m t => kiAdd m (zadd t.2 s) (f * t.1)) m
theorem putTo_len (p : List Tm) (f : Int) (s : List Int) (m : KI) : (putTo m p f s).length ≤ m.length + p.length := by
  have := fold_len (c := 1) (f := fun (m : KI) (t : Tm) => kiAdd m (zadd t.2 s) (f * t.1)) (fun b a => kiAdd_len _ _ _) p m
  rw [Nat.one_mul] at this
  exact this
theorem tmD_inj {t u : Tm} (e : tmD t = tmD u) : t = u := by
  injection e with e
  injection e with e4 e5
  injection e4 with e6
  injection e5 with e7 _
  injection e7 with e8
  exact Prod.ext e6 (ints_inj e8)
theorem tms_inj : ∀ {p q : List Tm}, p.map tmD = q.map tmD → p = q
  | [], [], _ => rfl
  | [], _ :: _, h => nomatch h
  | _ :: _, [], h => nomatch h
  | t :: p, u :: q, h => by
    rw [List.map_cons, List.map_cons] at h
    injection h with h1 h2
    rw [tmD_inj h1, tms_inj h2]
theorem polD_inj {p q : List Tm} (e : polD p = polD q) : p = q := by
  injection e with e
  exact tms_inj e
theorem kiD_inj : ∀ {m n : KI}, kiD m = kiD n → m = n
  | [], [], _ => rfl
  | [], _ :: _, h => nomatch h
  | _ :: _, [], h => nomatch h
  | (a, x) :: m, (b, y) :: n, h => by
    have h : (a, PyData.int x) :: kiD m = (b, PyData.int y) :: kiD n := h
    injection h with h1 h2
    injection h1 with h3 h4
    injection h4 with h5
    rw [h3, h5, kiD_inj h2]
theorem pwD_inj {a b : List Int} (e : pwD a = pwD b) : a = b := by
  injection e with e
  exact ints_inj e
def PrePut (ds : List PyData) (kvs : Kvs) : Prop := ∃ (m : KI) (p : List Tm) (f : Int) (s : List Int), ds = [polD p, .int f, pwD s] ∧ kvs = kiD m ∧ m.length + p.length ≤ 50000 ∧ Fit f ∧ (∀ t ∈ p, Fit t.1) ∧ s.length ≤ 1000
def RPut (ds : List PyData) (kvs kvs' : Kvs) : Prop := ∀ (m : KI) (p : List Tm) (f : Int) (s : List Int), ds = [polD p, .int f, pwD s] → kvs = kiD m → kvs' = kiD (putTo m p f s)
theorem zadd_le (a s : List Int) : (zadd a s).length ≤ s.length := by
  unfold zadd
  rw [List.length_zipWith]
  exact Nat.min_le_right _ _
section
variable {P : Program} {w : World} {K : PySem.W.Frag} {mg : Str → Option Value} {base : Heap} {k : Nat}
theorem fn_asD (D : Dfn K mg "as_dict" (topS 21)) : Fn P w K mg base "as_dict" 1 ["poly"] (spN RAsD) :=
  fn_new (k := 0) D scAD (fun ds d h => by obtain ⟨p, rfl, _⟩ := h; rfl) (fun kV doc pm an cdv ct us hl => by
    match us, hl with
    | [a], _ => rfl) fun f cdv A outer s H G hr ds md h => by
    obtain ⟨p, rfl, hnd, hl, rfl⟩ := h
    refine bn_ret ?_
    rw [← asD_fold hnd]
    refine en_dcRows (own := [("coefficient", 1), ("powers", 2)]) (g := gTup K 2 (gCons (gName 1) (gCons (gName 2) gNil))) (Kf := rowK) (Vf := fstD) (ρ' := fun d => ((wipeR [some (polD p), none, none] [1, 2]).set 1 (some (fstD d))).set 2 (some (sndD d))) hr.units rfl scAD.nd
      (blkOk_by (own := [("coefficient", 1), ("powers", 2)]) (N := ["poly", "coefficient", "powers"]) (sc := defScope (topS 21)) (by decide +kernel)) (fun _ _ _ _ _ => pg_tup rfl (pgs_cons (pg_name (i := 1) scAD.nd rfl (Or.inl rfl)) (pgs_cons (pg_name (i := 2) scAD.nd rfl (Or.inl rfl)) pgs_nil))) (it_tup (e_name 0 rfl (.inl rfl) rfl)) (fun d hd => ?_) (fun d hd => ?_) (fun d hd => ?_) (by rw [List.length_map]; omega)
    · obtain ⟨t, ht, rfl⟩ := List.mem_map.mp hd
      exact gt_tup2 (by simp) (by simp)
    · obtain ⟨t, ht, rfl⟩ := List.mem_map.mp hd
      intro s0 H0 C cl fp
      rw [rowK_tm]
      exact e_name 2 rfl (.inl rfl) rfl
    · obtain ⟨t, ht, rfl⟩ := List.mem_map.mp hd
      intro s0 H0 C cl fp
      exact e_name 1 rfl (.inl rfl) rfl
theorem fn_ofD (D : Dfn K mg "of_dict" (topS 22)) (ms : mg "sorted" = none) (mt : mg "tuple" = none) (FR : Fn P w K mg base "rank_of" 1 ["powers"] (spP RkR)) : Fn P w K mg base "of_dict" 4 ["found"] (spP RPolOf) :=
  fn_blk (k := 3) D scOD (fun ds d h => by obtain ⟨p, rfl, _⟩ := h; rfl) (fun kV doc pm an cdv ct us hl => by
    match us, hl with
    | [a], _ => rfl) fun f cdv A outer s H G hr ds d h => by
    obtain ⟨m, rfl, hl, hnd, rfl⟩ := h
    have hu1 : (cxB P w K mg base ofdN "of_dict" (topS 22) f cdv A outer s H G).A.units + 1 < cLine := room_u1 hr
    refine bk_setLcIf (i := 1) (own := [("powers", 2), ("coefficient", 3)]) (g := gTup K 2 (gCons (gName 2) (gCons (gName 3) gNil))) (f := nzD) (F := fstD)
      (ρ' := fun d => ((wipeR [some (kvD (kiD m)), none, none, none] [2, 3]).set 2 (some (fstD d))).set 3 (some (sndD d))) rfl scOD.nd rfl rfl (sw_true rfl rfl rfl (by decide +kernel)) (blkOk_by (own := [("powers", 2), ("coefficient", 3)]) (N := ofdN) (sc := defScope (topS 22)) (by decide +kernel))
      (fun _ _ _ _ _ => pg_tup rfl (pgs_cons (pg_name (i := 2) scOD.nd rfl (Or.inl rfl)) (pgs_cons (pg_name (i := 3) scOD.nd rfl (Or.inl rfl)) pgs_nil))) (it_items (kvs := kiD m) (e_name 0 rfl (.inr (.inl rfl)) rfl)) (fun d hd => ?_) (fun d hd => ?_) (fun d hd _ => ?_) (by rw [List.length_map, kiD_len]; omega) ?_
    · obtain ⟨q', hq', rfl⟩ := List.mem_map.mp hd
      exact gt_tup2 (by simp) (by simp)
    · obtain ⟨q', hq', rfl⟩ := List.mem_map.mp hd
      obtain ⟨q, hq, rfl⟩ := List.mem_map.mp hq'
      intro s0 H0 C cl fp
      exact (t_neI (i := q.2) (e_name 3 rfl (.inl rfl) rfl) e_int).eq rfl
    · obtain ⟨q', hq', rfl⟩ := List.mem_map.mp hd
      intro s0 H0 C cl fp
      exact e_name 2 rfl (.inl rfl) rfl
    · have hks : ((((kiD m).map fun q => PyData.tuple [pwD q.1, q.2]).filter nzD).map fstD) = ((m.filter fun q => decide (q.2 ≠ 0)).map (·.1)).map pwD := by
        unfold kiD
        rw [List.map_map, List.filter_map, List.map_map, List.map_map]
        congr 1
        exact List.filter_congr fun q _ => by show (!decide (q.2 = 0)) = _; by_cases h : q.2 = 0 <;> simp [h]
      rw [hks]
      generalize hkk : (m.filter fun q => decide (q.2 ≠ 0)).map (·.1) = ks
      have hkl : ks.length ≤ m.length := by
        rw [← hkk, List.length_map]
        exact List.length_filter_le _ _
      refine bk_ret (ef_e ((e_tupOf (k := false) (by rfl) mt (e_lc (own := [("powers", 2)]) (g := gName 2) (F := fun d => tmD (kiGet m (keyD d), keyD d)) (ρ' := fun d => (wipeR _ [2]).set 2 (some d)) rfl scOD.nd (blkOk_by (own := [("powers", 2)]) (N := ofdN) (sc := defScope (topS 22)) (by decide +kernel))
        (fun _ _ _ _ _ => pg_name (i := 2) scOD.nd rfl (Or.inl rfl)) (it_list (e_sortKey (rs := ks) FR hr (by rfl) (by rfl) ms (e_name 1 rfl (.inl rfl) rfl))) (fun d _ => gt_name (by simp)) (fun d hd => ?_) (by rw [List.length_map, (srtP_perm ks).length_eq]; omega))))) fun d hd => ?_
      · obtain ⟨q, hq, rfl⟩ := List.mem_map.mp hd
        have hqk : q ∈ ks := (srtP_perm ks).mem_iff.mp hq
        have hqm : q ∈ m.map (·.1) := by
          rw [← hkk] at hqk
          obtain ⟨z, hz, rfl⟩ := List.mem_map.mp hqk
          exact List.mem_map.mpr ⟨z, (List.mem_filter.mp hz).1, rfl⟩
        rw [keyD_pw]
        intro s0 H0 C cl fp
        exact e_tup (as_cons (e_dget (kvs := kiD m) (p := q) hu1 (e_name 0 rfl (.inr (.inl rfl)) rfl) (e_name 2 rfl (.inl rfl) rfl) (kvGet_kiD' hqm)) (as_cons (e_name 2 rfl (.inl rfl) rfl) as_nil)) (Nat.le_of_ble_eq_true rfl)
      · subst hd
        show PyData.tuple _ = polD (polOf m)
        unfold polOf polD
        rw [hkk, List.map_map, List.map_map]
        congr 1
        refine List.map_congr_left fun q _ => ?_
        show tmD (kiGet m (keyD (pwD q)), keyD (pwD q)) = tmD (kiGet m q, q)
        rw [keyD_pw]
theorem fn_putTo (D : Dfn K mg "put_to" (topS 23)) (mt : mg "tuple" = none) (mz : mg "zip" = none) : Fn P w K mg base "put_to" 1 ["found", "poly", "factor", "shift"] (spM PrePut RPut) :=
  fn_put (k := 0) D scPT (fun ds kvs h => by obtain ⟨m, p, f, s, rfl, _⟩ := h; rfl) (fun kV doc pm an cdv ct us hl => by
    match us, hl with
    | [a, b, c, d], _ => rfl) fun f cdv A outer s H G hr ds kvs h => by
    obtain ⟨m, p, fc, sh, rfl, rfl, hl, hf, hp, hs⟩ := h
    have hu1 : (cxB P w K mg base putN "put_to" (topS 23) f cdv A outer s H G).A.units + 1 < cLine := room_u1 hr
    refine bk_for (ts := [4, 5]) (fun i ρ μ => ρ = [none, some (polD p), some (.int fc), some (pwD sh), none, none, none, none, none] ∧ μ 0 = some (.dcs (kiD (putTo m (p.take i) fc sh))) ∧ ∀ j, j ≠ 0 → μ j = none) PassesOwn.never rfl
      (pg_tup rfl (pgs_cons (pg_name (i := 4) scPT.nd rfl (Or.inl rfl)) (pgs_cons (pg_name (i := 5) scPT.nd rfl (Or.inl rfl)) pgs_nil))) (it_tup (e_name 1 rfl (.inl rfl) rfl)) ⟨rfl, rfl, fun j h => if_neg h⟩ (fun i d ρi μi hd hI => ?_) fun ρ' μ' hI => ?_
    · obtain ⟨rfl, h0, hμ⟩ := hI
      obtain ⟨t, ht, rfl⟩ := get_map hd
      refine ⟨_, gt_tup2 (by simp) (by simp), fun t ht => hμ t (by simp at ht; omega), ?_⟩
      refine bk_set (i := 6) scPT.nd rfl (.inl rfl) (ef_e ((e_tupOf (k := false) (by rfl) mt (e_lc (own := [("one", 7), ("other", 8)]) (g := gTup K 2 (gCons (gName 7) (gCons (gName 8) gNil))) (F := addD)
        (ρ' := fun d => ((wipeR [none, some (polD p), some (.int fc), some (pwD sh), some (.int t.1), some (pwD t.2), none, none, none] [7, 8]).set 7 (some (fstD d))).set 8 (some (sndD d))) rfl scPT.nd (blkOk_by (own := [("one", 7), ("other", 8)]) (N := putN) (sc := defScope (topS 23)) (by decide +kernel))
        (fun _ _ _ _ _ => pg_tup rfl (pgs_cons (pg_name (i := 7) scPT.nd rfl (Or.inl rfl)) (pgs_cons (pg_name (i := 8) scPT.nd rfl (Or.inl rfl)) pgs_nil))) (it_zip (k := true) (l := true) (by rfl) mz (e_name 5 rfl (.inl rfl) rfl) (e_name 3 rfl (.inl rfl) rfl)) (fun d hd => ?_) (fun d hd => ?_) (by rw [pairs_len, List.length_map, List.length_map]; omega))).eq (by rw [addD_pairs]))) fun d hd => ?_
      · obtain ⟨q, hq, rfl⟩ := List.mem_map.mp hd
        exact gt_tup2 (by simp) (by simp)
      · rw [pairs_ints] at hd
        obtain ⟨q, hq, rfl⟩ := List.mem_map.mp hd
        intro s0 H0 C cl fp
        exact e_add (e_name 7 rfl (.inl rfl) rfl) (e_name 8 rfl (.inl rfl) rfl)
      · subst hd
        have hm0 : mu μi 6 none 0 = some (.dcs (kiD (putTo m (p.take i) fc sh))) := by rw [mu_ne (by decide)]; exact h0
        have hlen := putTo_len (p.take i) fc sh m
        rw [List.length_take] at hlen
        refine bk_dputS (i := 0) (kvs := kiD (putTo m (p.take i) fc sh)) (pw := zadd t.2 sh) (μ1 := mu μi 6 none) (A := fun d => d = .int (kiGet (putTo m (p.take i) fc sh) (zadd t.2 sh) + fc * t.1)) hu1 ?_ hm0 rfl (.inl rfl) (e_name 6 rfl (.inl rfl) rfl) (by rw [kiD_len]; omega) fun d hd => ?_
        · refine ef_mono (ef_add (P := fun k => k = kiGet (putTo m (p.take i) fc sh) (zadd t.2 sh)) (P' := fun k => k = fc * t.1) (ef_mono (ef_dgetS (i := 0) (kvs := kiD (putTo m (p.take i) fc sh)) (pw := zadd t.2 sh) hu1 hm0 rfl (.inl rfl) (e_name 6 rfl (.inl rfl) rfl) e_int) fun d h => ⟨_, h.trans (kvGet_kiD _ _), rfl⟩)
            (ef_int (e_mulX (e_name 2 rfl (.inl rfl) rfl) (e_name 4 rfl (.inl rfl) rfl) (fit_mul hf (hp t (List.mem_of_getElem? ht)))))) fun d h => ?_
          obtain ⟨k, rfl, x, y, rfl, rfl, rfl⟩ := h
          rfl
        · subst hd
          refine bk_forget (ρ' := [none, some (polD p), some (.int fc), some (pwD sh), none, none, none, none, none]) (by repeat (first | exact .nil | refine .keep ?_ | refine .drop ?_)) (bk_nil ⟨rfl, ?_, fun j h => ?_⟩)
          · rw [mu_same, kvPut_kiD]
            show some (MD.dcs (kiD (kiAdd (putTo m (p.take i) fc sh) (zadd t.2 sh) (fc * t.1)))) = _
            congr 3
            unfold putTo
            rw [List.take_add_one, ht, List.foldl_append]
            rfl
          · rw [mu_ne h]
            by_cases h6 : j = 6
            · rw [h6, mu_same]
            · rw [mu_ne h6]; exact hμ j h
    · obtain ⟨rfl, h0, hμ⟩ := hI
      refine bk_nil ⟨_, ?_, h0⟩
      rw [List.length_map, List.take_length]
      intro m' p' f' s' e1 e2
      injection e1 with e1 e3
      injection e3 with e3 e4
      injection e4 with e4 _
      injection e3 with e3
      rw [polD_inj e1, e3, pwD_inj e4, kiD_inj e2]
end
end R1

set_option Elab.async false
set_option linter.all false
set_option maxRecDepth 100000
set_option maxHeartbeats 4000000
/-! K00W19: sums, products, powers. -/
namespace R1
open PySem PySem.Spec PyProof.Rows L2 Evl
abbrev sumN : List Str := ["one", "other", "found", "coefficient", "powers"]
theorem scSU : FnScope sumN ["one", "other"] (defScope (topS 24)) := ⟨rfl, rfl, rfl, by decide +kernel, rfl, by decide +kernel, by decide +kernel⟩
theorem scLE : FnScope sumN ["one", "other"] (defScope (topS 25)) := ⟨rfl, rfl, rfl, by decide +kernel, rfl, by decide +kernel, by decide +kernel⟩
theorem scPR : FnScope sumN ["one", "other"] (defScope (topS 26)) := ⟨rfl, rfl, rfl, by decide +kernel, rfl, by decide +kernel, by decide +kernel⟩
abbrev powN : List Str := ["poly", "count", "width", "found", "square", "left"]
theorem scPO : FnScope powN ["poly", "count", "width"] (defScope (topS 28)) := ⟨rfl, rfl, rfl, by decide +kernel, rfl, by decide +kernel, by decide +kernel⟩
/-- terms, their coefficients times a number -/
def sclP (k : Int) (q : List Tm) : List Tm := q.map fun t => (k * t.1, t.2)
theorem kiOf_append (a b : List Tm) : kiOf (a ++ b) = b.foldl (fun m t => kiAdd m t.2 t.1) (kiOf a) := by
  unfold kiOf
  rw [List.foldl_append]
theorem putTo_kiOf (a q : List Tm) (c : Int) (s : List Int) : putTo (kiOf a) q c s = kiOf (a ++ q.map fun u => ((c * u.1, zadd u.2 s) : Tm)) := by
  rw [kiOf_append, List.foldl_map]
  rfl
theorem mulP_snoc (l q : List Tm) (t : Tm) : mulP (l ++ [t]) q = mulP l q ++ q.map fun u => ((t.1 * u.1, zadd u.2 t.2) : Tm) := by
  unfold mulP
  rw [List.map_append, List.flatten_append]
  congr 1
  exact List.append_nil _
theorem take_snoc {α : Type} {l : List α} {i : Nat} {x : α} (h : l[i]? = some x) : l.take (i + 1) = l.take i ++ [x] := by
  rw [List.take_add_one, h]
  rfl
theorem cano_con {w : Nat} {c : Int} (h : c ≠ 0) : cano (conP w c) = conP w c := by
  have e1 : kiOf (conP w c) = [(List.replicate w 0, c)] := by
    show kiAdd [] (List.replicate w 0) c = _
    show [(List.replicate w 0, (0 : Int) + c)] = _
    rw [Int.zero_add]
  unfold cano polOf
  rw [e1]
  have e2 : ([(List.replicate w 0, c)] : KI).filter (fun q => decide (q.2 ≠ 0)) = [(List.replicate w 0, c)] := by
    rw [List.filter_cons, if_pos (decide_eq_true h)]
    rfl
  rw [e2]
  have e3 : srtP [List.replicate w 0] = [List.replicate w (0 : Int)] := (srtP_eq (ps := [List.replicate w 0]) (ns := [List.replicate w 0]) (.refl _) (List.pairwise_singleton _ _)).symm
  show (srtP [List.replicate w 0]).map _ = _
  rw [e3]
  show [(kiGet [(List.replicate w 0, c)] (List.replicate w 0), List.replicate w (0 : Int))] = [(c, List.replicate w 0)]
  have e4 : kiGet [(List.replicate w 0, c)] (List.replicate w 0) = c := by simp [kiGet, List.find?_cons]
  rw [e4]
theorem cano_nil : cano [] = [] := by
  have e3 : srtP [] = [] := (srtP_eq (ps := []) (ns := []) (.refl _) List.Pairwise.nil).symm
  show (srtP []).map _ = _
  rw [e3]
  rfl
theorem mu_all {μ : Mo} {i : Nat} (h : ∀ j, μ j = none) : ∀ j, mu μ i none j = none := fun j => by
  unfold mu
  split
  · rfl
  · exact h j
theorem numP_cano (w : Nat) (c : Int) : cano (numP w c) = numP w c := by
  unfold numP
  by_cases h : c = 0
  · rw [if_pos h]
    exact cano_nil
  · rw [if_neg h]
    exact cano_con h
def RSum (k : Int) (ds : List PyData) (d : PyData) : Prop := ∃ p q : List Tm, ds = [polD p, polD q] ∧ (p.map (·.2)).Nodup ∧ p.length + q.length ≤ 1000 ∧ d = polD (cano (p ++ sclP k q))
def RProd (ds : List PyData) (d : PyData) : Prop := ∃ p q : List Tm, ds = [polD p, polD q] ∧ p.length * q.length ≤ 1000 ∧ p.length ≤ 1000 ∧ q.length ≤ 1000 ∧ nrm p < 2 ^ 20000 ∧ nrm q < 2 ^ 20000 ∧ (∀ t ∈ p, t.2.length ≤ 1000) ∧ d = polD (cano (mulP p q))
def RPowOf (ds : List PyData) (d : PyData) : Prop := ∃ (p : List Tm) (n w L M : Nat), ds = [polD p, .int n, .int w] ∧ w ≤ 100 ∧ Len w p ∧ n ≤ 1000 ∧ p.length ≤ L ∧ 1 ≤ L ∧ L ^ n ≤ 1000 ∧ nrm p ≤ M ∧ 1 ≤ M ∧ M ^ n < 2 ^ 20000 ∧ p.length ≤ 1000 ∧ nrm p < 2 ^ 20000 ∧ d = polD (cano (powP w p n))
theorem pow_le {L a n : Nat} (h : 1 ≤ L) (ha : a ≤ n) : L ^ a ≤ L ^ n := Nat.pow_le_pow_right h ha
section
variable {P : Program} {w : World} {K : PySem.W.Frag} {mg : Str → Option Value} {base : Heap} {k : Nat}
theorem fn_sum (D : Dfn K mg "sum_of" (topS 24)) (FA : Fn P w K mg base "as_dict" 1 ["poly"] (spN RAsD)) (FO : Fn P w K mg base "of_dict" 4 ["found"] (spP RPolOf)) : Fn P w K mg base "sum_of" 5 ["one", "other"] (spP (RSum 1)) :=
  fn_blk (k := 4) D scSU (fun ds d h => by obtain ⟨p, q, rfl, _⟩ := h; rfl) (fun kV doc pm an cdv ct us hl => by
    match us, hl with
    | [a, b], _ => rfl) fun f cdv A outer s H G hr ds d h => by
    obtain ⟨p, q, rfl, hnd, hl, rfl⟩ := h
    have hu1 : (cxB P w K mg base sumN "sum_of" (topS 24) f cdv A outer s H G).A.units + 1 < cLine := room_u1 hr
    refine bk_own (i := 2) scSU.nd rfl (.inl rfl) (en_call FA (hr.mono (by decide)) (by rfl) (as_cons (e_name 0 rfl (.inl rfl) rfl) as_nil) ⟨p, rfl, hnd, by omega, rfl⟩) rfl (by show 2 < 5; decide) ?_
    refine bk_for (ts := [3, 4]) (fun i ρ μ => ρ = [some (polD p), some (polD q), none, none, none] ∧ μ 2 = some (.dct (kiD (kiOf (p ++ sclP 1 (q.take i))))) ∧ ∀ j, j ≠ 2 → μ j = none) PassesOwn.never rfl
      (pg_tup rfl (pgs_cons (pg_name (i := 3) scSU.nd rfl (Or.inl rfl)) (pgs_cons (pg_name (i := 4) scSU.nd rfl (Or.inl rfl)) pgs_nil))) (it_tup (e_name 1 rfl (.inl rfl) rfl)) ⟨rfl, by rw [mu_same]; show _ = some (MD.dct (kiD (kiOf (p ++ [])))); rw [List.append_nil], fun j h => by rw [mu_ne h]⟩ (fun i d ρi μi hd hI => ?_) fun ρ' μ' hI => ?_
    · obtain ⟨rfl, h0, hμ⟩ := hI
      obtain ⟨t, ht, rfl⟩ := get_map hd
      refine ⟨_, gt_tup2 (by simp) (by simp), fun t ht => hμ t (by simp at ht; omega), ?_⟩
      have hlen := kiOf_len (p ++ sclP 1 (q.take i))
      rw [List.length_append] at hlen
      have hlen2 : (sclP 1 (q.take i)).length ≤ q.length := by unfold sclP; rw [List.length_map, List.length_take]; exact Nat.min_le_right _ _
      generalize hm : kiOf (p ++ sclP 1 (q.take i)) = m at h0 hlen
      refine bk_dput (i := 2) (kvs := kiD m) (pw := t.2) (μ1 := μi) (A1 := fun d => d = .int (kiGet m t.2 + t.1)) hu1 ?_ h0 rfl (.inl rfl) (e_name 4 rfl (.inl rfl) rfl) (by rw [kiD_len]; omega) fun d hd => ?_
      · refine ef_mono (ef_add (P := fun k => k = kiGet m t.2) (P' := fun k => k = t.1) (ef_mono (ef_dget (i := 2) (kvs := kiD m) (p := t.2) hu1 h0 rfl (.inl rfl) (e_name 4 rfl (.inl rfl) rfl) e_int) fun d h => ⟨_, h.trans (kvGet_kiD _ _), rfl⟩)
            (ef_int (e_name 3 rfl (.inl rfl) rfl))) fun d h => ?_
        obtain ⟨k, rfl, x, y, rfl, rfl, rfl⟩ := h
        rfl
      · subst hd
        refine bk_forget (ρ' := [some (polD p), some (polD q), none, none, none]) (by repeat (first | exact .nil | refine .keep ?_ | refine .drop ?_)) (bk_nil ⟨rfl, ?_, fun j h => ?_⟩)
        · rw [mu_same, kvPut_kiD, ← hm, take_snoc ht]
          unfold sclP
          rw [List.map_append, ← List.append_assoc, kiOf_append (p ++ _)]
          show _ = some (MD.dct (kiD (kiAdd _ t.2 (1 * t.1))))
          rw [Int.one_mul]
          rfl
        · rw [mu_ne h]; exact hμ j h
    · obtain ⟨rfl, h0, hμ⟩ := hI
      rw [List.length_map, List.take_length] at h0
      refine bk_lock (i := 2) h0 ?_
      have hlen := kiOf_len (p ++ sclP 1 q)
      rw [List.length_append] at hlen
      have hlen2 : (sclP 1 q).length = q.length := List.length_map _
      exact bk_ret (ef_e (e_call FO hr (by rfl) (as_cons (e_name 2 rfl (.inl rfl) rfl) as_nil) ⟨_, rfl, by omega, kiOf_nd _, rfl⟩)) fun d hd => hd
theorem fn_less (D : Dfn K mg "less_of" (topS 25)) (FA : Fn P w K mg base "as_dict" 1 ["poly"] (spN RAsD)) (FO : Fn P w K mg base "of_dict" 4 ["found"] (spP RPolOf)) : Fn P w K mg base "less_of" 5 ["one", "other"] (spP (RSum (-1))) :=
  fn_blk (k := 4) D scLE (fun ds d h => by obtain ⟨p, q, rfl, _⟩ := h; rfl) (fun kV doc pm an cdv ct us hl => by
    match us, hl with
    | [a, b], _ => rfl) fun f cdv A outer s H G hr ds d h => by
    obtain ⟨p, q, rfl, hnd, hl, rfl⟩ := h
    have hu1 : (cxB P w K mg base sumN "less_of" (topS 25) f cdv A outer s H G).A.units + 1 < cLine := room_u1 hr
    refine bk_own (i := 2) scLE.nd rfl (.inl rfl) (en_call FA (hr.mono (by decide)) (by rfl) (as_cons (e_name 0 rfl (.inl rfl) rfl) as_nil) ⟨p, rfl, hnd, by omega, rfl⟩) rfl (by show 2 < 5; decide) ?_
    refine bk_for (ts := [3, 4]) (fun i ρ μ => ρ = [some (polD p), some (polD q), none, none, none] ∧ μ 2 = some (.dct (kiD (kiOf (p ++ sclP (-1) (q.take i))))) ∧ ∀ j, j ≠ 2 → μ j = none) PassesOwn.never rfl
      (pg_tup rfl (pgs_cons (pg_name (i := 3) scLE.nd rfl (Or.inl rfl)) (pgs_cons (pg_name (i := 4) scLE.nd rfl (Or.inl rfl)) pgs_nil))) (it_tup (e_name 1 rfl (.inl rfl) rfl)) ⟨rfl, by rw [mu_same]; show _ = some (MD.dct (kiD (kiOf (p ++ [])))); rw [List.append_nil], fun j h => by rw [mu_ne h]⟩ (fun i d ρi μi hd hI => ?_) fun ρ' μ' hI => ?_
    · obtain ⟨rfl, h0, hμ⟩ := hI
      obtain ⟨t, ht, rfl⟩ := get_map hd
      refine ⟨_, gt_tup2 (by simp) (by simp), fun t ht => hμ t (by simp at ht; omega), ?_⟩
      have hlen := kiOf_len (p ++ sclP (-1) (q.take i))
      rw [List.length_append] at hlen
      have hlen2 : (sclP (-1) (q.take i)).length ≤ q.length := by unfold sclP; rw [List.length_map, List.length_take]; exact Nat.min_le_right _ _
      generalize hm : kiOf (p ++ sclP (-1) (q.take i)) = m at h0 hlen
      refine bk_dput (i := 2) (kvs := kiD m) (pw := t.2) (μ1 := μi) (A1 := fun d => d = .int (kiGet m t.2 - t.1)) hu1 ?_ h0 rfl (.inl rfl) (e_name 4 rfl (.inl rfl) rfl) (by rw [kiD_len]; omega) fun d hd => ?_
      · refine ef_mono (ef_sub (P := fun k => k = kiGet m t.2) (P' := fun k => k = t.1) (ef_mono (ef_dget (i := 2) (kvs := kiD m) (p := t.2) hu1 h0 rfl (.inl rfl) (e_name 4 rfl (.inl rfl) rfl) e_int) fun d h => ⟨_, h.trans (kvGet_kiD _ _), rfl⟩)
            (ef_int (e_name 3 rfl (.inl rfl) rfl))) fun d h => ?_
        obtain ⟨k, rfl, x, y, rfl, rfl, rfl⟩ := h
        rfl
      · subst hd
        refine bk_forget (ρ' := [some (polD p), some (polD q), none, none, none]) (by repeat (first | exact .nil | refine .keep ?_ | refine .drop ?_)) (bk_nil ⟨rfl, ?_, fun j h => ?_⟩)
        · rw [mu_same, kvPut_kiD, ← hm, take_snoc ht]
          unfold sclP
          rw [List.map_append, ← List.append_assoc, kiOf_append (p ++ _)]
          show _ = some (MD.dct (kiD (kiAdd _ t.2 (-1 * t.1))))
          have e : -1 * t.1 = -t.1 := by omega
          rw [e]
          rfl
        · rw [mu_ne h]; exact hμ j h
    · obtain ⟨rfl, h0, hμ⟩ := hI
      rw [List.length_map, List.take_length] at h0
      refine bk_lock (i := 2) h0 ?_
      have hlen := kiOf_len (p ++ sclP (-1) q)
      rw [List.length_append] at hlen
      have hlen2 : (sclP (-1) q).length = q.length := List.length_map _
      exact bk_ret (ef_e (e_call FO hr (by rfl) (as_cons (e_name 2 rfl (.inl rfl) rfl) as_nil) ⟨_, rfl, by omega, kiOf_nd _, rfl⟩)) fun d hd => hd
theorem fn_prod (D : Dfn K mg "product_of" (topS 26)) (FT : Fn P w K mg base "put_to" 1 ["found", "poly", "factor", "shift"] (spM PrePut RPut)) (FO : Fn P w K mg base "of_dict" 4 ["found"] (spP RPolOf)) : Fn P w K mg base "product_of" 5 ["one", "other"] (spP RProd) :=
  fn_blk (k := 4) D scPR (fun ds d h => by obtain ⟨p, q, rfl, _⟩ := h; rfl) (fun kV doc pm an cdv ct us hl => by
    match us, hl with
    | [a, b], _ => rfl) fun f cdv A outer s H G hr ds d h => by
    obtain ⟨p, q, rfl, hl, hpl, hql, hp, hq, hrow, rfl⟩ := h
    refine bk_own (i := 2) scPR.nd rfl (.inl rfl) en_dict rfl (by show 2 < 5; decide) ?_
    refine bk_for (ts := [3, 4]) (fun i ρ μ => ρ = [some (polD p), some (polD q), none, none, none] ∧ μ 2 = some (.dct (kiD (kiOf (mulP (p.take i) q)))) ∧ ∀ j, j ≠ 2 → μ j = none) PassesOwn.never rfl
      (pg_tup rfl (pgs_cons (pg_name (i := 3) scPR.nd rfl (Or.inl rfl)) (pgs_cons (pg_name (i := 4) scPR.nd rfl (Or.inl rfl)) pgs_nil))) (it_tup (e_name 0 rfl (.inl rfl) rfl)) ⟨rfl, mu_same, fun j h => by rw [mu_ne h]⟩ (fun i d ρi μi hd hI => ?_) fun ρ' μ' hI => ?_
    · obtain ⟨rfl, h0, hμ⟩ := hI
      obtain ⟨t, ht, rfl⟩ := get_map hd
      have htm := List.mem_of_getElem? ht
      refine ⟨_, gt_tup2 (by simp) (by simp), fun t ht => hμ t (by simp at ht; omega), ?_⟩
      have hlen := kiOf_len (mulP (p.take i) q)
      rw [mulP_len, List.length_take] at hlen
      have hlen2 : min i p.length * q.length ≤ p.length * q.length := Nat.mul_le_mul_right _ (Nat.min_le_right _ _)
      refine bk_drop (ef_put (kvs' := kiD (putTo (kiOf (mulP (p.take i) q)) q t.1 t.2)) FT (hr.mono (by decide)) (by rfl) h0 rfl (.inl rfl) (as_cons (e_name 1 rfl (.inl rfl) rfl) (as_cons (e_name 3 rfl (.inl rfl) rfl) (as_cons (e_name 4 rfl (.inl rfl) rfl) as_nil)))
        ⟨_, q, t.1, t.2, rfl, rfl, by omega, fit_nrm hp t htm, fit_nrm hq, hrow t htm⟩ fun z hz => hz _ q t.1 t.2 rfl rfl) ?_
      refine bk_forget (ρ' := [some (polD p), some (polD q), none, none, none]) (by repeat (first | exact .nil | refine .keep ?_ | refine .drop ?_)) (bk_nil ⟨rfl, ?_, fun j h => ?_⟩)
      · rw [mu_same, putTo_kiOf, take_snoc ht, mulP_snoc]
      · rw [mu_ne h]; exact hμ j h
    · obtain ⟨rfl, h0, hμ⟩ := hI
      rw [List.length_map, List.take_length] at h0
      refine bk_lock (i := 2) h0 ?_
      have hlen := kiOf_len (mulP p q)
      rw [mulP_len] at hlen
      exact bk_ret (ef_e (e_call FO hr (by rfl) (as_cons (e_name 2 rfl (.inl rfl) rfl) as_nil) ⟨_, rfl, by omega, kiOf_nd _, rfl⟩)) fun d hd => hd
theorem fn_powOf (D : Dfn K mg "power_of" (topS 28)) (FC : Fn P w K mg base "constant_of" 1 ["width", "number"] (spP RCon)) (FP : Fn P w K mg base "product_of" 5 ["one", "other"] (spP RProd)) : Fn P w K mg base "power_of" 6 ["poly", "count", "width"] (spP RPowOf) :=
  fn_blk (k := 5) D scPO (fun ds d h => by obtain ⟨p, n, w, L, M, rfl, _⟩ := h; rfl) (fun kV doc pm an cdv ct us hl => by
    match us, hl with
    | [a, b, c], _ => rfl) fun f cdv A outer s H G hr ds d h => by
    obtain ⟨p, n, wd, L, M, rfl, hw, hlen, hn, hpL, hL1, hL, hpM, hM1, hM, hp1, hp2, rfl⟩ := h
    refine bk_par3 (i := 3) (j := 4) (l := 5) (da := polD (oneP wd)) (db := polD p) (dc := .int n) rfl scPO.nd rfl rfl rfl (by decide) (by decide) (by decide) rfl rfl rfl (e_call FC (hr.mono (by decide)) (by rfl) (as_cons (e_name 2 rfl (.inl rfl) rfl) (as_cons e_int as_nil)) ⟨wd, 1, rfl, hw, rfl⟩) (e_name 0 rfl (.inl rfl) rfl) (e_name 1 rfl (.inl rfl) rfl) ?_
    refine bk_while (m0 := n) (fun m ρ μ => ∃ (F S : List Tm) (a b : Nat), ρ = [some (polD p), some (.int n), some (.int wd), some (polD F), some (polD S), some (.int m)] ∧ (∀ j, μ j = none) ∧ F = cano F ∧ Eqv F (powP wd p b) ∧ Eqv S (powP wd p a) ∧ b + a * m = n ∧ Len wd F ∧ Len wd S ∧ F.length ≤ L ^ b ∧ S.length ≤ L ^ a ∧ nrm F ≤ M ^ b ∧ nrm S ≤ M ^ a)
      (fun m ρ μ z => z = decide (0 < (m : Int))) PassesOwn.never ⟨oneP wd, p, 1, 0, rfl, fun j => ?_, (cano_con (by decide)).symm, Eqv.refl _, (eqv_one hlen).symm, by omega, len_con wd 1, hlen, by rw [Nat.pow_zero]; exact Nat.le_refl _, by rw [Nat.pow_one]; exact hpL, by rw [Nat.pow_zero]; exact Nat.le_refl _, by rw [Nat.pow_one]; exact hpM⟩
      (fun m ρj μj hI => ?_) (fun m ρj μj hI hB => ?_) fun m ρj μj hI hB => ?_
    · exact mu_all (mu_all (mu_all fun _ => rfl)) j
    · obtain ⟨F, S, a, b, rfl, _⟩ := hI
      exact tf_t (t_gt (e_name 5 rfl (.inl rfl) rfl) e_int)
    · obtain ⟨F, S, a, b, rfl, hμ, hF, eF, eS, hab, lF, lS, bF, bS, mF, mS⟩ := hI
      have hm : 0 < m := by have := of_decide_eq_true hB.symm; omega
      have e2 : ((m : Int)).fdiv 2 = ((m / 2 : Nat) : Int) := by rw [Int.fdiv_eq_ediv_of_nonneg _ (by decide)]; omega
      have e3 : ((m : Int)).fmod 2 = ((m % 2 : Nat) : Int) := by rw [Int.fmod_eq_emod_of_nonneg _ (by decide)]; omega
      have hFn : F.length ≤ 1000 := Nat.le_trans bF (Nat.le_trans (pow_le hL1 (by omega)) hL)
      have hFm : nrm F < 2 ^ 20000 := Nat.lt_of_le_of_lt mF (Nat.lt_of_le_of_lt (pow_le hM1 (by omega)) hM)
      have ham : a ≤ a * m := Nat.le_mul_of_pos_right a hm
      have hSn : S.length ≤ 1000 := Nat.le_trans bS (Nat.le_trans (pow_le hL1 (by omega)) hL)
      have hSm : nrm S < 2 ^ 20000 := Nat.lt_of_le_of_lt mS (Nat.lt_of_le_of_lt (pow_le hM1 (by omega)) hM)
      have row : ∀ {p : List Tm}, Len wd p → ∀ t ∈ p, t.2.length ≤ 1000 := fun {p} h t ht => by rw [h t ht]; omega
      refine bk_ifJ (fun ρ μ => ρ = [some (polD p), some (.int n), some (.int wd), some (polD (if m % 2 = 1 then cano (mulP F S) else F)), some (polD S), some (.int m)] ∧ ∀ j, μ j = none) (tf_t (t_eqI (e_mod (e_name 5 rfl (.inl rfl) rfl) e_int (by decide)) e_int)) (fun hB => ?_) (fun hB => ?_) fun ρ' μ' hJ => ?_
      · have hodd : m % 2 = 1 := by have := of_decide_eq_true hB.symm; omega
        refine bk_set (i := 3) scPO.nd rfl (.inl rfl) (ef_e (e_call FP hr (by rfl) (as_cons (e_name 3 rfl (.inl rfl) rfl) (as_cons (e_name 4 rfl (.inl rfl) rfl) as_nil)) ⟨F, S, rfl, ?_, hFn, hSn, hFm, hSm, row lF, rfl⟩)) fun d hd => ?_
        · exact Nat.le_trans (Nat.mul_le_mul bF bS) (by rw [← Nat.pow_add]; exact Nat.le_trans (pow_le hL1 (by omega)) hL)
        · subst hd
          exact bk_nil ⟨by rw [if_pos hodd]; rfl, mu_all hμ⟩
      · have hev : ¬ m % 2 = 1 := by have := of_decide_eq_false hB.symm; omega
        exact bk_nil ⟨by rw [if_neg hev], hμ⟩
      · obtain ⟨rfl, hμ'⟩ := hJ
        refine bk_set (i := 5) scPO.nd rfl (.inl rfl) (ef_e ((e_fdiv (e_name 5 rfl (.inl rfl) rfl) e_int ⟨by decide, by decide⟩).eq (by rw [e2]))) fun d hd => ?_
        subst hd
        refine bk_set (i := 4) scPO.nd rfl (.inl rfl) (ef_e (e_ifExp (k := decide (0 < ((m / 2 : Nat) : Int))) (d := polD (if 0 < m / 2 then cano (mulP S S) else S)) (t_gt (e_name 5 rfl (.inl rfl) rfl) e_int) (fun hB => ?_) fun hB => ?_)) fun d hd => ?_
        · have h2 : 0 < m / 2 := by have := of_decide_eq_true hB; omega
          have h3 : 2 * a ≤ a * m := by rw [Nat.mul_comm 2 a]; exact Nat.mul_le_mul_left a (by omega)
          refine (e_call FP hr (by rfl) (as_cons (e_name 4 rfl (.inl rfl) rfl) (as_cons (e_name 4 rfl (.inl rfl) rfl) as_nil)) ⟨S, S, rfl, ?_, hSn, hSn, hSm, hSm, row lS, rfl⟩).eq (by rw [if_pos h2])
          exact Nat.le_trans (Nat.mul_le_mul bS bS) (by rw [← Nat.pow_add]; exact Nat.le_trans (pow_le hL1 (by omega)) hL)
        · have h2 : ¬ 0 < m / 2 := by have := of_decide_eq_false hB; omega
          exact (e_name 4 rfl (.inl rfl) rfl).eq (by rw [if_neg h2])
        · subst hd
          have hsq : Eqv (mulP S S) (powP wd p (a + a)) := (eS.mul eS).trans (pow_add hlen a a).symm
          have hfs : Eqv (mulP F S) (powP wd p (b + a)) := (eF.mul eS).trans (pow_add hlen b a).symm
          have hdiv : m = 2 * (m / 2) + m % 2 := by omega
          refine bk_nil ⟨m / 2, by omega, if m % 2 = 1 then cano (mulP F S) else F, if 0 < m / 2 then cano (mulP S S) else S, if 0 < m / 2 then a + a else a, if m % 2 = 1 then b + a else b, rfl, mu_all (mu_all hμ'), ?_, ?_, ?_, ?_, ?_, ?_, ?_, ?_, ?_, ?_⟩
          · by_cases h : m % 2 = 1
            · rw [if_pos h, cano_cano]
            · rw [if_neg h]; exact hF
          · by_cases h : m % 2 = 1
            · rw [if_pos h, if_pos h]; exact (Eqv.cano _).trans hfs
            · rw [if_neg h, if_neg h]; exact eF
          · by_cases h : 0 < m / 2
            · rw [if_pos h, if_pos h]; exact (Eqv.cano _).trans hsq
            · rw [if_neg h, if_neg h]; exact eS
          · have e4 : a * m = (a + a) * (m / 2) + a * (m % 2) := by
              conv => lhs; rw [hdiv, Nat.mul_add, ← Nat.mul_assoc]
              rw [Nat.mul_comm a 2, Nat.two_mul]
            by_cases h : 0 < m / 2
            · rw [if_pos h]
              by_cases h1 : m % 2 = 1
              · rw [if_pos h1]; rw [h1, Nat.mul_one] at e4; omega
              · have h0 : m % 2 = 0 := by omega
                rw [if_neg h1]; rw [h0, Nat.mul_zero] at e4; omega
            · have h0 : m / 2 = 0 := by omega
              have h1 : m = 1 := by omega
              subst h1
              rw [if_neg h]
              show (if 1 % 2 = 1 then b + a else b) + a * 0 = n
              rw [if_pos rfl]
              omega
          · by_cases h : m % 2 = 1
            · rw [if_pos h]; exact (lF.mul lS).cano
            · rw [if_neg h]; exact lF
          · by_cases h : 0 < m / 2
            · rw [if_pos h]; exact (lS.mul lS).cano
            · rw [if_neg h]; exact lS
          · by_cases h : m % 2 = 1
            · rw [if_pos h, if_pos h, Nat.pow_add]; exact Nat.le_trans (cano_len _) (by rw [mulP_len]; exact Nat.mul_le_mul bF bS)
            · rw [if_neg h, if_neg h]; exact bF
          · by_cases h : 0 < m / 2
            · rw [if_pos h, if_pos h, Nat.pow_add]; exact Nat.le_trans (cano_len _) (by rw [mulP_len]; exact Nat.mul_le_mul bS bS)
            · rw [if_neg h, if_neg h]; exact bS
          · by_cases h : m % 2 = 1
            · rw [if_pos h, if_pos h, Nat.pow_add]; exact Nat.le_trans (nrm_cano _) (by rw [nrm_mul]; exact Nat.mul_le_mul mF mS)
            · rw [if_neg h, if_neg h]; exact mF
          · by_cases h : 0 < m / 2
            · rw [if_pos h, if_pos h, Nat.pow_add]; exact Nat.le_trans (nrm_cano _) (by rw [nrm_mul]; exact Nat.mul_le_mul mS mS)
            · rw [if_neg h, if_neg h]; exact mS
    · obtain ⟨F, S, a, b, rfl, hμ, hF, eF, eS, hab, _⟩ := hI
      have hm : m = 0 := by have := of_decide_eq_false hB.symm; omega
      subst hm
      have hb : b = n := by omega
      subst hb
      refine bk_ret (ef_e (e_name 3 rfl (.inl rfl) rfl)) fun d hd => ?_
      rw [hd, hF, eF.eq]
end
end R1

set_option Elab.async false
set_option linter.all false
set_option maxRecDepth 100000
set_option maxHeartbeats 4000000
/-! K00W20: put_into. -/
namespace R1
open PySem PySem.Spec PyProof.Rows L2 Evl
abbrev pinN : List Str := ["poly", "polys", "width", "found", "known", "coefficient", "powers", "whole", "at", "count"]
theorem scPI : FnScope pinN ["poly", "polys", "width"] (defScope (topS 29)) := ⟨rfl, rfl, rfl, by decide +kernel, rfl, by decide +kernel, by decide +kernel⟩
/-! ### mathematics -/
theorem putTo_ev {m : KI} (h : Nd m) (f : Int) (s : List Int) : ∀ (p : List Tm) (m : KI), Nd m → Nd (putTo m p f s) ∧ ∀ φ, ev (putTo m p f s) φ = ev m φ + f * pev p fun a => φ (zadd a s)
  | [], m, h => ⟨h, fun φ => by rw [pev_nil, Int.mul_zero, Int.add_zero]; rfl⟩
  | t :: p, m, h => by
    obtain ⟨h1, h2⟩ := putTo_ev h f s p (kiAdd m (zadd t.2 s) (f * t.1)) (nd_add h _ _)
    refine ⟨h1, fun φ => ?_⟩
    show ev (putTo (kiAdd m (zadd t.2 s) (f * t.1)) p f s) φ = _
    rw [h2 φ, ev_add h, pev_cons, Int.mul_add, ← Int.mul_assoc, Int.add_assoc]
theorem putM_snoc {w : Nat} : ∀ (ps : List (List Tm)) (ns : List Int) (a : List Tm) (i : Nat) (p : List Tm) (n : Int), ps[i]? = some p → ns[i]? = some n → putM w (ps.take (i + 1)) (ns.take (i + 1)) a = mulP (putM w (ps.take i) (ns.take i) a) (powP w p n.toNat)
  | [], _, _, _, _, _, h, _ => by simp at h
  | _ :: _, [], _, _, _, _, _, h => by simp at h
  | q :: ps, k :: ns, a, 0, p, n, h, h' => by
    simp at h h'
    subst h h'
    show putM w (ps.take 0) (ns.take 0) (mulP a (powP w q k.toNat)) = mulP (putM w [] [] a) _
    rfl
  | q :: ps, k :: ns, a, i + 1, p, n, h, h' => by
    show putM w (ps.take (i + 1)) (ns.take (i + 1)) (mulP a (powP w q k.toNat)) = mulP (putM w (ps.take i) (ns.take i) (mulP a (powP w q k.toNat))) _
    exact putM_snoc ps ns _ i p n (by simpa using h) (by simpa using h')
/-- natural sums -/
def sN (l : List Int) : Nat := (l.map Int.toNat).sum
theorem sN_snoc {l : List Int} {i : Nat} {n : Int} (h : l[i]? = some n) : sN (l.take (i + 1)) = sN (l.take i) + n.toNat := by
  unfold sN
  rw [take_snoc h, List.map_append, List.sum_append]
  rfl
theorem sN_le (l : List Int) (i : Nat) : sN (l.take i) ≤ sN l := by
  have e : sN l = sN (l.take i) + sN (l.drop i) := by
    unfold sN
    rw [← List.sum_append, ← List.map_append, List.take_append_drop]
  omega
theorem sN_sum : ∀ {l : List Int}, (∀ n ∈ l, 0 ≤ n) → (sN l : Int) = l.sum
  | [], _ => rfl
  | n :: l, h => by
    have h1 := sN_sum (l := l) fun x hx => h x (.tail _ hx)
    have h2 := h n (.head _)
    show ((n.toNat + sN l : Nat) : Int) = n + l.sum
    omega
theorem putP_snoc {w : Nat} {p : List Tm} {ps : List (List Tm)} {j : Nat} {t : Tm} (h : p[j]? = some t) (φ : List Int → Int) : pev (putP w (p.take (j + 1)) ps) φ = pev (putP w (p.take j) ps) φ + t.1 * pev (putM w ps t.2 (oneP w)) φ := by
  rw [take_snoc h, pev_putP1, pev_putP1, pev_append, pev_cons, pev_nil, Int.add_zero]
/-- what is known: powers of the polynomials -/
def KN (w : Nat) (ps : List (List Tm)) (n : Nat) (kn : Kvs) : Prop := kn.length ≤ n ∧ ∀ (a c : Nat) d, kvGet kn [(a : Int), (c : Int)] = some d → ∃ q, ps[a]? = some q ∧ d = polD (cano (powP w q c))
def RInto (ds : List PyData) (d : PyData) : Prop := ∃ (p : List Tm) (ps : List (List Tm)) (w L M : Nat), ds = [polD p, .tuple (ps.map polD), .int w] ∧ Len ps.length p ∧ Pos0 p ∧ (∀ t ∈ p, t.2.sum ≤ 3) ∧ p.length ≤ 10 ∧ nrm p < 2 ^ 20000 ∧ (∀ q ∈ ps, Len w q ∧ q.length ≤ L ∧ nrm q ≤ M) ∧
  1 ≤ L ∧ L ≤ 4 ∧ 1 ≤ M ∧ M ^ 3 < 2 ^ 20000 ∧ w ≤ 100 ∧ ps.length ≤ 100 ∧ d = polD (cano (putP w p ps))
theorem lt_pow3 {M a : Nat} (h1 : 1 ≤ M) (h : M ^ 3 < 2 ^ 20000) (ha : a ≤ 3) : M ^ a < 2 ^ 20000 := Nat.lt_of_le_of_lt (pow_le h1 ha) h
theorem le_pow3 {L a : Nat} (h1 : 1 ≤ L) (h : L ≤ 4) (ha : a ≤ 3) : L ^ a ≤ 64 := Nat.le_trans (pow_le h1 ha) (Nat.pow_le_pow_left h 3)
section
variable {P : Program} {w : World} {K : PySem.W.Frag} {mg : Str → Option Value} {base : Heap} {k : Nat}
theorem fn_into (D : Dfn K mg "put_into" (topS 29)) (me : mg "enumerate" = none) (FC : Fn P w K mg base "constant_of" 1 ["width", "number"] (spP RCon)) (FT : Fn P w K mg base "put_to" 1 ["found", "poly", "factor", "shift"] (spM PrePut RPut)) (FO : Fn P w K mg base "of_dict" 4 ["found"] (spP RPolOf))
    (FP : Fn P w K mg base "product_of" 5 ["one", "other"] (spP RProd)) (FW : Fn P w K mg base "power_of" 6 ["poly", "count", "width"] (spP RPowOf)) : Fn P w K mg base "put_into" 7 ["poly", "polys", "width"] (spP RInto) :=
  fn_blk (k := 6) D scPI (fun ds d h => by obtain ⟨p, ps, w, L, M, rfl, _⟩ := h; rfl) (fun kV doc pm an cdv ct us hl => by
    match us, hl with
    | [a, b, c], _ => rfl) fun f cdv A outer s H G hr ds d h => by
    obtain ⟨p, ps, wd, L, M, rfl, hlen, hpos, hdeg, hpl, hpn, hps, hL1, hL4, hM1, hM, hw, hpsl, rfl⟩ := h
    have hu1 : (cxB P w K mg base pinN "put_into" (topS 29) f cdv A outer s H G).A.units + 1 < cLine := room_u1 hr
    refine bk_parOwn2 (i := 3) (j := 4) rfl scPI.nd rfl rfl (by decide) rfl rfl en_dict en_dict rfl rfl (by show 3 < 10; decide) (by show 4 < 10; decide) ?_
    refine bk_for (ts := [5, 6]) (fun j ρ μ => ρ = [some (polD p), some (.tuple (ps.map polD)), some (.int wd), none, none, none, none, none, none, none] ∧ (∃ F : KI, μ 3 = some (.dct (kiD F)) ∧ Nd F ∧ F.length ≤ 64 * j ∧ ∀ φ, ev F φ = pev (putP wd (p.take j) ps) φ) ∧ (∃ kn : Kvs, μ 4 = some (.dct kn) ∧ KN wd ps (100 * j) kn) ∧ ∀ i, i ≠ 3 → i ≠ 4 → μ i = none) PassesOwn.never rfl
      (pg_tup rfl (pgs_cons (pg_name (i := 5) scPI.nd rfl (Or.inl rfl)) (pgs_cons (pg_name (i := 6) scPI.nd rfl (Or.inl rfl)) pgs_nil))) (it_tup (e_name 0 rfl (.inl rfl) rfl)) ⟨rfl, ⟨[], by rw [mu_ne (by decide), mu_same]; rfl, List.Pairwise.nil, Nat.le_refl _, fun φ => rfl⟩, ⟨[], mu_same, Nat.le_refl _, fun a c d h => nomatch h⟩, fun i h3 h4 => by rw [mu_ne h4, mu_ne h3]⟩ (fun j d ρj μj hd hI => ?_) fun ρ' μ' hI => ?_
    · obtain ⟨rfl, ⟨F, h3, hF, hFl, hFe⟩, ⟨kn, h4, hkn⟩, hμ⟩ := hI
      obtain ⟨t, ht, rfl⟩ := get_map hd
      have htm := List.mem_of_getElem? ht
      have hj : j < p.length := (List.getElem?_eq_some_iff.mp ht).1
      have htl := hlen t htm
      have htp := hpos t htm
      have hsN : sN t.2 ≤ 3 := by
        have := hdeg t htm
        rw [← sN_sum htp] at this
        omega
      refine ⟨_, gt_tup2 (by simp) (by simp), fun t ht => hμ t (by simp at ht; omega) (by simp at ht; omega), ?_⟩
      refine bk_set (i := 7) scPI.nd rfl (.inl rfl) (ef_e (e_call FC (hr.mono (by decide)) (by rfl) (as_cons (e_name 2 rfl (.inl rfl) rfl) (as_cons e_int as_nil)) ⟨wd, 1, rfl, hw, rfl⟩)) fun d hd => ?_
      subst hd
      refine bk_for (ts := [8, 9]) (fun i ρ μ => ∃ W : List Tm, ρ = [some (polD p), some (.tuple (ps.map polD)), some (.int wd), none, none, some (.int t.1), some (pwD t.2), some (polD W), none, none] ∧ μ 3 = some (.dct (kiD F)) ∧ (∃ kn : Kvs, μ 4 = some (.dct kn) ∧ KN wd ps (100 * j + i) kn) ∧ (∀ i, i ≠ 3 → i ≠ 4 → μ i = none) ∧
          Eqv W (putM wd (ps.take i) (t.2.take i) (oneP wd)) ∧ Len wd W ∧ W.length ≤ L ^ sN (t.2.take i) ∧ nrm W ≤ M ^ sN (t.2.take i)) PassesOwn.never rfl
        (pg_tup rfl (pgs_cons (pg_name (i := 8) scPI.nd rfl (Or.inl rfl)) (pgs_cons (pg_name (i := 9) scPI.nd rfl (Or.inl rfl)) pgs_nil))) (it_enum (k := true) (by rfl) me (e_name 6 rfl (.inl rfl) rfl))
        ⟨oneP wd, rfl, by rw [mu_ne (by decide)]; exact h3, ⟨kn, by rw [mu_ne (by decide)]; exact h4, hkn⟩, fun i h3 h4 => ?_, Eqv.refl _, len_con wd 1, Nat.le_refl 1, Nat.le_refl 1⟩ (fun i d ρi μi hd hI => ?_) fun ρ' μ' hI => ?_
      · by_cases h7 : i = 7
        · rw [h7, mu_same]
        · rw [mu_ne h7]; exact hμ i h3 h4
      · obtain ⟨W, rfl, h3, ⟨kn, h4, hkn⟩, hμ, eW, lW, bW, mW⟩ := hI
        have hil : i < (counted (t.2.map PyData.int)).length := (List.getElem?_eq_some_iff.mp hd).1
        rw [counted_len, List.length_map] at hil
        have hq : ps[i]? = some (ps[i]'(by omega)) := List.getElem?_eq_getElem (by omega)
        have hn : t.2[i]? = some (t.2[i]'hil) := List.getElem?_eq_getElem hil
        generalize ps[i]'(by omega) = q at hq
        generalize t.2[i]'hil = n at hn
        rw [counted_get (d := .int n) (by rw [List.getElem?_map, hn]; rfl)] at hd
        injection hd with hd
        subst hd
        have hn0 := htp n (List.mem_of_getElem? hn)
        obtain ⟨lq, bq, mq⟩ := hps q (List.mem_of_getElem? hq)
        have hsn := sN_snoc hn
        have hs1 := sN_le t.2 (i + 1)
        have hsnp := putM_snoc (w := wd) ps t.2 (oneP wd) i q n hq hn
        refine ⟨_, gt_tup2 (by simp) (by simp), fun t ht => hμ t (by simp at ht; omega) (by simp at ht; omega), ?_⟩
        refine bk_if1 (tf_t (t_gt (e_name 9 rfl (.inl rfl) rfl) e_int)) (fun hB => ?_) fun hB => ?_
        · have hnp : 0 < n := of_decide_eq_true hB.symm
          have hnn : n = ((n.toNat : Nat) : Int) := by omega
          have hky : ∀ {X : Cx} {ρ : Ro} {e1 e2 : Expr} {x1 : Nat} {pos : Pos} (_ : starEach [e1, e2] X.env = (false, eval e1 X.env) :: starEach [e2] X.env) (_ : starEach [e2] X.env = (false, eval e2 X.env) :: starEach [] X.env), E X ρ e1 (.int i) → E X ρ e2 (.int n) → E X ρ (.Tuple [e1, e2] x1 pos) (pwD [(i : Int), n]) := fun s1 s2 h1 h2 => (e_tup (as_cons h1 (as_cons h2 as_nil s2) s1) (by show 2 ≤ 100000; decide)).eq rfl
          refine bk_ifJ (fun ρ μ => ρ = [some (polD p), some (.tuple (ps.map polD)), some (.int wd), none, none, some (.int t.1), some (pwD t.2), some (polD W), some (.int i), some (.int n)] ∧ μ 3 = some (.dct (kiD F)) ∧ (∃ kn : Kvs, μ 4 = some (.dct kn) ∧ KN wd ps (100 * j + (i + 1)) kn ∧ kvGet kn [(i : Int), n] = some (polD (cano (powP wd q n.toNat)))) ∧ ∀ i, i ≠ 3 → i ≠ 4 → μ i = none)
            (tf_dnotin (i := 4) (pw := [(i : Int), n]) hu1 h4 rfl (.inl rfl) (hky rfl rfl (e_name 8 rfl (.inl rfl) rfl) (e_name 9 rfl (.inl rfl) rfl))) (fun hB => ?_) (fun hB => ?_) fun ρ' μ' hJ => ?_
          · refine bk_dput (i := 4) (kvs := kn) (pw := [(i : Int), n]) (μ1 := μi) (A1 := fun d => d = polD (cano (powP wd q n.toNat))) hu1 (ef_e (e_call FW hr (by rfl) (as_cons (e_ix (k := true) (ds := ps.map polD) (d := polD q) (e_name 1 rfl (.inl rfl) rfl) (e_name 8 rfl (.inl rfl) rfl) (atI_nat (by rw [List.getElem?_map, hq]; rfl))) (as_cons (e_name 9 rfl (.inl rfl) rfl) (as_cons (e_name 2 rfl (.inl rfl) rfl) as_nil)))
              ⟨q, n.toNat, wd, L, M, by rw [← hnn], hw, lq, by omega, bq, hL1, Nat.le_trans (le_pow3 hL1 hL4 (by omega)) (by decide), mq, hM1, lt_pow3 hM1 hM (by omega), by omega, ?_, rfl⟩)) h4 rfl (.inl rfl) (hky rfl rfl (e_name 8 rfl (.inl rfl) rfl) (e_name 9 rfl (.inl rfl) rfl)) (by have := hkn.1; omega) fun d hd => ?_
            · have := lt_pow3 hM1 hM (show 1 ≤ 3 by decide)
              rw [Nat.pow_one] at this
              exact Nat.lt_of_le_of_lt mq this
            · subst hd
              refine bk_nil ⟨rfl, by rw [mu_ne (by decide)]; exact h3, ⟨_, mu_same, ⟨?_, fun a c d hg => ?_⟩, ?_⟩, fun i h3 h4 => by rw [mu_ne h4]; exact hμ i h3 h4⟩
              · have := kvPut_len [(i : Int), n] (polD (cano (powP wd q n.toNat))) kn
                have := hkn.1
                omega
              · rw [kvGet_put] at hg
                by_cases e : [(a : Int), (c : Int)] = [(i : Int), n]
                · rw [if_pos e] at hg
                  injection hg with hg
                  injection e with e1 e2
                  injection e2 with e2 _
                  have ea : a = i := by omega
                  have ec : n.toNat = c := by omega
                  subst ea
                  rw [← ec]
                  exact ⟨q, hq, hg.symm⟩
                · rw [if_neg e] at hg
                  exact hkn.2 a c d hg
              · rw [kvGet_put, if_pos rfl]
          · refine bk_nil ⟨rfl, h3, ⟨kn, h4, ⟨by have := hkn.1; omega, hkn.2⟩, ?_⟩, hμ⟩
            cases hg : kvGet kn [(i : Int), n] with
            | none => rw [hg] at hB; cases hB
            | some d =>
              rw [hnn] at hg
              obtain ⟨q', hq', hd⟩ := hkn.2 i n.toNat d hg
              rw [hq] at hq'
              injection hq' with hq'
              subst hq'
              rw [hd]
          · obtain ⟨rfl, h3, ⟨kn2, h4, hkn2, hget⟩, hμ⟩ := hJ
            have hsum : L ^ sN (t.2.take i) * L ^ n.toNat ≤ 64 := by
              rw [← Nat.pow_add]
              exact le_pow3 hL1 hL4 (by omega)
            have hpw : ∀ m, (powP wd q m).length ≤ L ^ m ∧ nrm (powP wd q m) ≤ M ^ m := by
              intro m
              induction m with
              | zero => exact ⟨Nat.le_refl 1, Nat.le_refl 1⟩
              | succ m ih =>
                refine ⟨?_, ?_⟩
                · show (mulP (powP wd q m) q).length ≤ _
                  rw [mulP_len, Nat.pow_succ]
                  exact Nat.mul_le_mul ih.1 bq
                · show nrm (mulP (powP wd q m) q) ≤ _
                  rw [nrm_mul, Nat.pow_succ]
                  exact Nat.mul_le_mul ih.2 mq
            have bP : (cano (powP wd q n.toNat)).length ≤ L ^ n.toNat := Nat.le_trans (cano_len _) (hpw _).1
            have mP : nrm (cano (powP wd q n.toNat)) ≤ M ^ n.toNat := Nat.le_trans (nrm_cano _) (hpw _).2
            refine bk_set (i := 7) scPI.nd rfl (.inl rfl) (ef_call2 (B := fun d => d = polD (cano (mulP W (cano (powP wd q n.toNat))))) FP (hr.mono (by decide)) (by rfl) (e_name 7 rfl (.inl rfl) rfl) (ef_dsub (i := 4) (pw := [(i : Int), n]) hu1 h4 rfl (.inl rfl) (hky rfl rfl (e_name 8 rfl (.inl rfl) rfl) (e_name 9 rfl (.inl rfl) rfl)) hget) fun d2 hd2 => ?_) fun d hd => ?_
            · subst hd2
              refine ⟨_, ⟨W, _, rfl, Nat.le_trans (Nat.mul_le_mul bW bP) (Nat.le_trans hsum (by decide)), ?_, ?_, ?_, ?_, fun t ht => by rw [lW t ht]; omega, rfl⟩, rfl⟩
              · exact Nat.le_trans bW (Nat.le_trans (le_pow3 hL1 hL4 (by omega)) (by decide))
              · exact Nat.le_trans bP (Nat.le_trans (le_pow3 hL1 hL4 (by omega)) (by decide))
              · exact Nat.lt_of_le_of_lt mW (lt_pow3 hM1 hM (by omega))
              · exact Nat.lt_of_le_of_lt mP (lt_pow3 hM1 hM (by omega))
            · subst hd
              refine bk_forget (ρ' := [some (polD p), some (.tuple (ps.map polD)), some (.int wd), none, none, some (.int t.1), some (pwD t.2), some (polD (cano (mulP W (cano (powP wd q n.toNat))))), none, none]) (by repeat (first | exact .nil | refine .keep ?_ | refine .drop ?_)) (bk_nil (bk_nil ⟨_, rfl, by rw [mu_ne (by decide)]; exact h3, ⟨kn2, by rw [mu_ne (by decide)]; exact h4, hkn2⟩, fun i h3 h4 => ?_, ?_, ?_, ?_, ?_⟩))
              · by_cases h7 : i = 7
                · rw [h7, mu_same]
                · rw [mu_ne h7]; exact hμ i h3 h4
              · rw [hsnp]
                exact (Eqv.cano _).trans (eW.mul (Eqv.cano _))
              · exact (lW.mul (len_pow lq _).cano).cano
              · rw [hsn, Nat.pow_add]
                exact Nat.le_trans (cano_len _) (by rw [mulP_len]; exact Nat.mul_le_mul bW bP)
              · rw [hsn, Nat.pow_add]
                exact Nat.le_trans (nrm_cano _) (by rw [nrm_mul]; exact Nat.mul_le_mul mW mP)
        · have hnz : n.toNat = 0 := by have := of_decide_eq_false hB.symm; omega
          refine bk_forget (ρ' := [some (polD p), some (.tuple (ps.map polD)), some (.int wd), none, none, some (.int t.1), some (pwD t.2), some (polD W), none, none]) (by repeat (first | exact .nil | refine .keep ?_ | refine .drop ?_)) (bk_nil ⟨W, rfl, h3, ⟨kn, h4, by have := hkn.1; omega, hkn.2⟩, hμ, ?_, lW, ?_, ?_⟩)
          · rw [hsnp, hnz]
            refine eW.trans ?_
            exact ((eqv_comm _ _).trans (eqv_one (putM_len _ _ (fun x hx => (hps x (List.mem_of_mem_take hx)).1) (len_con wd 1)))).symm
          · rw [hsn, hnz, Nat.add_zero]; exact bW
          · rw [hsn, hnz, Nat.add_zero]; exact mW
      · obtain ⟨W, rfl, h3, ⟨kn2, h4, hkn2⟩, hμ, eW, lW, bW, mW⟩ := hI
        rw [counted_len, List.length_map, List.take_length] at bW mW
        rw [counted_len, List.length_map, List.take_length, htl, List.take_length] at eW
        rw [counted_len, List.length_map] at hkn2
        have hWl : W.length ≤ 64 := Nat.le_trans bW (le_pow3 hL1 hL4 hsN)
        refine bk_drop (ef_put (kvs' := kiD (putTo F W t.1 (List.replicate wd 0))) FT (hr.mono (by decide)) (by rfl) h3 rfl (.inl rfl) (as_cons (e_name 7 rfl (.inl rfl) rfl) (as_cons (e_name 5 rfl (.inl rfl) rfl) (as_cons ((e_repT (n := wd) (d := .int 0) (e_tup (as_cons e_int as_nil) (by show 1 ≤ 100000; decide)) (e_name 2 rfl (.inl rfl) rfl) (by omega)).eq (show _ = pwD (List.replicate wd 0) by show PyData.tuple _ = PyData.tuple _; rw [List.map_replicate])) as_nil)))
          ⟨F, W, t.1, List.replicate wd 0, rfl, rfl, by omega, fit_nrm hpn t htm, fit_nrm (Nat.lt_of_le_of_lt mW (lt_pow3 hM1 hM hsN)), by rw [List.length_replicate]; omega⟩ fun z hz => hz _ W t.1 _ rfl rfl) ?_
        obtain ⟨hN2, hE2⟩ := putTo_ev hF t.1 (List.replicate wd 0) W F hF
        have hL2 := putTo_len W t.1 (List.replicate wd 0) F
        refine bk_forget (ρ' := [some (polD p), some (.tuple (ps.map polD)), some (.int wd), none, none, none, none, none, none, none]) (by repeat (first | exact .nil | refine .keep ?_ | refine .drop ?_)) (bk_nil ⟨rfl, ⟨_, mu_same, hN2, by omega, fun φ => ?_⟩, ⟨kn2, by rw [mu_ne (by decide)]; exact h4, by have := hkn2.1; omega, hkn2.2⟩, fun i h3 h4 => by rw [mu_ne h3]; exact hμ i h3 h4⟩)
        rw [hE2, hFe, putP_snoc ht]
        congr 2
        rw [← eW φ]
        refine pev_congr fun u hu => ?_
        rw [← lW u hu, zadd_zero]
    · obtain ⟨rfl, ⟨F, h3, hF, hFl, hFe⟩, ⟨kn, h4, hkn⟩, hμ⟩ := hI
      rw [List.length_map] at hFl
      refine bk_lock (i := 3) h3 ?_
      refine bk_ret (ef_e (e_call FO (hr.mono (by decide)) (by rfl) (as_cons (e_name 3 rfl (.inl rfl) rfl) as_nil) ⟨F, rfl, by omega, hF, rfl⟩)) fun d hd => ?_
      rw [hd]
      refine congrArg polD (polOf_cano hF fun φ => ?_)
      rw [hFe, List.length_map, List.take_length]
end
end R1

set_option Elab.async false
set_option linter.all false
set_option maxRecDepth 100000
set_option maxHeartbeats 4000000
/-! K00W21: worths of great numbers. -/
namespace R1
open PySem PySem.Spec PyProof.Rows L2 Evl
structure WB (a b D : Nat) (p : List Tm) (xs : List Int) : Prop where
  c : ∀ t ∈ p, t.1.natAbs < 2 ^ a
  s : ∀ t ∈ p, sN t.2 ≤ D
  x : ∀ x ∈ xs, x.natAbs ≤ 2 ^ b
  l : a + b * D ≤ 20000
  m : b < 20000
theorem WB.fit {a b D : Nat} {p : List Tm} {xs : List Int} (h : WB a b D p xs) {x : Int} (hx : x ∈ xs) : Fit x := Nat.lt_of_le_of_lt (h.x x hx) (Nat.pow_lt_pow_right (by decide) h.m)
def cN (l : List (Int × Int)) : Nat := (l.map fun q => q.2.toNat).sum
theorem fold_abs {b : Nat} : ∀ (l : List (Int × Int)) (c : Int), (∀ q ∈ l, q.1.natAbs ≤ 2 ^ b) → (l.foldl pwF c).natAbs ≤ c.natAbs * 2 ^ (b * cN l)
  | [], c, _ => by show c.natAbs ≤ c.natAbs * 2 ^ (b * 0); rw [Nat.mul_zero, Nat.pow_zero, Nat.mul_one]; exact Nat.le_refl _
  | q :: l, c, h => by
    have h1 := fold_abs l (pwF c q) fun x hx => h x (.tail _ hx)
    have h2 : (pwF c q).natAbs ≤ c.natAbs * 2 ^ (b * q.2.toNat) := by
      unfold pwF
      rw [Int.natAbs_mul, Int.natAbs_pow, Nat.pow_mul]
      exact Nat.mul_le_mul_left _ (Nat.pow_le_pow_left (h q (.head _)) _)
    have e : cN (q :: l) = q.2.toNat + cN l := rfl
    rw [e, Nat.mul_add, Nat.pow_add, ← Nat.mul_assoc]
    exact Nat.le_trans h1 (Nat.mul_le_mul_right _ h2)
theorem cN_zip : ∀ (xs ns : List Int), cN (xs.zip ns) ≤ sN ns
  | [], _ => Nat.zero_le _
  | _ :: _, [] => Nat.zero_le _
  | x :: xs, n :: ns => by
    show n.toNat + cN (xs.zip ns) ≤ n.toNat + sN ns
    exact Nat.add_le_add_left (cN_zip xs ns) _
theorem cN_take (l : List (Int × Int)) (i : Nat) : cN (l.take i) ≤ cN l := by
  have e : cN l = cN (l.take i) + cN (l.drop i) := by
    unfold cN
    rw [← List.sum_append, ← List.map_append, List.take_append_drop]
  omega
theorem part_fit {a b D : Nat} {p : List Tm} {xs : List Int} (h : WB a b D p xs) {t : Tm} (ht : t ∈ p) {i n : Nat} {q : Int × Int} (hq : (xs.zip t.2)[i]? = some q) (hn : n < q.2.toNat) : Fit (((xs.zip t.2).take i).foldl pwF t.1 * q.1 ^ n) := by
  have hx : ∀ z ∈ xs.zip t.2, z.1.natAbs ≤ 2 ^ b := fun z hz => h.x z.1 (List.of_mem_zip hz).1
  have h1 := fold_abs (b := b) ((xs.zip t.2).take i) t.1 fun z hz => hx z (List.mem_of_mem_take hz)
  have h2 : (q.1 ^ n).natAbs ≤ 2 ^ (b * n) := by
    rw [Int.natAbs_pow, Nat.pow_mul]
    exact Nat.pow_le_pow_left (hx q (List.mem_of_getElem? hq)) _
  have h3 : cN ((xs.zip t.2).take i) + n ≤ D := by
    have e1 := take_snoc hq
    have e2 : cN ((xs.zip t.2).take (i + 1)) = cN ((xs.zip t.2).take i) + q.2.toNat := by
      rw [e1]
      unfold cN
      rw [List.map_append, List.sum_append]
      rfl
    have e3 := cN_take (xs.zip t.2) (i + 1)
    have e4 := cN_zip xs t.2
    have e5 := h.s t ht
    omega
  unfold Fit
  rw [Int.natAbs_mul]
  refine Nat.lt_of_le_of_lt (Nat.mul_le_mul h1 h2) ?_
  rw [Nat.mul_assoc, ← Nat.pow_add, ← Nat.mul_add]
  refine Nat.lt_of_lt_of_le (Nat.mul_lt_mul_of_lt_of_le (h.c t ht) (Nat.pow_le_pow_right (by decide) (Nat.mul_le_mul_left b h3)) (Nat.pow_pos (by decide))) ?_
  rw [← Nat.pow_add]
  exact Nat.pow_le_pow_right (by decide) h.l
def RWorthX (ds : List PyData) (d : PyData) : Prop := ∃ (p : List Tm) (k : Bool) (xs : List Int) (a b D : Nat), ds = [polD p, seqD k (xs.map .int)] ∧ WB a b D p xs ∧ (∀ t ∈ p, ∀ n ∈ t.2, 0 ≤ n ∧ n ≤ 1000) ∧ d = .int (worth p xs)
section
variable {P : Program} {w : World} {K : PySem.W.Frag} {mg : Str → Option Value} {base : Heap} {k : Nat}
theorem fn_worthAtX (D : Dfn K mg "worth_at" (topS 38)) (mz : mg "zip" = none) (mr : mg "range" = none) : Fn P w K mg base "worth_at" 1 ["poly", "numbers"] (spP RWorthX) :=
  fn_blk (k := 0) D sc26 (fun ds d h => by obtain ⟨p, q, r, a, b, D, rfl, _⟩ := h; rfl) (fun kV doc pm an cdv ct us hl => by
    match us, hl with
    | [a, b], _ => rfl) fun f cdv A outer s H G hr ds d h => by
    obtain ⟨p, l, xs, ba, bb, bD, rfl, hB, hp, rfl⟩ := h
    refine bk_set (i := 2) sc26.nd rfl (.inl rfl) (ef_e e_int) fun d hd => ?_
    subst hd
    refine bk_for (ts := [3, 4]) (fun j ρ μ => ρ = [some (polD p), some (seqD l (xs.map .int)), some (.int ((p.take j).foldl (fun a t => a + tmW t xs) 0)), none, none, none, none, none, none] ∧ ∀ i, μ i = none) PassesOwn.never rfl
      (pg_tup rfl (pgs_cons (pg_name (i := 3) sc26.nd rfl (Or.inl rfl)) (pgs_cons (pg_name (i := 4) sc26.nd rfl (Or.inl rfl)) pgs_nil))) (it_tup (e_name 0 rfl (.inl rfl) rfl)) ⟨rfl, fun i => by unfold mu; split <;> rfl⟩ (fun j d ρj μj hd hI => ?_) fun ρ' μ' hI => ?_
    · obtain ⟨rfl, hμ⟩ := hI
      obtain ⟨t, ht, rfl⟩ := get_map hd
      have htm : t ∈ p := List.mem_of_getElem? ht
      refine ⟨_, gt_tup2 (by simp) (by simp), fun t _ => hμ t, ?_⟩
      refine bk_set (i := 5) sc26.nd rfl (.inl rfl) (ef_e (e_name 3 rfl (.inl rfl) rfl)) fun d hd => ?_
      subst hd
      refine bk_for (ts := [6, 7]) (fun i ρ μ => ρ = [some (polD p), some (seqD l (xs.map .int)), some (.int ((p.take j).foldl (fun a t => a + tmW t xs) 0)), some (.int t.1), some (pwD t.2), some (.int (((xs.zip t.2).take i).foldl pwF t.1)), none, none, none] ∧ ∀ i, μ i = none) PassesOwn.never rfl
        (pg_tup rfl (pgs_cons (pg_name (i := 6) sc26.nd rfl (Or.inl rfl)) (pgs_cons (pg_name (i := 7) sc26.nd rfl (Or.inl rfl)) pgs_nil))) (it_zip (k := l) (l := true) (by rfl) mz (e_name 1 rfl (.inl rfl) rfl) (e_name 4 rfl (.inl rfl) rfl)) ⟨rfl, fun i => by
          show mu μj 5 none i = none
          unfold mu
          split
          · rfl
          · exact hμ i⟩ (fun i d ρi μi hd hI => ?_) fun ρ' μ' hI => ?_
      · obtain ⟨rfl, hμ'⟩ := hI
        rw [pairs_ints] at hd
        obtain ⟨q, hq, rfl⟩ := get_map hd
        have hqm : q ∈ xs.zip t.2 := List.mem_of_getElem? hq
        have hn := hp t htm q.2 (List.of_mem_zip hqm).2
        refine ⟨_, gt_tup2 (by simp) (by simp), fun t _ => hμ' t, ?_⟩
        refine bk_for (ts := [8]) (fun n ρ μ => ρ = [some (polD p), some (seqD l (xs.map .int)), some (.int ((p.take j).foldl (fun a t => a + tmW t xs) 0)), some (.int t.1), some (pwD t.2), some (.int (((xs.zip t.2).take i).foldl pwF t.1 * q.1 ^ n)), some (.int q.1), some (.int q.2), none] ∧ ∀ i, μ i = none) PassesOwn.never rfl
          (pg_name (i := 8) sc26.nd rfl (Or.inl rfl)) (it_range1 (by rfl) mr (e_name 7 rfl (.inl rfl) rfl) (by omega) (by omega)) ⟨by rw [Int.pow_zero, Int.mul_one]; rfl, hμ'⟩ (fun n d ρn μn hd hI => ?_) fun ρ' μ' hI => ?_
        · obtain ⟨rfl, hμ3⟩ := hI
          have hnl : n < q.2.toNat := by
            have := (List.getElem?_eq_some_iff.mp hd).1
            rwa [upto_len] at this
          refine ⟨_, gt_name (by simp), fun t _ => hμ3 t, ?_⟩
          refine bk_set (i := 5) sc26.nd rfl (.inl rfl) (ef_e (e_mulX (e_name 5 rfl (.inl rfl) rfl) (e_name 6 rfl (.inl rfl) rfl) (fit_mul (part_fit hB htm hq hnl) (hB.fit (List.of_mem_zip hqm).1)))) fun d hd => ?_
          subst hd
          refine bk_forget (ρ' := [some (polD p), some (seqD l (xs.map .int)), some (.int ((p.take j).foldl (fun a t => a + tmW t xs) 0)), some (.int t.1), some (pwD t.2), some (.int (((xs.zip t.2).take i).foldl pwF t.1 * q.1 ^ n * q.1)), some (.int q.1), some (.int q.2), none]) (by repeat (first | exact .nil | refine .keep ?_ | refine .drop ?_)) (bk_nil ⟨?_, fun i => ?_⟩)
          · rw [Int.pow_succ, ← Int.mul_assoc]
          · unfold mu
            split
            · rfl
            · exact hμ3 i
        · obtain ⟨rfl, hμ3⟩ := hI
          refine bk_forget (ρ' := [some (polD p), some (seqD l (xs.map .int)), some (.int ((p.take j).foldl (fun a t => a + tmW t xs) 0)), some (.int t.1), some (pwD t.2), some (.int (((xs.zip t.2).take i).foldl pwF t.1 * q.1 ^ (upto 0 q.2.toNat).length)), none, none, none]) (by repeat (first | exact .nil | refine .keep ?_ | refine .drop ?_)) (bk_nil ⟨?_, hμ3⟩)
          rw [foldl_take pwF t.1 hq, upto_len]
          rfl
      · obtain ⟨rfl, hμ'⟩ := hI
        refine bk_set (i := 2) sc26.nd rfl (.inl rfl) (ef_e (e_add (e_name 2 rfl (.inl rfl) rfl) (e_name 5 rfl (.inl rfl) rfl))) fun d hd => ?_
        subst hd
        refine bk_forget (ρ' := [some (polD p), some (seqD l (xs.map .int)), some (.int ((p.take j).foldl (fun a t => a + tmW t xs) 0 + ((xs.zip t.2).take (pairs (xs.map .int) (t.2.map .int)).length).foldl pwF t.1)), none, none, none, none, none, none]) (by repeat (first | exact .nil | refine .keep ?_ | refine .drop ?_)) (bk_nil ⟨?_, fun i => ?_⟩)
        · rw [foldl_take (fun a t => a + tmW t xs) 0 ht, pairs_ints, List.length_map, List.take_length]
          rfl
        · unfold mu
          split
          · rfl
          · exact hμ' i
    · obtain ⟨rfl, hμ⟩ := hI
      refine bk_ret (ef_e (e_name 2 rfl (.inl rfl) rfl)) fun d hd => ?_
      subst hd
      rw [List.length_map, List.take_length]
      rfl
theorem fn_lawWorthX (D : Dfn K mg "_law_worth" (topS 51)) (mz : mg "zip" = none) (mr : mg "range" = none) : Fn P w K mg base "_law_worth" 1 ["poly", "numbers"] (spP RWorthX) :=
  fn_blk (k := 0) D sc32 (fun ds d h => by obtain ⟨p, q, r, a, b, D, rfl, _⟩ := h; rfl) (fun kV doc pm an cdv ct us hl => by
    match us, hl with
    | [a, b], _ => rfl) fun f cdv A outer s H G hr ds d h => by
    obtain ⟨p, l, xs, ba, bb, bD, rfl, hB, hp, rfl⟩ := h
    refine bk_set (i := 2) sc32.nd rfl (.inl rfl) (ef_e e_int) fun d hd => ?_
    subst hd
    refine bk_for (ts := [3, 4]) (fun j ρ μ => ρ = [some (polD p), some (seqD l (xs.map .int)), some (.int ((p.take j).foldl (fun a t => a + tmW t xs) 0)), none, none, none, none, none, none] ∧ ∀ i, μ i = none) PassesOwn.never rfl
      (pg_tup rfl (pgs_cons (pg_name (i := 3) sc32.nd rfl (Or.inl rfl)) (pgs_cons (pg_name (i := 4) sc32.nd rfl (Or.inl rfl)) pgs_nil))) (it_tup (e_name 0 rfl (.inl rfl) rfl)) ⟨rfl, fun i => by unfold mu; split <;> rfl⟩ (fun j d ρj μj hd hI => ?_) fun ρ' μ' hI => ?_
    · obtain ⟨rfl, hμ⟩ := hI
      obtain ⟨t, ht, rfl⟩ := get_map hd
      have htm : t ∈ p := List.mem_of_getElem? ht
      refine ⟨_, gt_tup2 (by simp) (by simp), fun t _ => hμ t, ?_⟩
      refine bk_set (i := 5) sc32.nd rfl (.inl rfl) (ef_e (e_name 3 rfl (.inl rfl) rfl)) fun d hd => ?_
      subst hd
      refine bk_for (ts := [6, 7]) (fun i ρ μ => ρ = [some (polD p), some (seqD l (xs.map .int)), some (.int ((p.take j).foldl (fun a t => a + tmW t xs) 0)), some (.int t.1), some (pwD t.2), some (.int (((xs.zip t.2).take i).foldl pwF t.1)), none, none, none] ∧ ∀ i, μ i = none) PassesOwn.never rfl
        (pg_tup rfl (pgs_cons (pg_name (i := 6) sc32.nd rfl (Or.inl rfl)) (pgs_cons (pg_name (i := 7) sc32.nd rfl (Or.inl rfl)) pgs_nil))) (it_zip (k := l) (l := true) (by rfl) mz (e_name 1 rfl (.inl rfl) rfl) (e_name 4 rfl (.inl rfl) rfl)) ⟨rfl, fun i => by
          show mu μj 5 none i = none
          unfold mu
          split
          · rfl
          · exact hμ i⟩ (fun i d ρi μi hd hI => ?_) fun ρ' μ' hI => ?_
      · obtain ⟨rfl, hμ'⟩ := hI
        rw [pairs_ints] at hd
        obtain ⟨q, hq, rfl⟩ := get_map hd
        have hqm : q ∈ xs.zip t.2 := List.mem_of_getElem? hq
        have hn := hp t htm q.2 (List.of_mem_zip hqm).2
        refine ⟨_, gt_tup2 (by simp) (by simp), fun t _ => hμ' t, ?_⟩
        refine bk_for (ts := [8]) (fun n ρ μ => ρ = [some (polD p), some (seqD l (xs.map .int)), some (.int ((p.take j).foldl (fun a t => a + tmW t xs) 0)), some (.int t.1), some (pwD t.2), some (.int (((xs.zip t.2).take i).foldl pwF t.1 * q.1 ^ n)), some (.int q.1), some (.int q.2), none] ∧ ∀ i, μ i = none) PassesOwn.never rfl
          (pg_name (i := 8) sc32.nd rfl (Or.inl rfl)) (it_range1 (by rfl) mr (e_name 7 rfl (.inl rfl) rfl) (by omega) (by omega)) ⟨by rw [Int.pow_zero, Int.mul_one]; rfl, hμ'⟩ (fun n d ρn μn hd hI => ?_) fun ρ' μ' hI => ?_
        · obtain ⟨rfl, hμ3⟩ := hI
          have hnl : n < q.2.toNat := by
            have := (List.getElem?_eq_some_iff.mp hd).1
            rwa [upto_len] at this
          refine ⟨_, gt_name (by simp), fun t _ => hμ3 t, ?_⟩
          refine bk_set (i := 5) sc32.nd rfl (.inl rfl) (ef_e (e_mulX (e_name 5 rfl (.inl rfl) rfl) (e_name 6 rfl (.inl rfl) rfl) (fit_mul (part_fit hB htm hq hnl) (hB.fit (List.of_mem_zip hqm).1)))) fun d hd => ?_
          subst hd
          refine bk_forget (ρ' := [some (polD p), some (seqD l (xs.map .int)), some (.int ((p.take j).foldl (fun a t => a + tmW t xs) 0)), some (.int t.1), some (pwD t.2), some (.int (((xs.zip t.2).take i).foldl pwF t.1 * q.1 ^ n * q.1)), some (.int q.1), some (.int q.2), none]) (by repeat (first | exact .nil | refine .keep ?_ | refine .drop ?_)) (bk_nil ⟨?_, fun i => ?_⟩)
          · rw [Int.pow_succ, ← Int.mul_assoc]
          · unfold mu
            split
            · rfl
            · exact hμ3 i
        · obtain ⟨rfl, hμ3⟩ := hI
          refine bk_forget (ρ' := [some (polD p), some (seqD l (xs.map .int)), some (.int ((p.take j).foldl (fun a t => a + tmW t xs) 0)), some (.int t.1), some (pwD t.2), some (.int (((xs.zip t.2).take i).foldl pwF t.1 * q.1 ^ (upto 0 q.2.toNat).length)), none, none, none]) (by repeat (first | exact .nil | refine .keep ?_ | refine .drop ?_)) (bk_nil ⟨?_, hμ3⟩)
          rw [foldl_take pwF t.1 hq, upto_len]
          rfl
      · obtain ⟨rfl, hμ'⟩ := hI
        refine bk_set (i := 2) sc32.nd rfl (.inl rfl) (ef_e (e_add (e_name 2 rfl (.inl rfl) rfl) (e_name 5 rfl (.inl rfl) rfl))) fun d hd => ?_
        subst hd
        refine bk_forget (ρ' := [some (polD p), some (seqD l (xs.map .int)), some (.int ((p.take j).foldl (fun a t => a + tmW t xs) 0 + ((xs.zip t.2).take (pairs (xs.map .int) (t.2.map .int)).length).foldl pwF t.1)), none, none, none, none, none, none]) (by repeat (first | exact .nil | refine .keep ?_ | refine .drop ?_)) (bk_nil ⟨?_, fun i => ?_⟩)
        · rw [foldl_take (fun a t => a + tmW t xs) 0 ht, pairs_ints, List.length_map, List.take_length]
          rfl
        · unfold mu
          split
          · rfl
          · exact hμ' i
    · obtain ⟨rfl, hμ⟩ := hI
      refine bk_ret (ef_e (e_name 2 rfl (.inl rfl) rfl)) fun d hd => ?_
      subst hd
      rw [List.length_map, List.take_length]
      rfl
end
end R1

set_option Elab.async false
set_option linter.all false
set_option maxRecDepth 100000
set_option maxHeartbeats 4000000
/-! K00W22: what is asked from outside. -/
namespace R1
open PySem PySem.Spec PyProof.Rows L2 Evl
theorem scWW : FnScope ["width", "poly", "numbers", "whole"] ["width", "poly", "numbers"] (defScope (topS 37)) := ⟨rfl, rfl, rfl, by decide +kernel, rfl, by decide +kernel, by decide +kernel⟩
abbrev threeN : List Str := ["width", "one", "other"]
theorem scA1 : FnScope threeN threeN (defScope (topS 31)) := ⟨rfl, rfl, rfl, by decide +kernel, rfl, by decide +kernel, by decide +kernel⟩
theorem scA2 : FnScope threeN threeN (defScope (topS 32)) := ⟨rfl, rfl, rfl, by decide +kernel, rfl, by decide +kernel, by decide +kernel⟩
theorem scA3 : FnScope threeN threeN (defScope (topS 33)) := ⟨rfl, rfl, rfl, by decide +kernel, rfl, by decide +kernel, by decide +kernel⟩
abbrev insN : List Str := ["width", "poly", "polys", "wide", "whole", "some"]
theorem scIN : FnScope insN ["width", "poly", "polys", "wide"] (defScope (topS 34)) := ⟨rfl, rfl, rfl, by decide +kernel, rfl, by decide +kernel, by decide +kernel⟩
abbrev tolN : List Str := ["width", "terms", "found", "term"]
theorem scTO : FnScope tolN ["width", "terms"] (defScope (topS 35)) := ⟨rfl, rfl, rfl, by decide +kernel, rfl, by decide +kernel, by decide +kernel⟩
/-- less is promised -/
theorem fn_imp {P : Program} {w : World} {K : PySem.W.Frag} {mg : Str → Option Value} {base : Heap} {x : Str} {k : Nat} {ps : List Str} {R R' : List PyData → PyData → Prop} (F : Fn P w K mg base x k ps (spP R)) (h : ∀ ds d, R' ds d → R ds d) : Fn P w K mg base x k ps (spP R') := by
  obtain ⟨f, fd, q, st, hm, hF, hb, ok⟩ := F.ex
  exact ⟨f, fd, q, st, hm, hF, hb, ok.imp fun vs H Q E ⟨I, ds, d, e, r, hR, z⟩ => ⟨I, ds, d, e, r, h ds d hR, z⟩⟩
theorem ordB_good {wd : Int} {p : List Tm} (h : Good wd p) : ordB p = true := by
  unfold ordB
  exact List.all_eq_true.mpr fun y hy => pw_zip h.o y hy
theorem poly_imp (ds : List PyData) (d : PyData) (h : RPoly ds d) : RPolyB ds d := by
  obtain ⟨wd, p, k, es, rfl, ht, hg, rfl⟩ := h
  exact ⟨wd, p, k, es, rfl, ht, hg.t, hg.l, hg.w.2, by rw [ordB_good hg]⟩
/-! ### rows of polynomials -/
def PlIs (p : List Tm) (d : PyData) : Prop := ∃ k es, d = seqD k es ∧ Tms p es
inductive Pls : List (List Tm) → List PyData → Prop
  | nil : Pls [] []
  | cons {p d ps ds} : PlIs p d → Pls ps ds → Pls (p :: ps) (d :: ds)
theorem Pls.length : ∀ {ps ds}, Pls ps ds → ds.length = ps.length
  | _, _, .nil => rfl
  | _, _, .cons _ h => congrArg (· + 1) h.length
theorem Pls.mem : ∀ {ps ds}, Pls ps ds → ∀ d ∈ ds, ∃ p ∈ ps, PlIs p d
  | _, _, .nil, d, h => nomatch h
  | _, _, .cons a b, d, h => by
    rcases List.mem_cons.mp h with rfl | h
    · exact ⟨_, .head _, a⟩
    · obtain ⟨t, ht, x⟩ := b.mem d h
      exact ⟨t, .tail _ ht, x⟩
theorem pls_pol : ∀ ps : List (List Tm), Pls ps (ps.map polD)
  | [] => .nil
  | p :: ps => .cons ⟨true, _, rfl, tms_pol p⟩ (pls_pol ps)
def asP (d : PyData) : PyData := .tuple ((itsD d).map fun d => tmD (coefOf d, rowOf d))
theorem asP_is {p : List Tm} {d : PyData} (h : PlIs p d) : asP d = polD p := by
  obtain ⟨k, es, rfl, ht⟩ := h
  have e : itsD (seqD k es) = es := by cases k <;> rfl
  unfold asP polD
  rw [e, ht.tms]
theorem Pls.as : ∀ {ps ds}, Pls ps ds → ds.map asP = ps.map polD
  | _, _, .nil => rfl
  | _, _, .cons a b => by rw [List.map_cons, List.map_cons, asP_is a, b.as]
theorem Tms.nth : ∀ {ts ds}, Tms ts ds → ∀ {i : Nat} {d : PyData}, ds[i]? = some d → ∃ t, ts[i]? = some t ∧ TmIs t d
  | _, _, .nil, _, _, h => by simp at h
  | _, _, .cons a b, 0, d, h => by
    simp at h
    subst h
    exact ⟨_, rfl, a⟩
  | _, _, .cons a b, i + 1, d, h => by
    obtain ⟨t, ht, x⟩ := b.nth (i := i) (by simpa using h)
    exact ⟨t, by simpa using ht, x⟩
theorem good_nd {wd : Int} {p : List Tm} (h : Good wd p) : (p.map (·.2)).Nodup := by
  unfold List.Nodup
  rw [List.pairwise_map]
  refine h.o.imp fun {a b} hab e => ?_
  rw [e] at hab
  have := rkLt_asym _ _ hab
  rw [hab] at this
  cases this
theorem good_len {w : Nat} {p : List Tm} (h : Good (w : Int) p) : Len w p := fun t ht => by have := (h.t t ht).2.1; omega
theorem good_pos {wd : Int} {p : List Tm} (h : Good wd p) : Pos0 p := fun t ht n hn => ((h.t t ht).2.2 n hn).1
def RNeedsM (ds : List PyData) (d : PyData) : Prop := ∃ (wd : Int) (ps : List (List Tm)) (vs : List PyData) (x : Str), ds = [.int wd, .list vs, .str x] ∧ Pls ps vs ∧ (∀ p ∈ ps, Good wd p) ∧ ps.length ≤ 100 ∧ d = .tuple (ps.map polD)
def RAdd (k : Int) (ds : List PyData) (d : PyData) : Prop := ∃ (wd : Int) (p q : List Tm) (k1 k2 : Bool) (es fs : List PyData), ds = [.int wd, seqD k1 es, seqD k2 fs] ∧ Tms p es ∧ Tms q fs ∧ Good wd p ∧ Good wd q ∧ p.length + q.length ≤ 1000 ∧ d = polD (cano (p ++ sclP k q))
def RMul (ds : List PyData) (d : PyData) : Prop := ∃ (wd : Int) (p q : List Tm) (k1 k2 : Bool) (es fs : List PyData), ds = [.int wd, seqD k1 es, seqD k2 fs] ∧ Tms p es ∧ Tms q fs ∧ Good wd p ∧ Good wd q ∧ p.length * q.length ≤ 1000 ∧ nrm p < 2 ^ 20000 ∧ nrm q < 2 ^ 20000 ∧ d = polD (cano (mulP p q))
def RIns (ds : List PyData) (d : PyData) : Prop := ∃ (p : List Tm) (k : Bool) (es : List PyData) (ps : List (List Tm)) (vs : List PyData) (w L M : Nat), ds = [.int ps.length, seqD k es, .list vs, .int w] ∧ Tms p es ∧ Good ps.length p ∧ Pls ps vs ∧ (∀ q ∈ ps, Good w q) ∧
  (∀ t ∈ p, t.2.sum ≤ 3) ∧ p.length ≤ 10 ∧ nrm p < 2 ^ 20000 ∧ (∀ q ∈ ps, q.length ≤ L ∧ nrm q ≤ M) ∧ 1 ≤ L ∧ L ≤ 4 ∧ 1 ≤ M ∧ M ^ 3 < 2 ^ 20000 ∧ w ≤ 16 ∧ d = polD (cano (putP w p ps))
def RTol (ds : List PyData) (d : PyData) : Prop := ∃ (wd : Int) (p : List Tm) (k : Bool) (es : List PyData), ds = [.int wd, seqD k es] ∧ Tms p es ∧ (∀ t ∈ p, (t.2.length : Int) = wd ∧ ∀ x ∈ t.2, 0 ≤ x ∧ x ≤ 1000) ∧ 0 ≤ wd ∧ wd ≤ 16 ∧ p.length ≤ 1000 ∧ d = polD (cano p)
def RWholeX (ds : List PyData) (d : PyData) : Prop := ∃ (wd : Int) (p : List Tm) (k : Bool) (es : List PyData) (l : Bool) (xs : List Int) (a b D : Nat), ds = [.int wd, seqD k es, seqD l (xs.map .int)] ∧ Tms p es ∧ Good wd p ∧ (xs.length : Int) = wd ∧ (∀ n ∈ xs, -(10 ^ 50) ≤ n ∧ n ≤ 10 ^ 50) ∧ WB a b D p xs ∧ d = .int (worth p xs)
section
variable {P : Program} {w : World} {K : PySem.W.Frag} {mg : Str → Option Value} {base : Heap} {k : Nat}
theorem fn_needsM (D : Dfn K mg "need_polys" (topS 20)) (ma : mg "all" = none) (mt : mg "tuple" = none) (F : Fn P w K mg base "is_listed" 1 ["value"] (spP RListed)) (F1 : Fn P w K mg base "is_poly" 5 ["width", "value"] (spP RPoly)) (F2 : Fn P w K mg base "as_poly" 1 ["value"] (spP RAs)) :
    Fn P w K mg base "need_polys" 6 ["width", "value", "part"] (spP RNeedsM) :=
  fn_pure (k := 5) D sc19 (fun ds d h => by obtain ⟨p, q, r, t, rfl, _⟩ := h; rfl) (fun kV doc pm an cdv ct us hl => by
    match us, hl with
    | [a, b, c], _ => rfl) fun f cdv A outer s H G hr ds d h => by
    obtain ⟨wd, ps, vs, x, rfl, ht, hg, hpl, rfl⟩ := h
    have hvl : vs.length < 100000 := by rw [ht.length]; omega
    have n1 : ∀ q, E (cxB P w K mg base ["width", "value", "part", "one"] "need_polys" (topS 20) f cdv A outer s H G) [some (.int wd), some (.list vs), some (.str x), none] (.Name "value" q) (.list vs) := fun q => e_name 1 rfl (.inl rfl) rfl
    refine bd_ifF ((tw_or (k := false) (l := false) ((t_not (t_val (e_call F (hr.mono (by decide)) (by rfl) (as_cons (n1 _) as_nil) ⟨false, _, rfl, rfl⟩))).eq rfl) fun _ => tw_or1 ((t_not (t_val ((e_all (bs := List.replicate vs.length true) rfl (by rfl) ma ((e_lc (own := [("one", 3)]) (g := gName 3) (F := fun _ => .bool true) (ρ' := fun d => (wipeR _ [3]).set 3 (some d)) rfl sc19.nd (blkOk_by (own := [("one", 3)]) (N := ["width", "value", "part", "one"]) (sc := defScope (topS 20)) (by decide +kernel)) (fun _ _ _ _ _ => pg_name (i := 3) sc19.nd rfl (Or.inl rfl)) (it_list (n1 _)) (fun d _ => gt_name (by simp)) (fun d hd => ?_) hvl).eq (by rw [all_reps]))).eq (by rw [reps_all])))).eq rfl)).t.eq rfl)
      (bd_ret ((e_tupOf (k := false) (by rfl) mt (e_lc (own := [("one", 3)]) (g := gName 3) (F := asP) (ρ' := fun d => (wipeR _ [3]).set 3 (some d)) rfl sc19.nd (blkOk_by (own := [("one", 3)]) (N := ["width", "value", "part", "one"]) (sc := defScope (topS 20)) (by decide +kernel)) (fun _ _ _ _ _ => pg_name (i := 3) sc19.nd rfl (Or.inl rfl)) (it_list (n1 _)) (fun d _ => gt_name (by simp)) (fun d hd => ?_) hvl)).eq (by rw [ht.as])))
    · obtain ⟨p, hp, l, es, rfl, hts⟩ := ht.mem d hd
      intro s0 H0 C cl fp
      exact e_call F1 hr (by rfl) (as_cons (e_name 0 rfl (.inr (.inl rfl)) rfl) (as_cons (e_name 3 rfl (.inl rfl) rfl) as_nil)) ⟨wd, p, l, es, rfl, hts, hg p hp, rfl⟩
    · obtain ⟨p, hp, hpi⟩ := ht.mem d hd
      rw [asP_is hpi]
      obtain ⟨l, es, rfl, hts⟩ := hpi
      intro s0 H0 C cl fp
      exact e_call F2 (hr.mono (by decide)) (by rfl) (as_cons (e_name 3 rfl (.inl rfl) rfl) as_nil) ⟨p, l, es, rfl, hts, (hg p hp).l, rfl⟩
theorem fn_wholeX (D : Dfn K mg "whole_worth" (topS 37)) (FW : Fn P w K mg base "need_width" 3 ["value"] (spP RWidth)) (FN : Fn P w K mg base "need_polys" 6 ["width", "value", "part"] (spP RNeedsM)) (FU : Fn P w K mg base "is_numbers" 3 ["value", "least", "most"] (spP RNums)) (FA : Fn P w K mg base "worth_at" 1 ["poly", "numbers"] (spP RWorthX)) : Fn P w K mg base "whole_worth" 7 ["width", "poly", "numbers"] (spP RWholeX) :=
  fn_blk (k := 6) D scWW (fun ds d h => by obtain ⟨p, q, r, t, u, v, _, _, _, rfl, _⟩ := h; rfl) (fun kV doc pm an cdv ct us hl => by
    match us, hl with
    | [a, b, c], _ => rfl) fun f cdv A outer s H G hr ds d h => by
    obtain ⟨wd, p, l, es, m, xs, ba, bb, bD, rfl, ht, hg, hx, hb, hB, rfl⟩ := h
    have hw := hg.w
    refine bk_drop (ef_e (e_call FW (hr.mono (by decide)) (by rfl) (as_cons (e_name 0 rfl (.inl rfl) rfl) as_nil) ⟨wd, rfl, hg.w.1, hg.w.2, rfl⟩)) ?_
    refine bk_set (i := 3) scWW.nd rfl (.inl rfl) (ef_e (e_ix (k := true) (ds := [polD p]) (e_call FN hr (by rfl) (as_cons (e_name 0 rfl (.inl rfl) rfl) (as_cons (e_lst (x1 := 0) (as_cons (e_name 1 rfl (.inl rfl) rfl) as_nil) (by show 1 ≤ 100000; decide)) (as_cons e_str as_nil))) ⟨wd, [p], _, _, rfl, .cons ⟨l, es, rfl, ht⟩ .nil, fun q hq => by rw [List.mem_singleton.mp hq]; exact hg, by show 1 ≤ 100; decide, rfl⟩) e_int rfl)) fun d hd => ?_
    subst hd
    refine bk_if1 (B := fun z => z = false) (tf_t ((t_not (t_val (e_call FU (hr.mono (by decide)) (by rfl) (as_cons (e_name 2 rfl (.inl rfl) rfl) (as_cons (e_name 0 rfl (.inl rfl) rfl) (as_cons (e_name 0 rfl (.inl rfl) rfl) as_nil))) ⟨m, xs, wd, wd, rfl, by omega, by omega, by omega, hb, rfl⟩))).eq rfl)) (fun z => nomatch z) fun _ => ?_
    exact bk_ret (ef_e (e_call FA (hr.mono (by decide)) (by rfl) (as_cons (e_name 3 rfl (.inl rfl) rfl) (as_cons (e_name 2 rfl (.inl rfl) rfl) as_nil)) ⟨p, m, xs, ba, bb, bD, rfl, hB, fun t ht n hn => (hg.t t ht).2.2 n hn, rfl⟩)) fun d hd => hd
theorem fn_added (D : Dfn K mg "added" (topS 31)) (FW : Fn P w K mg base "need_width" 3 ["value"] (spP RWidth)) (FN : Fn P w K mg base "need_poly" 6 ["width", "value", "part"] (spP RNeed)) (FS : Fn P w K mg base "sum_of" 5 ["one", "other"] (spP (RSum 1))) : Fn P w K mg base "added" 7 threeN (spP (RAdd 1)) :=
  fn_blk (k := 6) D scA1 (fun ds d h => by obtain ⟨_, _, _, _, _, _, _, rfl, _⟩ := h; rfl) (fun kV doc pm an cdv ct us hl => by
    match us, hl with
    | [a, b, c], _ => rfl) fun f cdv A outer s H G hr ds d h => by
    obtain ⟨wd, p, q, k1, k2, es, fs, rfl, hp, hq, gp, gq, hl, rfl⟩ := h
    refine bk_drop (ef_e (e_call FW (hr.mono (by decide)) (by rfl) (as_cons (e_name 0 rfl (.inl rfl) rfl) as_nil) ⟨wd, rfl, gp.w.1, gp.w.2, rfl⟩)) ?_
    exact bk_ret (ef_e (e_call FS (hr.mono (by decide)) (by rfl) (as_cons (e_call FN hr (by rfl) (as_cons (e_name 0 rfl (.inl rfl) rfl) (as_cons (e_name 1 rfl (.inl rfl) rfl) (as_cons e_str as_nil))) ⟨wd, p, k1, es, _, rfl, hp, gp, rfl⟩) (as_cons (e_call FN hr (by rfl) (as_cons (e_name 0 rfl (.inl rfl) rfl) (as_cons (e_name 2 rfl (.inl rfl) rfl) (as_cons e_str as_nil))) ⟨wd, q, k2, fs, _, rfl, hq, gq, rfl⟩) as_nil)) ⟨p, q, rfl, good_nd gp, hl, rfl⟩)) fun d hd => hd
theorem fn_lessened (D : Dfn K mg "lessened" (topS 32)) (FW : Fn P w K mg base "need_width" 3 ["value"] (spP RWidth)) (FN : Fn P w K mg base "need_poly" 6 ["width", "value", "part"] (spP RNeed)) (FS : Fn P w K mg base "less_of" 5 ["one", "other"] (spP (RSum (-1)))) : Fn P w K mg base "lessened" 7 threeN (spP (RAdd (-1))) :=
  fn_blk (k := 6) D scA2 (fun ds d h => by obtain ⟨_, _, _, _, _, _, _, rfl, _⟩ := h; rfl) (fun kV doc pm an cdv ct us hl => by
    match us, hl with
    | [a, b, c], _ => rfl) fun f cdv A outer s H G hr ds d h => by
    obtain ⟨wd, p, q, k1, k2, es, fs, rfl, hp, hq, gp, gq, hl, rfl⟩ := h
    refine bk_drop (ef_e (e_call FW (hr.mono (by decide)) (by rfl) (as_cons (e_name 0 rfl (.inl rfl) rfl) as_nil) ⟨wd, rfl, gp.w.1, gp.w.2, rfl⟩)) ?_
    exact bk_ret (ef_e (e_call FS (hr.mono (by decide)) (by rfl) (as_cons (e_call FN hr (by rfl) (as_cons (e_name 0 rfl (.inl rfl) rfl) (as_cons (e_name 1 rfl (.inl rfl) rfl) (as_cons e_str as_nil))) ⟨wd, p, k1, es, _, rfl, hp, gp, rfl⟩) (as_cons (e_call FN hr (by rfl) (as_cons (e_name 0 rfl (.inl rfl) rfl) (as_cons (e_name 2 rfl (.inl rfl) rfl) (as_cons e_str as_nil))) ⟨wd, q, k2, fs, _, rfl, hq, gq, rfl⟩) as_nil)) ⟨p, q, rfl, good_nd gp, hl, rfl⟩)) fun d hd => hd
theorem fn_multiplied (D : Dfn K mg "multiplied" (topS 33)) (FW : Fn P w K mg base "need_width" 3 ["value"] (spP RWidth)) (FN : Fn P w K mg base "need_poly" 6 ["width", "value", "part"] (spP RNeed)) (FS : Fn P w K mg base "product_of" 5 ["one", "other"] (spP RProd)) : Fn P w K mg base "multiplied" 7 threeN (spP RMul) :=
  fn_blk (k := 6) D scA3 (fun ds d h => by obtain ⟨_, _, _, _, _, _, _, rfl, _⟩ := h; rfl) (fun kV doc pm an cdv ct us hl => by
    match us, hl with
    | [a, b, c], _ => rfl) fun f cdv A outer s H G hr ds d h => by
    obtain ⟨wd, p, q, k1, k2, es, fs, rfl, hp, hq, gp, gq, hl, np, nq, rfl⟩ := h
    refine bk_drop (ef_e (e_call FW (hr.mono (by decide)) (by rfl) (as_cons (e_name 0 rfl (.inl rfl) rfl) as_nil) ⟨wd, rfl, gp.w.1, gp.w.2, rfl⟩)) ?_
    have h1 := gp.l
    have h2 := gq.l
    have hw := gp.w
    exact bk_ret (ef_e (e_call FS (hr.mono (by decide)) (by rfl) (as_cons (e_call FN hr (by rfl) (as_cons (e_name 0 rfl (.inl rfl) rfl) (as_cons (e_name 1 rfl (.inl rfl) rfl) (as_cons e_str as_nil))) ⟨wd, p, k1, es, _, rfl, hp, gp, rfl⟩) (as_cons (e_call FN hr (by rfl) (as_cons (e_name 0 rfl (.inl rfl) rfl) (as_cons (e_name 2 rfl (.inl rfl) rfl) (as_cons e_str as_nil))) ⟨wd, q, k2, fs, _, rfl, hq, gq, rfl⟩) as_nil)) ⟨p, q, rfl, hl, by omega, by omega, np, nq, fun t ht => by have := (gp.t t ht).2.1; omega, rfl⟩)) fun d hd => hd
theorem fn_ins (D : Dfn K mg "inserted" (topS 34)) (ml : mg "len" = none) {u : Tok} (mM : mg "MOST_WIDTH" = some (.int 16 u)) (FW : Fn P w K mg base "need_width" 3 ["value"] (spP RWidth)) (FN : Fn P w K mg base "need_poly" 6 ["width", "value", "part"] (spP RNeed)) (FM : Fn P w K mg base "need_polys" 6 ["width", "value", "part"] (spP RNeedsM)) (FI : Fn P w K mg base "is_within" 2 ["value", "least", "most"] (spP RWithin)) (FP : Fn P w K mg base "put_into" 7 ["poly", "polys", "width"] (spP RInto)) : Fn P w K mg base "inserted" 8 ["width", "poly", "polys", "wide"] (spP RIns) :=
  fn_blk (k := 7) D scIN (fun ds d h => by obtain ⟨_, _, _, _, _, _, _, _, rfl, _⟩ := h; rfl) (fun kV doc pm an cdv ct us hl => by
    match us, hl with
    | [a, b, c, d], _ => rfl) fun f cdv A outer s H G hr ds d h => by
    obtain ⟨p, kk, es, ps, vs, wd, L, M, rfl, hp, gp, hq, gq, hdeg, hpl, hpn, hps, hL1, hL4, hM1, hM, hw, rfl⟩ := h
    have hv := gp.w
    refine bk_drop (ef_e (e_call FW (hr.mono (by decide)) (by rfl) (as_cons (e_name 0 rfl (.inl rfl) rfl) as_nil) ⟨_, rfl, gp.w.1, gp.w.2, rfl⟩)) ?_
    refine bk_set (i := 4) scIN.nd rfl (.inl rfl) (ef_e (e_call FN (hr.mono (by decide)) (by rfl) (as_cons (e_name 0 rfl (.inl rfl) rfl) (as_cons (e_name 1 rfl (.inl rfl) rfl) (as_cons e_str as_nil))) ⟨_, p, kk, es, _, rfl, hp, gp, rfl⟩)) fun d hd => ?_
    subst hd
    refine bk_if1 (B := fun z => z = false) (tf_t ((t_not (t_val (e_call FI (hr.mono (by decide)) (by rfl) (as_cons (e_name 3 rfl (.inl rfl) rfl) (as_cons e_int (as_cons (e_globI (by rfl) mM) as_nil))) ⟨(wd : Int), 0, 16, rfl, rfl⟩))).eq ?_)) (fun z => nomatch z) fun _ => ?_
    · rw [decide_eq_true (show (0 : Int) ≤ wd by omega), decide_eq_true (show (wd : Int) ≤ 16 by omega)]
      rfl
    refine bk_set (i := 5) scIN.nd rfl (.inl rfl) (ef_e (e_call FM (hr.mono (by decide)) (by rfl) (as_cons (e_name 3 rfl (.inl rfl) rfl) (as_cons (e_name 2 rfl (.inl rfl) rfl) (as_cons e_str as_nil))) ⟨(wd : Int), ps, vs, _, rfl, hq, gq, by omega, rfl⟩)) fun d hd => ?_
    subst hd
    refine bk_if1 (B := fun z => z = false) (tf_t ((t_neI (e_len (k := true) (by rfl) ml (e_name 5 rfl (.inl rfl) rfl)) (e_name 0 rfl (.inl rfl) rfl)).eq ?_)) (fun z => nomatch z) fun _ => ?_
    · rw [List.length_map, decide_eq_true rfl]
      rfl
    exact bk_ret (ef_e (e_call FP hr (by rfl) (as_cons (e_name 4 rfl (.inl rfl) rfl) (as_cons (e_name 5 rfl (.inl rfl) rfl) (as_cons (e_name 3 rfl (.inl rfl) rfl) as_nil))) ⟨p, ps, wd, L, M, rfl, good_len gp, good_pos gp, hdeg, hpl, hpn, fun q hq => ⟨good_len (gq q hq), hps q hq⟩, hL1, hL4, hM1, hM, by omega, by omega, rfl⟩)) fun d hd => hd
theorem fn_tol (D : Dfn K mg "told_poly" (topS 35)) (ml : mg "len" = none) (mt : mg "tuple" = none) (FW : Fn P w K mg base "need_width" 3 ["value"] (spP RWidth)) (FL : Fn P w K mg base "is_listed" 1 ["value"] (spP RListed)) (FI : Fn P w K mg base "is_integer" 1 ["value"] (spP RInt)) (FP : Fn P w K mg base "is_powers" 3 ["width", "value"] (spP RPow)) (FO : Fn P w K mg base "of_dict" 4 ["found"] (spP RPolOf)) : Fn P w K mg base "told_poly" 5 ["width", "terms"] (spP RTol) :=
  fn_blk (k := 4) D scTO (fun ds d h => by obtain ⟨_, _, _, _, rfl, _⟩ := h; rfl) (fun kV doc pm an cdv ct us hl => by
    match us, hl with
    | [a, b], _ => rfl) fun f cdv A outer s H G hr ds d h => by
    obtain ⟨wd, p, kk, es, rfl, hp, hrow, hw0, hw1, hpl, rfl⟩ := h
    have hu1 : (cxB P w K mg base tolN "told_poly" (topS 35) f cdv A outer s H G).A.units + 1 < cLine := room_u1 hr
    refine bk_drop (ef_e (e_call FW (hr.mono (by decide)) (by rfl) (as_cons (e_name 0 rfl (.inl rfl) rfl) as_nil) ⟨_, rfl, hw0, hw1, rfl⟩)) ?_
    refine bk_if1 (B := fun z => z = false) (tf_t ((t_not (t_val (e_call FL (hr.mono (by decide)) (by rfl) (as_cons (e_name 1 rfl (.inl rfl) rfl) as_nil) ⟨kk, es, rfl, rfl⟩))).eq rfl)) (fun z => nomatch z) fun _ => ?_
    refine bk_own (i := 2) scTO.nd rfl (.inl rfl) en_dict rfl (by show 2 < 4; decide) ?_
    refine bk_for (ts := [3]) (fun i ρ μ => ρ = [some (.int wd), some (seqD kk es), none, none] ∧ μ 2 = some (.dct (kiD (kiOf (p.take i)))) ∧ ∀ j, j ≠ 2 → μ j = none) PassesOwn.never rfl
      (pg_name (i := 3) scTO.nd rfl (Or.inl rfl)) (it_seq (e_name 1 rfl (.inl rfl) rfl)) ⟨rfl, mu_same, fun j h => by rw [mu_ne h]⟩ (fun i d ρi μi hd hI => ?_) fun ρ' μ' hI => ?_
    · obtain ⟨rfl, h0, hμ⟩ := hI
      obtain ⟨t, ht, k1, k2, rfl⟩ := hp.nth hd
      have htm := List.mem_of_getElem? ht
      obtain ⟨hl, hb⟩ := hrow t htm
      refine ⟨_, gt_name (by simp), fun t ht => hμ t (by simp at ht; omega), ?_⟩
      have n3 : ∀ q, E (cxB P w K mg base tolN "told_poly" (topS 35) f cdv A outer s H G) [some (.int wd), some (seqD kk es), none, some (seqD k1 [.int t.1, seqD k2 (t.2.map .int)])] (.Name "term" q) (seqD k1 [.int t.1, seqD k2 (t.2.map .int)]) := fun q => e_name 3 rfl (.inl rfl) rfl
      refine bk_if1 (B := fun z => z = false) (tf_t ((tw_or (k := false) (l := false) ((t_not (t_val (e_call FL (hr.mono (by decide)) (by rfl) (as_cons (n3 _) as_nil) ⟨k1, _, rfl, rfl⟩))).eq rfl) fun _ => tw_or (k := false) (l := false) ((t_neI (e_len (k := k1) (by rfl) ml (n3 _)) e_int).eq rfl) fun _ =>
        tw_or (k := false) (l := false) ((t_not (t_val (e_call FI (hr.mono (by decide)) (by rfl) (as_cons (e_ix (k := k1) (n3 _) e_int rfl) as_nil) ⟨t.1, rfl, rfl⟩))).eq rfl) fun _ => tw_or1 ((t_not (t_val (e_call FP (hr.mono (by decide)) (by rfl) (as_cons (e_name 0 rfl (.inl rfl) rfl) (as_cons (e_ix (k := k1) (n3 _) e_int rfl) as_nil)) ⟨wd, k2, t.2, rfl, hl, hb, hw1, rfl⟩))).eq rfl)).t.eq rfl)) (fun z => nomatch z) fun _ => ?_
      have hlen := kiOf_len (p.take i)
      rw [List.length_take] at hlen
      generalize hm : kiOf (p.take i) = m at h0 hlen
      refine bk_dput (i := 2) (kvs := kiD m) (pw := t.2) (μ1 := μi) (A1 := fun d => d = .int (kiGet m t.2 + t.1)) hu1 ?_ h0 rfl (.inl rfl) ((e_tupOf (k := k2) (by rfl) mt (e_ix (k := k1) (n3 _) e_int rfl)).eq (pw_tup t.2)) (by rw [kiD_len]; omega) fun d hd => ?_
      · refine ef_mono (ef_add (P := fun k => k = kiGet m t.2) (P' := fun k => k = t.1) (ef_mono (ef_dget (i := 2) (kvs := kiD m) (p := t.2) hu1 h0 rfl (.inl rfl) ((e_tupOf (k := k2) (by rfl) mt (e_ix (k := k1) (n3 _) e_int rfl)).eq (pw_tup t.2)) e_int) fun d h => ⟨_, h.trans (kvGet_kiD _ _), rfl⟩)
            (ef_int (e_ix (k := k1) (n3 _) e_int rfl))) fun d h => ?_
        obtain ⟨k, rfl, x, y, rfl, rfl, rfl⟩ := h
        rfl
      · subst hd
        refine bk_forget (ρ' := [some (.int wd), some (seqD kk es), none, none]) (by repeat (first | exact .nil | refine .keep ?_ | refine .drop ?_)) (bk_nil ⟨rfl, ?_, fun j h => ?_⟩)
        · rw [mu_same, kvPut_kiD, ← hm, take_snoc ht, kiOf_append (p.take i)]
          rfl
        · rw [mu_ne h]; exact hμ j h
    · obtain ⟨rfl, h0, hμ⟩ := hI
      rw [hp.length, List.take_length] at h0
      refine bk_lock (i := 2) h0 ?_
      have hlen := kiOf_len p
      exact bk_ret (ef_e (e_call FO hr (by rfl) (as_cons (e_name 2 rfl (.inl rfl) rfl) as_nil) ⟨_, rfl, by omega, kiOf_nd _, rfl⟩)) fun d hd => hd
end
end R1

set_option Elab.async false
set_option linter.all false
set_option maxRecDepth 100000
set_option maxHeartbeats 4000000
/-! K00W23: the law's own polynomials. -/
namespace R1
open PySem PySem.Spec PyProof.Rows L2 Evl
abbrev mixN : List Str := ["pen", "some", "left", "found"]
theorem scMX : FnScope mixN ["pen", "some"] (defScope (topS 43)) := ⟨rfl, rfl, rfl, by decide +kernel, rfl, by decide +kernel, by decide +kernel⟩
theorem scLD : FnScope ["poly", "coefficient", "powers"] ["poly"] (defScope (topS 44)) := ⟨rfl, rfl, rfl, by decide +kernel, rfl, by decide +kernel, by decide +kernel⟩
abbrev plusN : List Str := ["one", "other", "times", "found", "coefficient", "powers"]
theorem scLP : FnScope plusN ["one", "other", "times"] (defScope (topS 46)) := ⟨rfl, rfl, rfl, by decide +kernel, rfl, by decide +kernel, by decide +kernel⟩
abbrev timN : List Str := ["one", "other", "found", "coefficient", "powers", "its", "more", "whole", "mine", "their"]
theorem scLT : FnScope timN ["one", "other"] (defScope (topS 47)) := ⟨rfl, rfl, rfl, by decide +kernel, rfl, by decide +kernel, by decide +kernel⟩
theorem scLU : FnScope ["width", "at", "spot"] ["width", "at"] (defScope (topS 49)) := ⟨rfl, rfl, rfl, by decide +kernel, rfl, by decide +kernel, by decide +kernel⟩
abbrev lputN : List Str := ["poly", "polys", "width", "found", "coefficient", "powers", "whole", "one", "count", "lap"]
theorem scLPu : FnScope lputN ["poly", "polys", "width"] (defScope (topS 50)) := ⟨rfl, rfl, rfl, by decide +kernel, rfl, by decide +kernel, by decide +kernel⟩
/-! ### a draw told by a list that may change -/
theorem RpAll.scal {I J : Hp} : ∀ {vs : List V} {ds : List PyData}, (∀ d ∈ ds, Scal d) → RpAll I vs ds → RpAll J vs ds
  | _, _, _, .nil => .nil
  | _, _, h, .cons a b => .cons (a.scal (h _ (.head _))) (b.scal fun d hd => h d (.tail _ hd))
theorem ef_drawP {X : Cx} {ρ : Ro} {μ : Mo} {es : List Expr} {ds ls : List PyData} {x y : Str} {pos p p2 : Pos} {i j n cost k : Nat} {ps : List Str} {Pre : List PyData → Prop} {Rr : List PyData → PyData → Prop} (F : Fn X.prog X.w X.K X.mg X.base x k ps (spD cost Pre Rr)) (hr : Room k X.A) (hg : Gl X x) (hi : μ i = some (.pen n)) (hN : X.N[i]? = some y) (hv : Vis X.env.scope y)
    (hj : μ j = some (.lst ls)) (hb : n + cost ≤ penMax) (ha : As X (ρ.set j (some (.list ls))) es ds) (hsc : ∀ d ∈ ds, Scal d) (hp : Pre ds) (hdb : (x == ("__debug__" : Str)) = false := by decide) (hd : (y == ("__debug__" : Str)) = false := by decide) (hcd : (y == ("__classdict__" : Str)) = false := by decide)
    (he : starEach (.Name y p2 :: es) X.env = (false, eval (.Name y p2) X.env) :: starEach es X.env := by rfl) (hpl : (backTo pos (starEach es X.env)).any (·.1) = false := by rfl) :
    Ef X ρ μ (.Call (.Name x p) (.Name y p2 :: es) [] pos) (Rr ds) (mu μ i (some (.pen (n + cost)))) := fun S I0 H0 I H σ α G Q q => by
  obtain ⟨hs, hm, hn, _, _⟩ := G.m i _ hi
  refine we_call F hr hg (wa_of (pa_cons pe_we pa_wa he) ?_) hdb he hpl
  refine we_of (pe_var hN hv hd hcd) ⟨.ref (α i), hs, ?_⟩
  obtain ⟨J, j1, j2, vs⟩ := G.peek hj
  refine ha J σ H j2 vs _ fun us I1 H1 n1 r1 => ?_
  have n' := Nw.cut j1 n1
  have G1 := G.step n'
  obtain ⟨_, hm1, hn1, _, _⟩ := G1.m i _ hi
  exact ⟨_, α i, us, ds, n, rfl, G1.e, hm1, hn1, hb, r1.scal hsc, hp, fun v d I2 H2 x2 m2 z2 r2 p2 => q v d I2 H2 (G1.drawn hi x2 m2 z2) (n'.i.trans x2.i) r2 p2⟩
def PreMixed (ds : List PyData) : Prop := ∃ es : List PyData, ds = [.list es] ∧ es.length ≤ 20 ∧ ∀ d ∈ es, Shp d
def RMixed (ds : List PyData) (d : PyData) : Prop := ∃ es es' : List PyData, ds = [.list es] ∧ d = .list es' ∧ es'.Perm es
theorem erase_perm {α : Type} : ∀ {l : List α} {i : Nat} {x : α}, l[i]? = some x → (x :: l.eraseIdx i).Perm l
  | [], _, _, h => by simp at h
  | y :: l, 0, x, h => by
    simp at h
    subst h
    exact .refl _
  | y :: l, i + 1, x, h => by
    have h1 := erase_perm (l := l) (i := i) (by simpa using h)
    show (x :: y :: l.eraseIdx i).Perm (y :: l)
    exact (List.Perm.swap y x _).trans (h1.cons y)
/-! ### dicts of pairs -/
theorem ldict_go : ∀ (p : List Tm) (m : KI), (p.map fun t => ((t.2, PyData.int t.1) : List Int × PyData)).foldl (fun a q => kvPut a q.1 q.2) (kiD m) = kiD (p.foldl (fun m t => kiPut m t.2 t.1) m)
  | [], m => rfl
  | t :: p, m => by
    show (p.map fun t => ((t.2, PyData.int t.1) : List Int × PyData)).foldl _ (kvPut (kiD m) t.2 (.int t.1)) = _
    rw [kvPut_kiD]
    exact ldict_go p (kiPut m t.2 t.1)
theorem ldict_fold {p : List Tm} (h : (p.map (·.2)).Nodup) : kvAll (p.map fun t => ((t.2, PyData.int t.1) : List Int × PyData)) = kiD (kiOf p) := by
  have e := ldict_go p []
  rw [put_add p [] (by rw [List.map_nil, List.nil_append]; exact h)] at e
  exact e
def RPlus (ds : List PyData) (d : PyData) : Prop := ∃ (p q : List Tm) (k : Int), ds = [polD p, polD q, .int k] ∧ (p.map (·.2)).Nodup ∧ p.length + q.length ≤ 1000 ∧ Fit k ∧ nrm q < 2 ^ 20000 ∧ d = polD (cano (p ++ sclP k q))
def RUnk (ds : List PyData) (d : PyData) : Prop := ∃ w i : Nat, ds = [.int w, .int i] ∧ w ≤ 100 ∧ d = polD (unkP w i)
def RLPut (ds : List PyData) (d : PyData) : Prop := ∃ (p : List Tm) (ps : List (List Tm)) (w L M : Nat), ds = [polD p, .list (ps.map polD), .int w] ∧ Len ps.length p ∧ Pos0 p ∧ (∀ t ∈ p, t.2.sum ≤ 3) ∧ p.length ≤ 10 ∧ nrm p * M ^ 3 < 2 ^ 20000 ∧ (∀ q ∈ ps, Len w q ∧ q.length ≤ L ∧ nrm q ≤ M) ∧
  1 ≤ L ∧ L ≤ 4 ∧ 1 ≤ M ∧ M ^ 3 < 2 ^ 20000 ∧ w ≤ 100 ∧ ps.length ≤ 100 ∧ d = polD (cano (putP w p ps))
theorem eqv_scl1 (p : List Tm) : sclP 1 p = p := by
  unfold sclP
  conv => rhs; rw [← List.map_id p]
  refine List.map_congr_left fun t _ => ?_
  show ((1 : Int) * t.1, t.2) = t
  rw [Int.one_mul]
theorem eqv_num (w : Nat) (c : Int) : Eqv (numP w c) (conP w c) := fun φ => by
  unfold numP
  by_cases h : c = 0
  · rw [if_pos h, h]
    show (0 : Int) = pev [(0, List.replicate w 0)] φ
    rw [pev_cons, pev_nil, Int.zero_mul, Int.zero_add]
  · rw [if_neg h]
section
variable {P : Program} {w : World} {K : PySem.W.Frag} {mg : Str → Option Value} {base : Heap} {k : Nat}
theorem fn_mixed (D : Dfn K mg "_law_mixed" (topS 43)) (ml : mg "len" = none) (mL : mg "list" = none) (FD : Fn P w K mg base "_law_draw" 1 ["pen", "many"] (spD 1 PreMany RMany)) : Fn P w K mg base "_law_mixed" 2 ["pen", "some"] (spD 20 PreMixed RMixed) :=
  fn_draw (k := 1) D scMX (fun ds h => by obtain ⟨m, rfl, _⟩ := h; rfl) (fun kV doc pm an cdv ct us hl => by
    match us, hl with
    | [a, b], _ => rfl) fun f cdv A outer s H G hr ds n h hn => by
    obtain ⟨es, rfl, hl, hsh⟩ := h
    have hn' : n + 20 ≤ 1048576 := hn
    refine bk_raise (i := 0) (m := n + (20 - es.length)) rfl (by omega) ?_
    refine bk_parOwn2 (i := 2) (j := 3) rfl scMX.nd rfl rfl (by decide) rfl rfl (en_listOf (k := false) (by rfl) mL (e_name 1 rfl (.inl rfl) rfl)) (en_lst as_nil (by show 0 ≤ 100000; decide)) rfl rfl (by show 2 < 4; decide) (by show 3 < 4; decide) ?_
    refine bk_while (m0 := es.length) (fun m ρ μ => ∃ lf fd : List PyData, ρ = [none, some (.list es), none, none] ∧ μ 0 = some (.pen (n + (20 - m))) ∧ μ 2 = some (.lst lf) ∧ μ 3 = some (.lst fd) ∧ (∀ i, i ≠ 0 → i ≠ 2 → i ≠ 3 → μ i = none) ∧ lf.length = m ∧ (fd ++ lf).Perm es)
      (fun m ρ μ z => z = decide (0 < m)) PassesOwn.never ⟨es, [], rfl, by rw [mu_ne (by decide), mu_ne (by decide), mu_same], by rw [mu_ne (by decide), mu_same], mu_same, fun i h0 h2 h3 => by rw [mu_ne h3, mu_ne h2, mu_ne h0]; exact if_neg h0, rfl, .refl _⟩
      (fun m ρj μj hI => ?_) (fun m ρj μj hI hB => ?_) fun m ρj μj hI hB => ?_
    · obtain ⟨lf, fd, rfl, h0, h2, h3, hμ, hm, hp⟩ := hI
      refine tf_peek (i := 2) h2 ((t_neD hr.units (e_name 2 rfl (.inl rfl) rfl) (e_lst (x1 := 0) as_nil (by show 0 ≤ 100000; decide)) (shaped_list fun d hd => hsh d (hp.mem_iff.mp (List.mem_append_right _ hd))) (shaped_ints [])).eq ?_)
      cases lf with
      | nil => rw [← hm]; rfl
      | cons x lf => rw [← hm]; rfl
    · obtain ⟨lf, fd, rfl, h0, h2, h3, hμ, hm, hp⟩ := hI
      have hm0 : 0 < m := of_decide_eq_true hB.symm
      have hlen := hp.length_eq
      rw [List.length_append] at hlen
      refine bk_appendPop (i := 3) (j := 2) (μ1 := mu μj 0 (some (.pen (n + (20 - m) + 1)))) (Pk := fun r => 0 ≤ r ∧ r < (lf.length : Int)) (by decide) h3 h2 rfl (.inl rfl) rfl (.inl rfl) (ef_mono (ef_drawP (i := 0) (j := 2) (n := n + (20 - m)) FD hr (by rfl) h0 rfl (.inl rfl) h2 (by show n + (20 - m) + 1 ≤ 1048576; omega) (as_cons (e_len (k := false) (by rfl) ml (e_name 2 rfl (.inl rfl) rfl)) as_nil) (fun d hd => by rw [List.mem_singleton.mp hd]; trivial) ⟨_, rfl, by omega, by omega⟩) fun d hd => ?_)
        (by rw [mu_ne (by decide)]; exact h3) (by rw [mu_ne (by decide)]; exact h2) (fun n h => h) (by omega) (by omega) fun r d hr' => ?_
      · obtain ⟨mm, r, e, rfl, r0, r1⟩ := hd
        injection e with e
        injection e with e
        subst e
        exact ⟨r, rfl, r0, r1⟩
      · have hrl : r < lf.length := (List.getElem?_eq_some_iff.mp hr').1
        refine bk_nil ⟨m - 1, by omega, lf.eraseIdx r, fd ++ [d], rfl, ?_, ?_, mu_same, fun i h0 h2 h3 => ?_, ?_, ?_⟩
        · rw [mu_ne (by decide), mu_ne (by decide), mu_same]
          congr 2
          omega
        · rw [mu_ne (by decide), mu_same]
        · rw [mu_ne h3, mu_ne h2, mu_ne h0]
          exact hμ i h0 h2 h3
        · rw [List.length_eraseIdx, if_pos hrl, hm]
        · rw [List.append_assoc]
          exact ((erase_perm hr').append_left fd).trans hp
    · obtain ⟨lf, fd, rfl, h0, h2, h3, hμ, hm, hp⟩ := hI
      have hm0 : m = 0 := by have := of_decide_eq_false hB.symm; omega
      subst hm0
      have e0 : lf = [] := List.eq_nil_of_length_eq_zero hm
      subst e0
      rw [List.append_nil] at hp
      refine bk_freeze (i := 3) h3 ?_
      refine bk_ret (ef_e (e_name 3 rfl (.inl rfl) rfl)) fun d hd => ⟨⟨es, fd, rfl, hd, hp⟩, ?_⟩
      rw [mu_ne (by decide)]
      exact h0
theorem fn_ldict (D : Dfn K mg "_law_dict" (topS 44)) (md : mg "dict" = none) (mt : mg "tuple" = none) : Fn P w K mg base "_law_dict" 1 ["poly"] (spN RAsD) :=
  fn_new (k := 0) D scLD (fun ds d h => by obtain ⟨p, rfl, _⟩ := h; rfl) (fun kV doc pm an cdv ct us hl => by
    match us, hl with
    | [a], _ => rfl) fun f cdv A outer s H G hr ds md' h => by
    obtain ⟨p, rfl, hnd, hl, rfl⟩ := h
    refine bn_ret ?_
    rw [← ldict_fold hnd]
    refine en_dictOf hr.units rfl (by rfl) md ((e_lc (own := [("coefficient", 1), ("powers", 2)]) (g := gTup K 2 (gCons (gName 1) (gCons (gName 2) gNil))) (F := fun d => .tuple [sndD d, fstD d]) (ρ' := fun d => ((wipeR [some (polD p), none, none] [1, 2]).set 1 (some (fstD d))).set 2 (some (sndD d))) rfl scLD.nd
      (blkOk_by (own := [("coefficient", 1), ("powers", 2)]) (N := ["poly", "coefficient", "powers"]) (sc := defScope (topS 44)) (by decide +kernel)) (fun _ _ _ _ _ => pg_tup rfl (pgs_cons (pg_name (i := 1) scLD.nd rfl (Or.inl rfl)) (pgs_cons (pg_name (i := 2) scLD.nd rfl (Or.inl rfl)) pgs_nil))) (it_tup (e_name 0 rfl (.inl rfl) rfl)) (fun d hd => ?_) (fun d hd => ?_) (by rw [List.length_map]; omega)).eq ?_)
    · obtain ⟨t, ht, rfl⟩ := List.mem_map.mp hd
      exact gt_tup2 (by simp) (by simp)
    · obtain ⟨t, ht, rfl⟩ := List.mem_map.mp hd
      intro s0 H0 C cl fp
      exact e_tup (as_cons ((e_tupOf (k := true) (by rfl) mt (e_name 2 rfl (.inl rfl) rfl)).eq rfl) (as_cons (e_name 1 rfl (.inl rfl) rfl) as_nil)) (by show 2 ≤ 100000; decide)
    · rw [List.map_map, List.map_map]
      rfl
theorem fn_plus (D : Dfn K mg "_law_plus" (topS 46)) (FA : Fn P w K mg base "_law_dict" 1 ["poly"] (spN RAsD)) (FO : Fn P w K mg base "_law_poly" 1 ["found"] (spP RPolOf)) : Fn P w K mg base "_law_plus" 2 ["one", "other", "times"] (spP RPlus) :=
  fn_blk (k := 1) D scLP (fun ds d h => by obtain ⟨p, q, c, rfl, _⟩ := h; rfl) (fun kV doc pm an cdv ct us hl => by
    match us, hl with
    | [a, b, c], _ => rfl) fun f cdv A outer s H G hr ds d h => by
    obtain ⟨p, q, kk, rfl, hnd, hl, hk, hq, rfl⟩ := h
    have hu1 : (cxB P w K mg base plusN "_law_plus" (topS 46) f cdv A outer s H G).A.units + 1 < cLine := room_u1 hr
    refine bk_own (i := 3) scLP.nd rfl (.inl rfl) (en_call FA (hr.mono (by decide)) (by rfl) (as_cons (e_name 0 rfl (.inl rfl) rfl) as_nil) ⟨p, rfl, hnd, by omega, rfl⟩) rfl (by show 3 < 6; decide) ?_
    refine bk_for (ts := [4, 5]) (fun i ρ μ => ρ = [some (polD p), some (polD q), some (.int kk), none, none, none] ∧ μ 3 = some (.dct (kiD (kiOf (p ++ sclP kk (q.take i))))) ∧ ∀ j, j ≠ 3 → μ j = none) PassesOwn.never rfl
      (pg_tup rfl (pgs_cons (pg_name (i := 4) scLP.nd rfl (Or.inl rfl)) (pgs_cons (pg_name (i := 5) scLP.nd rfl (Or.inl rfl)) pgs_nil))) (it_tup (e_name 1 rfl (.inl rfl) rfl)) ⟨rfl, by rw [mu_same]; show _ = some (MD.dct (kiD (kiOf (p ++ [])))); rw [List.append_nil], fun j h => by rw [mu_ne h]⟩ (fun i d ρi μi hd hI => ?_) fun ρ' μ' hI => ?_
    · obtain ⟨rfl, h0, hμ⟩ := hI
      obtain ⟨t, ht, rfl⟩ := get_map hd
      refine ⟨_, gt_tup2 (by simp) (by simp), fun t ht => hμ t (by simp at ht; omega), ?_⟩
      have hlen := kiOf_len (p ++ sclP kk (q.take i))
      rw [List.length_append] at hlen
      have hlen2 : (sclP kk (q.take i)).length ≤ q.length := by unfold sclP; rw [List.length_map, List.length_take]; exact Nat.min_le_right _ _
      generalize hm : kiOf (p ++ sclP kk (q.take i)) = m at h0 hlen
      refine bk_dput (i := 3) (kvs := kiD m) (pw := t.2) (μ1 := μi) (A1 := fun d => d = .int (kiGet m t.2 + kk * t.1)) hu1 ?_ h0 rfl (.inl rfl) (e_name 5 rfl (.inl rfl) rfl) (by rw [kiD_len]; omega) fun d hd => ?_
      · refine ef_mono (ef_add (P := fun k => k = kiGet m t.2) (P' := fun k => k = kk * t.1) (ef_mono (ef_dget (i := 3) (kvs := kiD m) (p := t.2) hu1 h0 rfl (.inl rfl) (e_name 5 rfl (.inl rfl) rfl) e_int) fun d h => ⟨_, h.trans (kvGet_kiD _ _), rfl⟩)
            (ef_int (e_mulX (e_name 2 rfl (.inl rfl) rfl) (e_name 4 rfl (.inl rfl) rfl) (fit_mul hk (fit_nrm hq t (List.mem_of_getElem? ht)))))) fun d h => ?_
        obtain ⟨k, rfl, x, y, rfl, rfl, rfl⟩ := h
        rfl
      · subst hd
        refine bk_forget (ρ' := [some (polD p), some (polD q), some (.int kk), none, none, none]) (by repeat (first | exact .nil | refine .keep ?_ | refine .drop ?_)) (bk_nil ⟨rfl, ?_, fun j h => ?_⟩)
        · rw [mu_same, kvPut_kiD, ← hm, take_snoc ht]
          unfold sclP
          rw [List.map_append, ← List.append_assoc, kiOf_append (p ++ _)]
          rfl
        · rw [mu_ne h]; exact hμ j h
    · obtain ⟨rfl, h0, hμ⟩ := hI
      rw [List.length_map, List.take_length] at h0
      refine bk_lock (i := 3) h0 ?_
      have hlen := kiOf_len (p ++ sclP kk q)
      rw [List.length_append] at hlen
      have hlen2 : (sclP kk q).length = q.length := List.length_map _
      exact bk_ret (ef_e (e_call FO hr (by rfl) (as_cons (e_name 3 rfl (.inl rfl) rfl) as_nil) ⟨_, rfl, by omega, kiOf_nd _, rfl⟩)) fun d hd => hd
theorem fn_times (D : Dfn K mg "_law_times" (topS 47)) (mt : mg "tuple" = none) (mz : mg "zip" = none) (FO : Fn P w K mg base "_law_poly" 1 ["found"] (spP RPolOf)) : Fn P w K mg base "_law_times" 2 ["one", "other"] (spP RProd) :=
  fn_blk (k := 1) D scLT (fun ds d h => by obtain ⟨p, q, rfl, _⟩ := h; rfl) (fun kV doc pm an cdv ct us hl => by
    match us, hl with
    | [a, b], _ => rfl) fun f cdv A outer s H G hr ds d h => by
    obtain ⟨p, q, rfl, hl, hpl, hql, hp, hq, hrow, rfl⟩ := h
    have hu1 : (cxB P w K mg base timN "_law_times" (topS 47) f cdv A outer s H G).A.units + 1 < cLine := room_u1 hr
    refine bk_own (i := 2) scLT.nd rfl (.inl rfl) en_dict rfl (by show 2 < 10; decide) ?_
    refine bk_for (ts := [3, 4]) (fun i ρ μ => ρ = [some (polD p), some (polD q), none, none, none, none, none, none, none, none] ∧ μ 2 = some (.dct (kiD (kiOf (mulP (p.take i) q)))) ∧ ∀ j, j ≠ 2 → μ j = none) PassesOwn.never rfl
      (pg_tup rfl (pgs_cons (pg_name (i := 3) scLT.nd rfl (Or.inl rfl)) (pgs_cons (pg_name (i := 4) scLT.nd rfl (Or.inl rfl)) pgs_nil))) (it_tup (e_name 0 rfl (.inl rfl) rfl)) ⟨rfl, mu_same, fun j h => by rw [mu_ne h]⟩ (fun i d ρi μi hd hI => ?_) fun ρ' μ' hI => ?_
    · obtain ⟨rfl, h0, hμ⟩ := hI
      obtain ⟨t, ht, rfl⟩ := get_map hd
      have htm := List.mem_of_getElem? ht
      have hi : i < p.length := (List.getElem?_eq_some_iff.mp ht).1
      refine ⟨_, gt_tup2 (by simp) (by simp), fun t ht => hμ t (by simp at ht; omega), ?_⟩
      refine bk_for (ts := [5, 6]) (fun j ρ μ => ρ = [some (polD p), some (polD q), none, some (.int t.1), some (pwD t.2), none, none, none, none, none] ∧ μ 2 = some (.dct (kiD (kiOf (mulP (p.take i) q ++ (q.take j).map fun u => ((t.1 * u.1, zadd u.2 t.2) : Tm))))) ∧ ∀ j, j ≠ 2 → μ j = none) PassesOwn.never rfl
        (pg_tup rfl (pgs_cons (pg_name (i := 5) scLT.nd rfl (Or.inl rfl)) (pgs_cons (pg_name (i := 6) scLT.nd rfl (Or.inl rfl)) pgs_nil))) (it_tup (e_name 1 rfl (.inl rfl) rfl)) ⟨rfl, by rw [h0]; show _ = some (MD.dct (kiD (kiOf (mulP (p.take i) q ++ [])))); rw [List.append_nil], hμ⟩ (fun j d ρj μj hd hI => ?_) fun ρ' μ' hI => ?_
      · obtain ⟨rfl, h0, hμ⟩ := hI
        obtain ⟨u, hu, rfl⟩ := get_map hd
        have hum := List.mem_of_getElem? hu
        refine ⟨_, gt_tup2 (by simp) (by simp), fun t ht => hμ t (by simp at ht; omega), ?_⟩
        have hzl : (zadd t.2 u.2).length ≤ 1000 := by
          unfold zadd
          rw [List.length_zipWith]
          exact Nat.le_trans (Nat.min_le_left _ _) (hrow t htm)
        refine bk_set (i := 7) scLT.nd rfl (.inl rfl) (ef_e ((e_tupOf (k := false) (by rfl) mt (e_lc (own := [("mine", 8), ("their", 9)]) (g := gTup K 2 (gCons (gName 8) (gCons (gName 9) gNil))) (F := addD)
          (ρ' := fun d => ((wipeR [some (polD p), some (polD q), none, some (.int t.1), some (pwD t.2), some (.int u.1), some (pwD u.2), none, none, none] [8, 9]).set 8 (some (fstD d))).set 9 (some (sndD d))) rfl scLT.nd (blkOk_by (own := [("mine", 8), ("their", 9)]) (N := timN) (sc := defScope (topS 47)) (by decide +kernel))
          (fun _ _ _ _ _ => pg_tup rfl (pgs_cons (pg_name (i := 8) scLT.nd rfl (Or.inl rfl)) (pgs_cons (pg_name (i := 9) scLT.nd rfl (Or.inl rfl)) pgs_nil))) (it_zip (k := true) (l := true) (by rfl) mz (e_name 4 rfl (.inl rfl) rfl) (e_name 6 rfl (.inl rfl) rfl)) (fun d hd => ?_) (fun d hd => ?_) (by rw [pairs_len, List.length_map, List.length_map]; have := hrow t htm; omega))).eq (show _ = pwD (zadd u.2 t.2) by rw [addD_pairs, zadd_comm]))) fun d hd => ?_
        · obtain ⟨q, hq, rfl⟩ := List.mem_map.mp hd
          exact gt_tup2 (by simp) (by simp)
        · rw [pairs_ints] at hd
          obtain ⟨q, hq, rfl⟩ := List.mem_map.mp hd
          intro s0 H0 C cl fp
          exact e_add (e_name 8 rfl (.inl rfl) rfl) (e_name 9 rfl (.inl rfl) rfl)
        · subst hd
          have hlen := kiOf_len (mulP (p.take i) q ++ (q.take j).map fun u => ((t.1 * u.1, zadd u.2 t.2) : Tm))
          rw [List.length_append, mulP_len, List.length_take, List.length_map, List.length_take] at hlen
          have hlen2 : min i p.length * q.length ≤ p.length * q.length := Nat.mul_le_mul_right _ (Nat.min_le_right _ _)
          have hm0 : mu μj 7 none 2 = some (.dct (kiD (kiOf (mulP (p.take i) q ++ (q.take j).map fun u => ((t.1 * u.1, zadd u.2 t.2) : Tm))))) := by rw [mu_ne (by decide)]; exact h0
          generalize hm : kiOf (mulP (p.take i) q ++ (q.take j).map fun u => ((t.1 * u.1, zadd u.2 t.2) : Tm)) = m at hm0 hlen
          refine bk_dput (i := 2) (kvs := kiD m) (pw := zadd u.2 t.2) (μ1 := mu μj 7 none) (A1 := fun d => d = .int (kiGet m (zadd u.2 t.2) + t.1 * u.1)) hu1 ?_ hm0 rfl (.inl rfl) (e_name 7 rfl (.inl rfl) rfl) (by rw [kiD_len]; omega) fun d hd => ?_
          · refine ef_mono (ef_add (P := fun k => k = kiGet m (zadd u.2 t.2)) (P' := fun k => k = t.1 * u.1) (ef_mono (ef_dget (i := 2) (kvs := kiD m) (p := zadd u.2 t.2) hu1 hm0 rfl (.inl rfl) (e_name 7 rfl (.inl rfl) rfl) e_int) fun d h => ⟨_, h.trans (kvGet_kiD _ _), rfl⟩)
              (ef_int (e_mulX (e_name 3 rfl (.inl rfl) rfl) (e_name 5 rfl (.inl rfl) rfl) (fit_mul (fit_nrm hp t htm) (fit_nrm hq u hum))))) fun d h => ?_
            obtain ⟨k, rfl, x, y, rfl, rfl, rfl⟩ := h
            rfl
          · subst hd
            refine bk_forget (ρ' := [some (polD p), some (polD q), none, some (.int t.1), some (pwD t.2), none, none, none, none, none]) (by repeat (first | exact .nil | refine .keep ?_ | refine .drop ?_)) (bk_nil ⟨rfl, ?_, fun j h => ?_⟩)
            · rw [mu_same, kvPut_kiD, ← hm, take_snoc hu, List.map_append, ← List.append_assoc, kiOf_append (mulP (p.take i) q ++ _)]
              rfl
            · rw [mu_ne h]
              by_cases h7 : j = 7
              · rw [h7, mu_same]
              · rw [mu_ne h7]; exact hμ j h
      · obtain ⟨rfl, h0, hμ⟩ := hI
        refine bk_forget (ρ' := [some (polD p), some (polD q), none, none, none, none, none, none, none, none]) (by repeat (first | exact .nil | refine .keep ?_ | refine .drop ?_)) (bk_nil ⟨rfl, ?_, hμ⟩)
        rw [h0, List.length_map, List.take_length, take_snoc ht, mulP_snoc]
    · obtain ⟨rfl, h0, hμ⟩ := hI
      rw [List.length_map, List.take_length] at h0
      refine bk_lock (i := 2) h0 ?_
      have hlen := kiOf_len (mulP p q)
      rw [mulP_len] at hlen
      exact bk_ret (ef_e (e_call FO hr (by rfl) (as_cons (e_name 2 rfl (.inl rfl) rfl) as_nil) ⟨_, rfl, by omega, kiOf_nd _, rfl⟩)) fun d hd => hd
theorem fn_unk (D : Dfn K mg "_law_unknown" (topS 49)) (mt : mg "tuple" = none) (mr : mg "range" = none) (mi : mg "int" = none) : Fn P w K mg base "_law_unknown" 1 ["width", "at"] (spP RUnk) :=
  fn_pure (k := 0) D scLU (fun ds d h => by obtain ⟨p, q, rfl, _⟩ := h; rfl) (fun kV doc pm an cdv ct us hl => by
    match us, hl with
    | [a, b], _ => rfl) fun f cdv A outer s H G hr ds d h => by
    obtain ⟨wd, i, rfl, hw, rfl⟩ := h
    refine bd_ret ((e_tup (as_cons (e_tup (as_cons e_int (as_cons (e_tupOf (k := false) (by rfl) mt (e_lc (own := [("spot", 2)]) (g := gName 2) (F := fun d => .int (if zD d = (i : Int) then 1 else 0)) (ρ' := fun d => (wipeR _ [2]).set 2 (some d)) rfl scLU.nd (blkOk_by (own := [("spot", 2)]) (N := ["width", "at", "spot"]) (sc := defScope (topS 49)) (by decide +kernel))
      (fun _ _ _ _ _ => pg_name (i := 2) scLU.nd rfl (Or.inl rfl)) (it_range1 (by rfl) mr (e_name 0 rfl (.inl rfl) rfl)) (fun d _ => gt_name (by simp)) (fun d hd => ?_) (by rw [upto_len]; omega))) as_nil)) (by show 2 ≤ 100000; decide)) as_nil) (by show 1 ≤ 100000; decide)).eq ?_)
    · obtain ⟨n, hn, rfl⟩ := List.mem_map.mp hd
      intro s0 H0 C cl fp
      refine (e_intB (by rfl) mi (e_eqI (e_name 2 rfl (.inl rfl) rfl) (e_name 1 rfl (.inr (.inl rfl)) rfl))).eq ?_
      by_cases h : (0 + (n : Int)) = (i : Int)
      · rw [decide_eq_true h]
        show PyData.int 1 = .int (if (0 + (n : Int)) = (i : Int) then 1 else 0)
        rw [if_pos h]
      · rw [decide_eq_false h]
        show PyData.int 0 = .int (if (0 + (n : Int)) = (i : Int) then 1 else 0)
        rw [if_neg h]
    · show PyData.tuple [.tuple [.int 1, .tuple _]] = PyData.tuple [.tuple [.int 1, .tuple ((unit wd i).map .int)]]
      congr 4
      unfold upto unit
      rw [List.map_map, List.map_map]
      have e : ((wd : Int)).toNat = wd := by omega
      rw [e]
      refine congrArg (fun z => [PyData.tuple z]) (List.map_congr_left fun n _ => ?_)
      show PyData.int (if (0 + (n : Int)) = (i : Int) then 1 else 0) = PyData.int (if n = i then 1 else 0)
      by_cases h : n = i
      · rw [if_pos h, if_pos (by omega)]
      · rw [if_neg h, if_neg (by omega)]
end
end R1

set_option Elab.async false
set_option linter.all false
set_option maxRecDepth 100000
set_option maxHeartbeats 4000000
/-! K00W24: _law_put. -/
namespace R1
open PySem PySem.Spec PyProof.Rows L2 Evl
theorem zip_get {α β : Type} : ∀ {a : List α} {b : List β} {i : Nat} {x : α} {y : β}, (a.zip b)[i]? = some (x, y) → a[i]? = some x ∧ b[i]? = some y
  | [], _, _, _, _, h => by simp at h
  | _ :: _, [], _, _, _, h => by simp at h
  | a :: as, b :: bs, 0, x, y, h => by
    simp at h
    exact ⟨by simp [h.1], by simp [h.2]⟩
  | a :: as, b :: bs, i + 1, x, y, h => by
    have := zip_get (a := as) (b := bs) (i := i) (x := x) (y := y) (by simpa using h)
    simpa using this
theorem powP_len {w : Nat} {q : List Tm} {L : Nat} (h : q.length ≤ L) : ∀ m, (powP w q m).length ≤ L ^ m
  | 0 => Nat.le_refl 1
  | m + 1 => by
    show (mulP (powP w q m) q).length ≤ _
    rw [mulP_len, Nat.pow_succ]
    exact Nat.mul_le_mul (powP_len h m) h
theorem eqv_mul_one {w : Nat} {p : List Tm} (h : Len w p) : Eqv p (mulP p (oneP w)) := ((eqv_comm _ _).trans (eqv_one h)).symm
section
variable {P : Program} {w : World} {K : PySem.W.Frag} {mg : Str → Option Value} {base : Heap} {k : Nat}
theorem fn_lput (D : Dfn K mg "_law_put" (topS 50)) (mz : mg "zip" = none) (mr : mg "range" = none) (FC : Fn P w K mg base "_law_constant" 1 ["width", "number"] (spP RCon)) (FT : Fn P w K mg base "_law_times" 2 ["one", "other"] (spP RProd)) (FP : Fn P w K mg base "_law_plus" 2 ["one", "other", "times"] (spP RPlus)) : Fn P w K mg base "_law_put" 3 ["poly", "polys", "width"] (spP RLPut) :=
  fn_blk (k := 2) D scLPu (fun ds d h => by obtain ⟨p, ps, w, L, M, rfl, _⟩ := h; rfl) (fun kV doc pm an cdv ct us hl => by
    match us, hl with
    | [a, b, c], _ => rfl) fun f cdv A outer s H G hr ds d h => by
    obtain ⟨p, ps, wd, L, M, rfl, hlen, hpos, hdeg, hpl, hpn, hps, hL1, hL4, hM1, hM3, hw, hpsl, rfl⟩ := h
    refine bk_set (i := 3) scLPu.nd rfl (.inl rfl) (ef_e (e_tup as_nil (by show 0 ≤ 100000; decide))) fun d hd => ?_
    subst hd
    refine bk_for (ts := [4, 5]) (fun j ρ μ => ∃ F : List Tm, ρ = [some (polD p), some (.list (ps.map polD)), some (.int wd), some (polD F), none, none, none, none, none, none] ∧ (∀ i, μ i = none) ∧ F = cano F ∧ Eqv F (putP wd (p.take j) ps) ∧ F.length ≤ 64 * j) PassesOwn.never rfl
      (pg_tup rfl (pgs_cons (pg_name (i := 4) scLPu.nd rfl (Or.inl rfl)) (pgs_cons (pg_name (i := 5) scLPu.nd rfl (Or.inl rfl)) pgs_nil))) (it_tup (e_name 0 rfl (.inl rfl) rfl)) ⟨[], rfl, mu_all fun _ => rfl, cano_nil.symm, Eqv.refl _, Nat.le_refl _⟩ (fun j d ρj μj hd hI => ?_) fun ρ' μ' hI => ?_
    · obtain ⟨F, rfl, hμ, hF, eF, bF⟩ := hI
      obtain ⟨t, ht, rfl⟩ := get_map hd
      have htm := List.mem_of_getElem? ht
      have hj : j < p.length := (List.getElem?_eq_some_iff.mp ht).1
      have htl := hlen t htm
      have htp := hpos t htm
      have hsN : sN t.2 ≤ 3 := by
        have := hdeg t htm
        rw [← sN_sum htp] at this
        omega
      have hcM : ∀ a, a ≤ 3 → t.1.natAbs * M ^ a < 2 ^ 20000 := fun a ha => Nat.lt_of_le_of_lt (Nat.mul_le_mul (nrm_mem htm) (pow_le hM1 ha)) hpn
      refine ⟨_, gt_tup2 (by simp) (by simp), fun t ht => hμ t, ?_⟩
      refine bk_set (i := 6) scLPu.nd rfl (.inl rfl) (ef_e (e_call FC (hr.mono (by decide)) (by rfl) (as_cons (e_name 2 rfl (.inl rfl) rfl) (as_cons (e_name 4 rfl (.inl rfl) rfl) as_nil)) ⟨wd, t.1, rfl, hw, rfl⟩)) fun d hd => ?_
      subst hd
      have hn0 : (numP wd t.1).length ≤ 1 ∧ nrm (numP wd t.1) ≤ t.1.natAbs ∧ Len wd (numP wd t.1) := by
        unfold numP
        by_cases h : t.1 = 0
        · rw [if_pos h]; exact ⟨Nat.zero_le _, Nat.zero_le _, fun t ht => nomatch ht⟩
        · rw [if_neg h]; exact ⟨Nat.le_refl 1, Nat.le_refl _, len_con wd _⟩
      refine bk_for (ts := [7, 8]) (fun i ρ μ => ∃ W : List Tm, ρ = [some (polD p), some (.list (ps.map polD)), some (.int wd), some (polD F), some (.int t.1), some (pwD t.2), some (polD W), none, none, none] ∧ (∀ i, μ i = none) ∧
          Eqv W (putM wd (ps.take i) (t.2.take i) (conP wd t.1)) ∧ Len wd W ∧ W.length ≤ L ^ sN (t.2.take i) ∧ nrm W ≤ t.1.natAbs * M ^ sN (t.2.take i)) PassesOwn.never rfl
        (pg_tup rfl (pgs_cons (pg_name (i := 7) scLPu.nd rfl (Or.inl rfl)) (pgs_cons (pg_name (i := 8) scLPu.nd rfl (Or.inl rfl)) pgs_nil))) (it_zip (k := false) (l := true) (by rfl) mz (e_name 1 rfl (.inl rfl) rfl) (e_name 5 rfl (.inl rfl) rfl))
        ⟨_, rfl, mu_all hμ, eqv_num wd t.1, hn0.2.2, hn0.1, by show _ ≤ t.1.natAbs * 1; rw [Nat.mul_one]; exact hn0.2.1⟩ (fun i d ρi μi hd hI => ?_) fun ρ' μ' hI => ?_
      · obtain ⟨W, rfl, hμ, eW, lW, bW, mW⟩ := hI
        obtain ⟨qn, hqn, rfl⟩ : ∃ qn : List Tm × Int, (ps.zip t.2)[i]? = some qn ∧ PyData.tuple [polD qn.1, .int qn.2] = d := by
          unfold pairs at hd
          rw [List.zip_map, List.map_map] at hd
          exact get_map hd
        obtain ⟨q, n⟩ := qn
        obtain ⟨hq, hn⟩ := zip_get hqn
        have hqm := List.mem_of_getElem? hq
        have hn0 := htp n (List.mem_of_getElem? hn)
        obtain ⟨lq, bq, mq⟩ := hps q hqm
        have hsn := sN_snoc hn
        have hs1 := sN_le t.2 (i + 1)
        have hsnp := putM_snoc (w := wd) ps t.2 (conP wd t.1) i q n hq hn
        have hnN : n.toNat ≤ 3 := by omega
        refine ⟨_, gt_tup2 (by simp) (by simp), fun t ht => hμ t, ?_⟩
        refine bk_for (ts := [9]) (fun l ρ μ => ∃ W : List Tm, ρ = [some (polD p), some (.list (ps.map polD)), some (.int wd), some (polD F), some (.int t.1), some (pwD t.2), some (polD W), some (polD q), some (.int n), none] ∧ (∀ i, μ i = none) ∧
            Eqv W (mulP (putM wd (ps.take i) (t.2.take i) (conP wd t.1)) (powP wd q l)) ∧ Len wd W ∧ W.length ≤ L ^ (sN (t.2.take i) + l) ∧ nrm W ≤ t.1.natAbs * M ^ (sN (t.2.take i) + l)) PassesOwn.never rfl
          (pg_name (i := 9) scLPu.nd rfl (Or.inl rfl)) (it_range1 (by rfl) mr (e_name 8 rfl (.inl rfl) rfl) (by omega) (by omega)) ⟨W, rfl, hμ, eW.trans (eqv_mul_one (putM_len _ _ (fun x hx => (hps x (List.mem_of_mem_take hx)).1) (len_con wd _))), lW, bW, mW⟩ (fun l d ρl μl hd hI => ?_) fun ρ' μ' hI => ?_
        · obtain ⟨W, rfl, hμ, eW, lW, bW, mW⟩ := hI
          have hl : l < n.toNat := by
            have := (List.getElem?_eq_some_iff.mp hd).1
            rwa [upto_len] at this
          refine ⟨_, gt_name (by simp), fun t ht => hμ t, ?_⟩
          have hWl : W.length ≤ 64 := Nat.le_trans bW (le_pow3 hL1 hL4 (by omega))
          have hql : q.length ≤ 4 := Nat.le_trans bq hL4
          have hWn : nrm W < 2 ^ 20000 := Nat.lt_of_le_of_lt mW (hcM _ (by omega))
          have hqn2 : nrm q < 2 ^ 20000 := Nat.lt_of_le_of_lt mq (by have := lt_pow3 hM1 hM3 (show 1 ≤ 3 by decide); rwa [Nat.pow_one] at this)
          refine bk_set (i := 6) scLPu.nd rfl (.inl rfl) (ef_e (e_call FT hr (by rfl) (as_cons (e_name 6 rfl (.inl rfl) rfl) (as_cons (e_name 7 rfl (.inl rfl) rfl) as_nil)) ⟨W, q, rfl, ?_, by omega, by omega, hWn, hqn2, fun t ht => by rw [lW t ht]; omega, rfl⟩)) fun d hd => ?_
          · exact Nat.le_trans (Nat.mul_le_mul hWl hql) (by decide)
          · subst hd
            refine bk_forget (ρ' := [some (polD p), some (.list (ps.map polD)), some (.int wd), some (polD F), some (.int t.1), some (pwD t.2), some (polD (cano (mulP W q))), some (polD q), some (.int n), none]) (by repeat (first | exact .nil | refine .keep ?_ | refine .drop ?_)) (bk_nil ⟨_, rfl, mu_all hμ, ?_, (lW.mul lq).cano, ?_, ?_⟩)
            · exact (Eqv.cano _).trans ((eW.mul (Eqv.refl q)).trans (eqv_assoc _ _ _))
            · rw [← Nat.add_assoc, Nat.pow_succ]
              exact Nat.le_trans (cano_len _) (by rw [mulP_len]; exact Nat.mul_le_mul bW bq)
            · rw [← Nat.add_assoc, Nat.pow_succ, ← Nat.mul_assoc]
              exact Nat.le_trans (nrm_cano _) (by rw [nrm_mul]; exact Nat.mul_le_mul mW mq)
        · obtain ⟨W, rfl, hμ, eW, lW, bW, mW⟩ := hI
          rw [upto_len] at eW bW mW
          refine bk_forget (ρ' := [some (polD p), some (.list (ps.map polD)), some (.int wd), some (polD F), some (.int t.1), some (pwD t.2), some (polD W), none, none, none]) (by repeat (first | exact .nil | refine .keep ?_ | refine .drop ?_)) (bk_nil ⟨W, rfl, hμ, ?_, lW, ?_, ?_⟩)
          · rw [hsnp]; exact eW
          · rw [hsn]; exact bW
          · rw [hsn]; exact mW
      · obtain ⟨W, rfl, hμ, eW, lW, bW, mW⟩ := hI
        have hzl : (pairs (ps.map polD) (t.2.map PyData.int)).length = ps.length := by rw [pairs_len, List.length_map, List.length_map, htl, Nat.min_self]
        rw [hzl, List.take_length, ← htl, List.take_length] at eW
        rw [hzl, ← htl, List.take_length] at bW mW
        have hWl : W.length ≤ 64 := Nat.le_trans bW (le_pow3 hL1 hL4 hsN)
        have hWn : nrm W < 2 ^ 20000 := Nat.lt_of_le_of_lt mW (hcM _ hsN)
        refine bk_set (i := 3) scLPu.nd rfl (.inl rfl) (ef_e (e_call FP hr (by rfl) (as_cons (e_name 3 rfl (.inl rfl) rfl) (as_cons (e_name 6 rfl (.inl rfl) rfl) (as_cons e_int as_nil))) ⟨F, W, 1, rfl, by rw [hF]; exact cano_nd F, by omega, by unfold Fit; decide +kernel, hWn, rfl⟩)) fun d hd => ?_
        subst hd
        refine bk_forget (ρ' := [some (polD p), some (.list (ps.map polD)), some (.int wd), some (polD (cano (F ++ sclP 1 W))), none, none, none, none, none, none]) (by repeat (first | exact .nil | refine .keep ?_ | refine .drop ?_)) (bk_nil ⟨_, rfl, mu_all hμ, (cano_cano _).symm, ?_, ?_⟩)
        · rw [eqv_scl1]
          intro φ
          rw [pev_cano, pev_append, eF φ, eW φ, putP_snoc ht]
          congr 1
          exact putM_con t.1 ps t.2 (fun ψ => by
            show pev [(t.1, List.replicate wd 0)] ψ = t.1 * pev [(1, List.replicate wd 0)] ψ
            rw [pev_cons, pev_cons, pev_nil, Int.add_zero, Int.add_zero, Int.one_mul]) φ
        · have h1 := cano_len (F ++ sclP 1 W)
          rw [eqv_scl1, List.length_append] at h1
          rw [eqv_scl1]
          omega
    · obtain ⟨F, rfl, hμ, hF, eF, bF⟩ := hI
      rw [List.length_map, List.take_length] at eF
      refine bk_ret (ef_e (e_name 3 rfl (.inl rfl) rfl)) fun d hd => ?_
      rw [hd, hF, eF.eq]
end
end R1

set_option Elab.async false
set_option linter.all false
set_option maxRecDepth 100000
set_option maxHeartbeats 4000000
/-! K00W25: more rules over frames: arguments that draw, tests that draw, comprehensions over what is drawn. -/
namespace R1
open PySem PySem.Spec PyProof.Rows L2 Evl
/-- more draws may have been made: at an expression's end -/
theorem we_pens {X : Cx} {e : Expr} {σ : L2.St} {H : Hp} {Q : VK} (h : WE X e σ H fun v H' => ∃ (a c : Addr) (m n : Nat), H' a = some (.ext (penPhi a c m)) ∧ m ≤ n ∧ Q v (upd H' a (.ext (penPhi a c n)))) : WE X e σ H Q := fun pins s iv => by
  refine thn (h pins s iv) fun v s1 ⟨x, H1, i1, r1, a, c, m, n, ha, hmn, q⟩ => ?_
  obtain ⟨⟨at', rest', t, u, ep, hob, h1, h2⟩, _, _⟩ := i1.hok _ _ ha
  have i2 : Inv X pins σ (upd H1 a (.ext (penPhi a c n))) { s1 with heap := s1.heap, toks := s1.toks } := i1.write (x := a) (e := a) (h' := s1.heap) (t' := s1.toks) (by rw [ha]; trivial) (.inl rfl) (fun b v _ q => q) ⟨_, hob⟩
    ⟨⟨at', rest', t, u, ep, hob, h1, by omega⟩, ⟨_, hob⟩, fun h1 h2 ⟨a1, a2, a3, a4, a5, q, r⟩ k => ⟨a1, a2, a3, a4, a5, k _ q, r⟩⟩
  exact ⟨x, _, i2, r1, q⟩
section
variable {X : Cx} {ρ : Ro} {μ μ1 μ2 : Mo} {a b e : Expr} {es rest : List Expr} {d : PyData} {A B : PyData → Prop} {pos p : Pos} {x : Str} {k i : Nat} {ps : List Str} {Rr : List PyData → PyData → Prop}
theorem ef_raise {n m : Nat} (h : Ef X ρ μ e A μ1) (hi : μ1 i = some (.pen n)) (hnm : n ≤ m) : Ef X ρ μ e A (mu μ1 i (some (.pen m))) := fun S I0 H0 I H σ α F Q q => we_pens (h S I0 H0 I H σ α F _ fun v d I' H' F' x r hA => by
  obtain ⟨_, ⟨cc, cs, hc, hcs⟩, hn, _, _⟩ := F'.m i _ hi
  refine ⟨α i, cc, n, m, hc, hnm, q v d I' _ (F'.put hi (md' := .pen m) ⟨cc, cs, upd_same, hcs⟩ rfl) x r hA⟩)
/-- arguments that draw -/
def Af (X : Cx) (ρ : Ro) (μ : Mo) (es : List Expr) (R : List PyData → Prop) (μ' : Mo) : Prop := ∀ (S : Addr → Prop) (I0 H0 I H : Hp) (σ : L2.St) (α : Nat → Addr), Fr S I0 H0 I H σ ρ μ α → ∀ Q : List V → Hp → Prop,
  (∀ vs ds I' H', Fr S I0 H0 I' H' σ ρ μ' α → Ex I I' → RpAll I' vs ds → R ds → Q vs H') → WA X es σ H Q
theorem af_nil : Af X ρ μ [] (fun ds => ds = []) μ := fun S I0 H0 I H σ α F Q q => wa_of pa_nil (q [] [] I H F (Ex.refl I) .nil rfl)
theorem af_cons {R : List PyData → Prop} (h : Ef X ρ μ e A μ1) (hr : Af X ρ μ1 es R μ2) (hs : starEach (e :: es) X.env = (false, eval e X.env) :: starEach es X.env := by rfl) : Af X ρ μ (e :: es) (fun ds => ∃ d ds', ds = d :: ds' ∧ A d ∧ R ds') μ2 := fun S I0 H0 I H σ α F Q q =>
  wa_of (pa_cons pe_we pa_wa hs) (h S I0 H0 I H σ α F _ fun v d I1 H1 F1 x1 r1 hA => hr S I0 H0 I1 H1 σ α F1 _ fun vs ds I2 H2 F2 x2 r2 hR => q _ (d :: ds) I2 H2 F2 (x1.trans x2) (.cons (r1.up x2) r2) ⟨d, ds, rfl, hA, hR⟩)
theorem ef_callF {R : List PyData → Prop} (F : Fn X.prog X.w X.K X.mg X.base x k ps (spP Rr)) (hr : Room k X.A) (hg : Gl X x) (ha : Af X ρ μ (e :: es) R μ1) (h : ∀ ds, R ds → ∃ d', Rr ds d' ∧ B d') (hdb : (x == ("__debug__" : Str)) = false := by decide)
    (he : starEach (e :: es) X.env = (false, eval e X.env) :: starEach es X.env := by rfl) (hpl : (backTo pos (starEach es X.env)).any (·.1) = false := by rfl) : Ef X ρ μ (.Call (.Name x p) (e :: es) [] pos) B μ1 := fun S I0 H0 I H σ α F1 Q q => by
  refine we_call F hr hg ?_ hdb he hpl
  refine ha S I0 H0 I H σ α F1 _ fun vs ds I' H' F2 e2 r2 hA => ?_
  obtain ⟨d', hR, hB⟩ := h ds hA
  exact ⟨I', ds, d', F2.e, r2, hR, fun u I3 H3 n3 r3 => q u d' I3 H3 (F2.step n3) (e2.trans n3.i) r3 hB⟩
/-- a != b of data alike, told with draws -/
theorem tf_neD2 (hu : X.A.units + 64 < cLine) (ha : Ef X ρ μ a A μ1) (hb : Ef X ρ μ1 b B μ2) (h : ∀ d d', A d → B d' → SeqAt.shaped d = true ∧ SeqAt.shaped d' = true ∧ PyData.eqv d d' = true) : Tf X ρ μ (.Compare a [.NotEq] [b] pos) (fun z => z = false) μ2 := fun S I0 H0 I H σ α F Q k =>
  wt_of (pt_cmpR (op_neD hu) pe_we pe_we (nomark _)) (ha S I0 H0 I H σ α F _ fun x d I1 H1 F1 e1 r1 p1 => hb S I0 H0 I1 H1 σ α F1 _ fun y d' I2 H2 F2 e2 r2 p2 => by
    obtain ⟨s1, s2, he⟩ := h d d' p1 p2
    refine ⟨d, d', Rp.dp F2.e d (SeqAt.canLay_of_shaped s1) (r1.up e2), Rp.dp F2.e d' (SeqAt.canLay_of_shaped s2) r2, s1, s2, _, rfl, ?_⟩
    rw [he]
    exact k false I2 H2 F2 (e1.trans e2) rfl)
/-- a or b .., the first one draws, none holds -/
theorem tf_or (h : Tf X ρ μ a (fun z => z = false) μ1) (hb : TW X ρ (.BoolOp .Or (b :: rest) pos) false) : Tf X ρ μ (.BoolOp .Or (a :: b :: rest) pos) (fun z => z = false) μ1 := fun S I0 H0 I H σ α F Q q =>
  wt_of (pw_or (rest := rest) pt_wt pw_ww).pt (h S I0 H0 I H σ α F _ fun z I1 H1 F1 e1 hz => by
    subst hz
    rw [if_neg Bool.false_ne_true]
    exact hb I1 σ H1 F1.e F1.v _ fun I2 H2 n2 => q false I2 H2 (F1.step n2) (e1.trans n2.i) rfl)
def ITg (X : Cx) (ρ : Ro) (μ : Mo) (tg iter : Expr) (Pd : List PyData → Prop) (μ1 : Mo) : Prop := ∀ (S : Addr → Prop) (I0 H0 I H : Hp) (σ : L2.St) (α : Nat → Addr), Fr S I0 H0 I H σ ρ μ α → ∀ R : It → Hp → Prop,
  (∀ J ds I' H', Fr S I0 H0 I' H' σ ρ μ1 α → Ex I I' → ItOk J I' GT ds → Pd ds → R J H') → WI X tg iter σ H R
theorem itg_tup {tg iter : Expr} {Pd : List PyData → Prop} (h : Ef X ρ μ iter (fun d => ∃ ds, d = .tuple ds ∧ Pd ds) μ1) : ITg X ρ μ tg iter Pd μ1 := fun S I0 H0 I H σ α F R q pins s i => by
  refine (pi_tup (tg := tg) pe_we).run pins s σ H R i ?_
  refine h S I0 H0 I H σ α F _ fun v d I1 H1 F1 e1 r1 p1 => ?_
  obtain ⟨ds, rfl, hd⟩ := p1
  cases r1 with
  | tup ea ra => exact ⟨_, rfl, ⟨_, SqT.of (F1.e _ _ ea)⟩, q _ ds I1 H1 F1 e1 (itok_tup ea ra) hd⟩
end
section
variable {X : Cx} {ρ : Ro} {tg iter elt : Expr} {scope : Scope} {own : List (Str × Nat)} {pos : Pos} {g : TG} {ρ' : PyData → Ro} {Rel : PyData → PyData → Prop} {n n1 cost pn kk : Nat} {Pd : List PyData → Prop}
/-- [elt for .. in iter], the iterable draws, each elt draws -/
theorem ef_lcT (hc : X.calm = true) (hN : X.N.Nodup) (ok : BlkOk X.N X.env.scope scope own) (hg : PGb X scope tg g) (it : ITg X ρ (penMo pn n) tg iter Pd (penMo pn n1))
    (gt : ∀ ds d, Pd ds → d ∈ ds → Gt g (own.map (·.2)) (wipeR ρ (own.map (·.2))) d (ρ' d)) (hpn : pn ∉ own.map (·.2)) (he : ∀ ds d m, Pd ds → d ∈ ds → m + cost ≤ n1 + kk → Efb X scope (ρ' d) (penMo pn m) elt (Rel d) (penMo pn (m + cost))) (hl : ∀ ds, Pd ds → ds.length < 100000 ∧ ds.length * cost ≤ kk)
    (hs : ∀ x, foldedSetIterable iter X.env x = pure x := by intro _; rfl) : Ef X ρ (penMo pn n) (.ListComp elt [⟨tg, iter, [], 0⟩] scope pos) (fun d => ∃ ds es, Pd ds ∧ d = .list es ∧ AllR Rel ds es) (penMo pn (n1 + kk)) := fun S I0 H0 I H σ α F Q k => by
  refine we_pens (we_of (pe_lc (wi := WI X tg iter) (g := g) (tt := tYes) (te := WEb X scope elt) hc hN pi_wi ok hg (fun s H C cl fp => pts_nil) (fun s H C cl fp => ⟨fun pins s' σ H' Q I h => h s H C cl fp pins s' I⟩) hs) ?_)
  refine it S I0 H0 I H σ α F _ fun J ds I1 H1 F1 ex1 ok1 pd D hD => ?_
  obtain ⟨hl1, hl2⟩ := hl ds pd
  obtain ⟨hsl, hm1, hi1, _, _⟩ := F1.m pn _ penMo_same
  have hD0 : I1 D = none := fresh_back F1.e hD
  have hDp : D ≠ α pn := fun z => by
    obtain ⟨c, cs, e, _⟩ := hm1
    rw [← z, hD] at e
    cases e
  have hsw : (L2.wipe σ (own.map (·.2)))[pn]? = some (some (.ref (α pn))) := by
    rw [wipe_get, if_neg fun z => hpn z.1]
    exact hsl
  refine ⟨fun i m H' => m = ds.length - i ∧ i ≤ ds.length ∧ ∃ I2 acc es, Nx (fun b => b = α pn) I1 H1 I2 H' ∧ MdAt I2 H' (α pn) (.pen (n1 + i * cost)) ∧ I2 (α pn) = none ∧ I2 D = none ∧ H' D = some (.lst acc) ∧ RpAll I2 acc es ∧ AllR Rel (ds.take i) es, ⟨ds.length, rfl, Nat.zero_le _, I1, [], [], ?_⟩, ?_⟩
  · refine ⟨(Nw.own (o := .lst []) F1.e hD).nx, ?_, hi1, hD0, upd_same, .nil, .nil⟩
    rw [Nat.zero_mul]
    exact (hm1.keep hi1 (Nw.own (o := .lst []) F1.e hD)).1
  · rintro i m H2 ⟨rfl, hi, I2, acc, es, x2, m2, z2, d2, a2, r2, q2⟩
    by_cases hlt : i < ds.length
    · refine .inr ⟨ok1.go i I2 H2 x2.i x2.j trivial hlt, fun H' => ∃ I2 acc es, Nx (fun b => b = α pn) I1 H1 I2 H' ∧ MdAt I2 H' (α pn) (.pen (n1 + (i + 1) * cost)) ∧ I2 (α pn) = none ∧ I2 D = none ∧ H' D = some (.lst acc) ∧ RpAll I2 acc es ∧ AllR Rel (ds.take (i + 1)) es,
        fun H' p' => ⟨ds.length - (i + 1), by omega, rfl, hlt, p'⟩, fun x H3 y => ?_⟩
      obtain ⟨I3, d, n3, hd, rd⟩ := ok1.yld i I2 H2 x H3 x2.i x2.j trivial hlt y
      have hmem : d ∈ ds := List.mem_of_getElem? hd
      refine (gt ds d pd hmem).run I3 (L2.wipe σ (own.map (·.2))) H3 x n3.j ((F1.v.up (x2.i.trans n3.i)).wipe _) rd _ ?_
      intro σ2 vs2 ag hl2
      refine ⟨wipe_same ag hl2, ?_⟩
      have D3 := n3.keep a2 d2
      have P3 := m2.keep z2 n3
      unfold tYes
      dsimp only
      rw [if_pos rfl]
      intro s0 H0' C cl fp
      have hle : n1 + i * cost + cost ≤ n1 + kk := by
        have : (i + 1) * cost ≤ ds.length * cost := Nat.mul_le_mul_right _ hlt
        rw [Nat.succ_mul] at this
        omega
      have G := fr_pen (ρ := ρ' d) (pn := pn) n3.j vs2 (by rw [ag pn hpn]; exact hsw) P3.1 P3.2
      refine he ds d (n1 + i * cost) pd hmem hle s0 H0' C cl fp _ I3 H3 I3 H3 σ2 _ G _ fun v5 e5 I5 H5 G5 x5 r5 rel5 => ?_
      have D5h : H5 D = some (.lst acc) := G5.x.h D _ hDp D3.1
      have D5i : I5 D = none := G5.x.k D D3.2 ⟨_, D3.1, by intro _ w; cases w⟩
      obtain ⟨_, p5, i5, _, _⟩ := G5.m pn _ penMo_same
      have hlen : acc.length < sizeLine := by
        rw [r2.length, q2.length, List.length_take]
        exact sz_lt (by omega)
      refine ⟨acc, D5h, hlen, I5, acc ++ [v5], es ++ [e5], ?_, ?_, i5, D5i, upd_same, (r2.up (n3.i.trans x5)).snoc r5, ?_⟩
      · have x35 := (x2.trans n3.nx).trans G5.x
        refine ⟨x35.i, ex_mut x35.j D5i, fun a o ns e => ?_, fun a e => ?_, fun a e => ?_, x35.k⟩
        · have ha : a ≠ D := fun w => by rw [w, hD] at e; cases e
          rw [upd_ne ha]
          exact x35.h a o ns e
        · have ha : a ≠ D := fun w => e (by rw [w]; exact hD)
          rw [upd_ne ha]
          exact x35.s a e
        · have ha : a ≠ D := e.ne hD
          obtain ⟨o, w, t⟩ := x35.t a e
          exact ⟨o, by rw [upd_ne ha]; exact w, t⟩
      · obtain ⟨c, cs, u, w⟩ := p5
        rw [Nat.succ_mul, ← Nat.add_assoc]
        exact ⟨c, cs, by rw [upd_ne hDp.symm]; exact u, w⟩
      · rw [List.take_add_one, hd]
        exact q2.snoc rel5
    · have e : i = ds.length := by omega
      subst e
      rw [List.take_length] at q2
      have nw : Nx (fun b => b = α pn) I1 H1 (upd I2 D (.lst acc)) H2 := by
        refine ⟨x2.i.trans (Ex.new d2), fun a o q => ?_, x2.h, x2.s, x2.t, fun a e z => ?_⟩
        · by_cases h : a = D
          · subst h; rw [upd_same] at q; rw [a2]; exact q
          · rw [upd_ne h] at q; exact x2.j a o q
        · rw [upd_ne (z.ne hD)]
          exact x2.k a e z
      refine .inl ⟨ok1.stop I2 H2 x2.i x2.j trivial, ?_⟩
      have F2 := F1.drawn (m := n1 + ds.length * cost) penMo_same nw ?_ (by rw [upd_ne hDp.symm]; exact z2)
      · rw [penMo_mu] at F2
        obtain ⟨_, ⟨cc, cs, hcc, hcs⟩, hn, _, _⟩ := F2.m pn _ penMo_same
        have F3 := F2.put (i := pn) (md := .pen (n1 + ds.length * cost)) (md' := .pen (n1 + kk)) penMo_same ⟨cc, cs, upd_same, hcs⟩ rfl
        rw [penMo_mu] at F3
        exact ⟨α pn, cc, _, n1 + kk, hcc, by omega, k _ _ _ _ F3 (ex1.trans nw.i) (.lst upd_same (r2.up (Ex.new d2))) ⟨ds, es, pd, rfl, q2⟩⟩
      · obtain ⟨c, cs, u, w⟩ := m2
        exact ⟨c, cs, u, Ex.new d2 _ _ w⟩
end
end R1

set_option Elab.async false
set_option linter.all false
set_option maxRecDepth 100000
set_option maxHeartbeats 4000000
/-! K00W26: the law: what it calls, what is drawn. -/
namespace R1
open PySem PySem.Spec PyProof.Rows L2 Evl
abbrev lawN : List Str := ["script", "pen", "turn", "width", "one", "other", "mine", "its", "terms", "wide", "small", "polys", "due", "numbers", "units", "lap", "coefficient", "powers", "at", "poly", "number", "term", "degree"]
theorem scLaw : FnScope lawN ["script"] (defScope (topS 56)) := ⟨rfl, rfl, rfl, by decide +kernel, rfl, by decide +kernel, by decide +kernel⟩
/-- what may change: the state of draws alone -/
abbrev PM (n : Nat) : Mo := penMo 1 n
theorem pm_set {n i : Nat} (h : i ≠ 1) : mu (PM n) i none = PM n := penMo_forget h
theorem pm_draw {n m : Nat} : mu (PM n) 1 (some (.pen m)) = PM m := penMo_mu
theorem pm_at {n : Nat} : PM n 1 = some (.pen n) := penMo_same
theorem pm_none {n i : Nat} (h : i ≠ 1) : PM n i = none := if_neg h
def spLaw (K : PySem.W.Frag) : Sp := fun vs H Q _ => ∃ (a : Addr) (ns : List Int), vs = [.ref a] ∧ SqL K H a (ns.map V.int) ∧ ns.length ≤ 63 ∧ ∀ H', Q (.bl true) H'
structure LawFns (P : Program) (w : World) (K : PySem.W.Frag) (mg : Str → Option Value) (base : Heap) : Prop where
  pen : Fn P w K mg base "_law_pen" 1 ["script"] (spPen K)
  draw : Fn P w K mg base "_law_draw" 1 ["pen", "many"] (spD 1 PreMany RMany)
  pick : Fn P w K mg base "_law_pick" 2 ["pen", "some"] (spD 1 PrePick RPick)
  mixed : Fn P w K mg base "_law_mixed" 2 ["pen", "some"] (spD 20 PreMixed RMixed)
  number : Fn P w K mg base "_law_number" 3 ["pen"] (spD 3 (fun ds => ds = []) RNum)
  drawn : Fn P w K mg base "_law_drawn" 4 ["pen", "width", "degree", "terms"] (spD 41 PreDrawn RDrawn)
  told : Fn P w K mg base "_law_told_otherwise" 2 ["pen", "poly"] (spD 100 PreTold RTold)
  poly : Fn P w K mg base "_law_poly" 1 ["found"] (spP RPolOf)
  plus : Fn P w K mg base "_law_plus" 2 ["one", "other", "times"] (spP RPlus)
  times : Fn P w K mg base "_law_times" 2 ["one", "other"] (spP RProd)
  con : Fn P w K mg base "_law_constant" 1 ["width", "number"] (spP RCon)
  unk : Fn P w K mg base "_law_unknown" 1 ["width", "at"] (spP RUnk)
  lput : Fn P w K mg base "_law_put" 3 ["poly", "polys", "width"] (spP RLPut)
  worth : Fn P w K mg base "_law_worth" 1 ["poly", "numbers"] (spP RWorthX)
  added : Fn P w K mg base "added" 7 threeN (spP (RAdd 1))
  lessened : Fn P w K mg base "lessened" 7 threeN (spP (RAdd (-1)))
  mult : Fn P w K mg base "multiplied" 7 threeN (spP RMul)
  dmult : Dfn K mg "multiplied" (topS 33)
  tol : Fn P w K mg base "told_poly" 5 ["width", "terms"] (spP RTol)
  dtol : Dfn K mg "told_poly" (topS 35)
  ins : Fn P w K mg base "inserted" 8 ["width", "poly", "polys", "wide"] (spP RIns)
  whole : Fn P w K mg base "whole_worth" 7 ["width", "poly", "numbers"] (spP RWholeX)
  isp : Fn P w K mg base "is_poly" 5 ["width", "value"] (spP RPolyB)
structure LawBlt (mg : Str → Option Value) : Prop where
  range : mg "range" = none
  sum : mg "sum" = none
  sorted : mg "sorted" = none
  tuple : mg "tuple" = none
  list : mg "list" = none
  dict : mg "dict" = none
  int : mg "int" = none
  zip : mg "zip" = none
abbrev lawBody : List Stmt := defBody (topS 56)
def turnBody : List Stmt := match lawBody with
  | _ :: .For _ _ b _ _ :: _ => b
  | _ => []
def compOf : Stmt → Scope
  | .Assign _ (.ListComp _ _ sc _) _ => sc
  | _ => defScope (topS 56)
def onesScope : Scope := match turnBody with
  | _ :: s :: _ => compOf s
  | _ => defScope (topS 56)
/-- the scope of the outer comprehension as it stands in the law's own one -/
def onesCell : Scope := { onesScope with names := onesScope.names.map fun (n, k) => if (k == NameKind.free && (defScope (topS 56)).kind == .function && (defScope (topS 56)).names.lookup n == some .cell) then (n, NameKind.cell) else (n, k) }
def innerOf : Stmt → Scope
  | .Assign _ (.ListComp (.Call _ [.Call _ [.ListComp _ _ sc _] _ _] _ _) _ _ _) _ => sc
  | _ => defScope (topS 56)
def innerScope : Scope := match turnBody with
  | _ :: s :: _ => innerOf s
  | _ => defScope (topS 56)
/-! ### what is drawn -/
theorem le_sum : ∀ {l : List Int} {x : Int}, (∀ y ∈ l, 0 ≤ y) → x ∈ l → x ≤ l.sum
  | y :: l, x, h, hx => by
    have h0 := h y (.head _)
    have hl : 0 ≤ l.sum := by
      have : ∀ l : List Int, (∀ y ∈ l, 0 ≤ y) → 0 ≤ l.sum := by
        intro l
        induction l with
        | nil => intro _; exact Int.le_refl 0
        | cons z l ih =>
          intro h
          have h1 := h z (.head _)
          have h2 := ih fun y hy => h y (.tail _ hy)
          rw [List.sum_cons]
          omega
      exact this l fun y hy => h y (.tail _ hy)
    rw [List.sum_cons]
    rcases List.mem_cons.mp hx with rfl | hx
    · omega
    · have := le_sum (fun y hy => h y (.tail _ hy)) hx
      omega
theorem nrmK_le {m : KI} {B : Nat} (h : ∀ q ∈ m, q.2.natAbs ≤ B) : nrmK m ≤ m.length * B := by
  induction m with
  | nil => exact Nat.zero_le _
  | cons q m ih =>
    have h1 := h q (.head _)
    have h2 := ih fun x hx => h x (.tail _ hx)
    show q.2.natAbs + nrmK m ≤ (m.length + 1) * B
    rw [Nat.add_mul, Nat.one_mul]
    omega
/-- a drawn polynomial: so many unknowns, of such a degree at most, so many terms -/
structure Dr (w : Nat) (dg : Int) (n M : Nat) (p : List Tm) : Prop where
  g : Good (w : Int) p
  l : p.length ≤ n
  s : ∀ t ∈ p, t.2.sum ≤ dg
  m : nrm p ≤ M
  c : cano p = p
theorem dr_of {w : Nat} {dg : Int} {n B : Nat} {m : KI} (hw : w ≤ 3) (hd : dg ≤ 6) (hn : n ≤ 5) (nd : (m.map (·.1)).Nodup) (l : ∀ q ∈ m.map (·.1), q.length = w) (h0 : ∀ q ∈ m.map (·.1), ∀ x ∈ q, 0 ≤ x) (s : ∀ q ∈ m.map (·.1), q.sum ≤ dg) (len : m.length ≤ n) (v : ∀ q ∈ m, q.2.natAbs ≤ B) : Dr w dg n (n * B) (polOf m) := by
  have hl := polOf_len m
  have key : ∀ t ∈ polOf m, t.2 ∈ m.map (·.1) := fun t ht => List.mem_map.mpr ⟨_, (polOf_mem nd ht).2, rfl⟩
  refine ⟨⟨fun t ht => ⟨(polOf_mem nd ht).1, by rw [l _ (key t ht)], fun x hx => ?_⟩, polOf_desc nd, by omega, by omega, by omega⟩, by omega, fun t ht => s _ (key t ht), ?_, polOf_self nd⟩
  · have h1 := h0 _ (key t ht)
    have h2 := le_sum h1 hx
    have h3 := s _ (key t ht)
    have h4 := h1 x hx
    omega
  · rw [nrm_polOf nd]
    exact Nat.le_trans (nrmK_le v) (Nat.mul_le_mul_right _ len)
theorem dr_keys {w : Nat} {dg tm : Int} {m : KI} (hw : w ≤ 3) (hd : dg ≤ 6) (ht : tm ≤ 5) (hk : Keys w dg tm m) : Dr w dg tm.toNat (tm.toNat * 50) (polOf m) :=
  dr_of hw hd (by omega) hk.nd hk.l hk.n hk.s (by have := hk.len; omega) fun q hq => by have := hk.v q hq; omega
section
variable {P : Program} {w : World} {K : PySem.W.Frag} {mg : Str → Option Value} {base : Heap} {k : Nat}
variable {f : Addr} {cdv : Value} {A : Around} {outer : List Env} {s : Shared} {H : Hp} {G : XK}
abbrev lawX (P : Program) (w : World) (K : PySem.W.Frag) (mg : Str → Option Value) (base : Heap) (f : Addr) (cdv : Value) (A : Around) (outer : List Env) (s : Shared) (H : Hp) (G : XK) : Cx := cxB P w K mg base lawN "law" (topS 56) f cdv A outer s H G
abbrev ρ0 : Ro := [none, none, none, none, none, none, none, none, none, none, none, none, none, none, none, none, none, none, none, none, none, none, none]
abbrev Rlaw (d : PyData) (_ : Mo) : Prop := d = .bool true
/-- one, other: great coefficients -/
abbrev Big (w : Nat) (p : List Tm) : Prop := Dr w 4 5 (5 * (50 * 10 ^ 40)) p
/-- width, one, other -/
theorem turn_draw (F : LawFns P w K mg base) (B : LawBlt mg) (hr : Room 8 (lawX P w K mg base f cdv A outer s H G).A) {n j : Nat} (hn : n + 300 ≤ 1048576)
    {N : Ro → Mo → Prop}
    (next : ∀ (wd : Nat) (p q : List Tm), wd ≤ 3 → Big wd p → Big wd q → Bk (lawX P w K mg base f cdv A outer s H G) ((((ρ0.set 2 (some (.int (0 + (j : Int))))).set 3 (some (.int wd))).set 4 (some (polD p))).set 5 (some (polD q))) (PM (n + 113)) (turnBody.drop 2) N Rlaw) :
    Bk (lawX P w K mg base f cdv A outer s H G) (ρ0.set 2 (some (.int (0 + (j : Int))))) (PM n) turnBody N Rlaw := by
  have hu : (lawX P w K mg base f cdv A outer s H G).A.units + 64 < cLine := hr.units
  refine bk_set (i := 3) scLaw.nd rfl (.inr rfl) (ef_draw (i := 1) F.draw (hr.mono (by decide)) (by rfl) pm_at rfl (.inr (.inl rfl)) (by show n + 1 ≤ 1048576; omega) (as_cons e_int as_nil) ⟨_, rfl, by decide, by decide⟩) fun d hd => ?_
  obtain ⟨m, wd, e, rfl, w0, w1⟩ := hd
  injection e with e
  injection e with e
  subst e
  rw [pm_draw, pm_set (by decide)]
  obtain ⟨wd, rfl⟩ : ∃ v : Nat, wd = (v : Int) := ⟨wd.toNat, by omega⟩
  have hw3 : wd ≤ 3 := by omega
  refine bk_unl2 (i := 4) (j := 5) (P := fun a b => ∃ p q, Big wd p ∧ Big wd q ∧ a = polD p ∧ b = polD q) rfl scLaw.nd rfl rfl (.inl rfl) (.inl rfl) (ef_lc (pn := 1) (cost := 56) (n := n + 1) (own := [("lap", 15)]) (g := gName 15) (ds := upto 0 (2 : Int).toNat) (Rel := fun _ e => ∃ p, Big wd p ∧ e = polD p)
    (ρ' := fun d => (wipeR ((ρ0.set 2 (some (.int (0 + (j : Int))))).set 3 (some (.int wd))) [15]).set 15 (some d)) rfl scLaw.nd (blkOk_by (own := [("lap", 15)]) (N := lawN) (sc := defScope (topS 56)) (by decide +kernel))
    (fun _ _ _ _ _ => pg_name (i := 15) scLaw.nd rfl (Or.inl rfl)) (it_range1 (by rfl) B.range e_int) (fun d _ => gt_name (by simp)) (by decide) (fun d m hd hm => ?_) (by rw [upto_len]; decide)) (fun d hd => ?_) fun a b hab => ?_
  · rw [upto_len] at hm
    have hm2 : m + 56 ≤ n + 1 + 2 * 56 := hm
    intro s0 H0 C cl fp
    refine ef_mono (ef_call1 (A := fun d => ∃ kvs : List (List Int × PyData), d = kvD (kvAll kvs) ∧ ∃ m0 m1 : KI, Keys wd 4 5 m0 ∧ kvs = kiD m1 ∧ m1.map (·.1) = (polOf m0).map (·.2) ∧ ∀ q ∈ m1, q.2.natAbs ≤ 50 * 10 ^ 40) (B := fun d => ∃ p, Big wd p ∧ d = polD p) F.poly (hr.mono (by decide)) (by rfl)
      (ef_dictOf (by exact hu) rfl (by rfl) B.dict (ef_mono (ef_lcT (pn := 1) (cost := 3) (n := m) (n1 := m + 41) (kk := 15) (own := [("coefficient", 16), ("powers", 17)]) (g := gTup K 2 (gCons (gName 16) (gCons (gName 17) gNil))) (Pd := fun ds => ∃ m0, Keys wd 4 5 m0 ∧ ds = (polOf m0).map tmD)
          (Rel := fun d e => ∀ t, d = tmD t → t.1.natAbs ≤ 50 → ∃ i : Int, e = .tuple [pwD t.2, .int i] ∧ i.natAbs ≤ 50 * 10 ^ 40)
          (ρ' := fun d' => ((wipeR ((wipeR ((ρ0.set 2 (some (.int (0 + (j : Int))))).set 3 (some (.int wd))) [15]).set 15 (some d)) [16, 17]).set 16 (some (fstD d'))).set 17 (some (sndD d'))) rfl scLaw.nd (blkOk_by (own := [("coefficient", 16), ("powers", 17)]) (N := lawN) (sc := onesCell) (scope := innerScope) (by decide +kernel))
          (fun _ _ _ _ _ => pg_tup rfl (pgs_cons (pg_name (i := 16) scLaw.nd rfl (Or.inl rfl)) (pgs_cons (pg_name (i := 17) scLaw.nd rfl (Or.inl rfl)) pgs_nil))) (itg_tup ?_) (fun ds d hp hd => ?_) (by decide) (fun ds d m' hp hd hm' => ?_) (fun ds hp => ?_)) fun d hd => ?_)) fun d hd => ?_) fun d hd => hd
    · have e1 := penMo_mu (pn := 1) (n := m) (m := m + 41)
      rw [← e1]
      refine ef_mono (ef_draw (i := 1) (n := m) F.drawn (hr.mono (by decide)) (by rfl) penMo_same rfl (.inr (.inl rfl)) (by show m + 41 ≤ 1048576; omega) (as_cons (e_name 3 rfl (.inr (.inl rfl)) rfl) (as_cons e_int (as_cons e_int as_nil))) ⟨(wd : Int), 4, 5, rfl, by omega, by omega, by decide, by decide, by decide, by decide⟩) fun d hd => ?_
      obtain ⟨wd2, dg, tm, m0, e, hk, rfl⟩ := hd
      injection e with e e2
      injection e with e
      injection e2 with e2 e3
      injection e2 with e2
      injection e3 with e3
      injection e3 with e3
      subst e e2 e3
      exact ⟨_, rfl, m0, hk, rfl⟩
    · obtain ⟨m0, hk, rfl⟩ := hp
      obtain ⟨t, ht, rfl⟩ := List.mem_map.mp hd
      exact gt_tup2 (by simp) (by simp)
    · obtain ⟨m0, hk, rfl⟩ := hp
      obtain ⟨t, ht, rfl⟩ := List.mem_map.mp hd
      have hc : t.1.natAbs ≤ 50 := by have := hk.v _ (polOf_mem hk.nd ht).2; omega
      intro s0 H0 C cl fp
      have e2 : mu (penMo 1 m') 1 (some (.pen (m' + 3))) = penMo 1 (m' + 3) := penMo_mu
      rw [← e2]
      refine ef_mono (ef_tup2 (A := fun d => ∃ i : Int, d = PyData.int i ∧ i.natAbs ≤ 50 * 10 ^ 40) (d := pwD t.2) (e_name 17 rfl (.inl rfl) rfl) (ef_mono (ef_mul (P := fun k => k = t.1) (P' := fun n => n.natAbs ≤ 10 ^ 40) (ef_int (e_name 16 rfl (.inl rfl) rfl)) (ef_mono (ef_draw (i := 1) (n := m') F.number (hr.mono (by decide)) (by rfl) penMo_same rfl (.inr (.inl rfl)) (by show m' + 3 ≤ 1048576; omega) as_nil rfl) fun d hd => ?_) (fun i j hi _ => .inl ⟨by omega, by omega⟩)) fun d hd => ?_)) fun d hd => ?_
      · obtain ⟨i, rfl, _, h1, h2⟩ := hd
        exact ⟨i, rfl, by omega⟩
      · obtain ⟨k, rfl, i, j, rfl, hj, rfl⟩ := hd
        refine ⟨_, rfl, ?_⟩
        rw [Int.natAbs_mul]
        exact Nat.mul_le_mul hc hj
      · obtain ⟨d', rfl, i, rfl, hi⟩ := hd
        intro t' e _
        have := tmD_inj e
        subst this
        exact ⟨i, rfl, hi⟩
    · obtain ⟨m0, hk, rfl⟩ := hp
      have h1 := polOf_len m0
      have h2 := hk.len
      rw [List.length_map]
      omega
    · obtain ⟨ds, es, ⟨m0, hk, rfl⟩, rfl, hr2⟩ := hd
      have hcoef : ∀ t ∈ polOf m0, t.1.natAbs ≤ 50 := fun t ht => by have := hk.v _ (polOf_mem hk.nd ht).2; omega
      have go : ∀ (p : List Tm) (es : List PyData), (∀ t ∈ p, t.1.natAbs ≤ 50) → AllR (fun d e => ∀ t, d = tmD t → t.1.natAbs ≤ 50 → ∃ i : Int, e = .tuple [pwD t.2, .int i] ∧ i.natAbs ≤ 50 * 10 ^ 40) (p.map tmD) es → ∃ m1 : KI, es = (kiD m1).map (fun q => .tuple [pwD q.1, q.2]) ∧ m1.map (·.1) = p.map (·.2) ∧ ∀ q ∈ m1, q.2.natAbs ≤ 50 * 10 ^ 40 := by
        intro p
        induction p with
        | nil => intro es _ h; cases h; exact ⟨[], rfl, rfl, fun _ h => nomatch h⟩
        | cons t p ih =>
          intro es hb h
          cases h with
          | cons a b =>
            obtain ⟨i, rfl, hi⟩ := a t rfl (hb t (.head _))
            obtain ⟨m1, e1, e2, e3⟩ := ih _ (fun x hx => hb x (.tail _ hx)) b
            refine ⟨(t.2, i) :: m1, by rw [e1]; rfl, by rw [List.map_cons, List.map_cons, e2], fun q hq => ?_⟩
            rcases List.mem_cons.mp hq with rfl | hq
            · exact hi
            · exact e3 q hq
      obtain ⟨m1, e1, e2, e3⟩ := go _ _ hcoef hr2
      exact ⟨kiD m1, by rw [e1], m0, m1, hk, rfl, e2, e3⟩
    · obtain ⟨kvs, rfl, m0, m1, hk, rfl, hm1, hb1⟩ := hd
      have hnd : (m1.map (·.1)).Nodup := by rw [hm1]; exact polOf_nd hk.nd
      have hnd2 : ((kiD m1).map (·.1)).Nodup := by
        have : (kiD m1).map (·.1) = m1.map (·.1) := by unfold kiD; rw [List.map_map]; rfl
        rw [this]; exact hnd
      have hlen1 : m1.length ≤ 5 := by
        have h0 := congrArg List.length hm1
        rw [List.length_map, List.length_map] at h0
        have h1 := polOf_len m0
        have h2 := hk.len
        omega
      have hmem : ∀ q ∈ m1.map (·.1), q ∈ m0.map (·.1) := fun q hq => by
        rw [hm1] at hq
        obtain ⟨t, ht, rfl⟩ := List.mem_map.mp hq
        exact List.mem_map.mpr ⟨_, (polOf_mem hk.nd ht).2, rfl⟩
      rw [kvAll_nd hnd2]
      exact ⟨polD (polOf m1), ⟨m1, rfl, by omega, hnd, rfl⟩, polOf m1, dr_of hw3 (by decide) (by decide) hnd (fun q hq => hk.l q (hmem q hq)) (fun q hq => hk.n q (hmem q hq)) (fun q hq => hk.s q (hmem q hq)) hlen1 hb1, rfl⟩
  · obtain ⟨es, rfl, hes⟩ := hd
    have hes : AllR (fun _ e => ∃ p, Big wd p ∧ e = polD p) [.int (0 + ((0 : Nat) : Int)), .int (0 + ((1 : Nat) : Int))] es := hes
    cases hes with
    | cons a hes2 =>
      cases hes2 with
      | cons b hes3 =>
        cases hes3
        obtain ⟨p, hp, e1⟩ := a
        obtain ⟨q, hq, e2⟩ := b
        exact ⟨_, _, rfl, p, q, hp, hq, e1, e2⟩
  · obtain ⟨p, q, hp, hq, rfl, rfl⟩ := hab
    rw [upto_len, pm_set (by decide), pm_set (by decide)]
    exact next wd p q hw3 hp hq
end
end R1

set_option Elab.async false
set_option linter.all false
set_option maxRecDepth 100000
set_option maxHeartbeats 4000000
/-! K00W27: the law: sums, products, terms told. -/
namespace R1
open PySem PySem.Spec PyProof.Rows L2 Evl
theorem eqvAll_refl_ints (p : List Int) : PyData.eqvAll (p.map .int) (p.map .int) = true := by rw [eqvAll_ints]; exact decide_eq_true rfl
theorem eqv_tmD (t : Tm) : PyData.eqv (tmD t) (tmD t) = true := by
  show (PyData.eqv (.int t.1) (.int t.1) && (PyData.eqv (pwD t.2) (pwD t.2) && true)) = true
  have h1 : PyData.eqv (.int t.1) (.int t.1) = true := by show (t.1 == t.1) = true; exact beq_self_eq_true _
  have h2 : PyData.eqv (pwD t.2) (pwD t.2) = true := eqvAll_refl_ints t.2
  rw [h1, h2]
  rfl
theorem eqvAll_tms : ∀ p : List Tm, PyData.eqvAll (p.map tmD) (p.map tmD) = true
  | [] => rfl
  | t :: p => by
    show (PyData.eqv (tmD t) (tmD t) && PyData.eqvAll (p.map tmD) (p.map tmD)) = true
    rw [eqv_tmD, eqvAll_tms p]
    rfl
theorem eqv_polD (p : List Tm) : PyData.eqv (polD p) (polD p) = true := eqvAll_tms p
theorem shp_pw (q : List Int) : Shp (pwD q) := ⟨canLay_ints q, by
  show PyData.depthAll (q.map .int) + 1 ≤ 20
  rw [depth_ints]
  decide⟩
theorem shp_tm (t : Tm) : Shp (tmD t) := ⟨by
  show (true && (PyData.canLay0 (pwD t.2) && true)) = true
  rw [(shp_pw t.2).1]
  rfl, by
  show max (PyData.depth (.int t.1)) (max (PyData.depth (pwD t.2)) 0) + 1 ≤ 20
  have h : PyData.depth (pwD t.2) = 1 := by
    show PyData.depthAll (t.2.map .int) + 1 = 1
    rw [depth_ints]
  rw [h]
  show max 0 (max 1 0) + 1 ≤ 20
  decide⟩
theorem shaped_polD (p : List Tm) : SeqAt.shaped (polD p) = true := shaped_tuple fun d hd => by
  obtain ⟨t, _, rfl⟩ := List.mem_map.mp hd
  exact shp_tm t
theorem pev_scl (k : Int) (q : List Tm) (φ : List Int → Int) : pev (sclP k q) φ = k * pev q φ := by
  induction q with
  | nil => exact (Int.mul_zero k).symm
  | cons t q ih =>
    show pev ((k * t.1, t.2) :: sclP k q) φ = _
    rw [pev_cons, pev_cons, ih, Int.mul_add, Int.mul_assoc]
theorem less_self (p : List Tm) : cano (p ++ sclP (-1) p) = [] := by
  have h : Eqv (p ++ sclP (-1) p) [] := fun φ => by
    rw [pev_append, pev_scl, pev_nil]
    omega
  rw [h.eq, cano_nil]
theorem mulP_nil (p : List Tm) : mulP p [] = [] := by
  induction p with
  | nil => rfl
  | cons t p ih => exact ih
theorem good_num {w : Nat} (hw : w ≤ 16) (c : Int) : Good (w : Int) (numP w c) := by
  unfold numP
  by_cases h : c = 0
  · rw [if_pos h]
    exact ⟨fun _ h => (nomatch h), .nil, by decide, by omega, by omega⟩
  · rw [if_neg h]
    refine ⟨fun t ht => ?_, List.pairwise_singleton _ _, by show 1 < 1000; decide, by omega, by omega⟩
    rw [List.mem_singleton.mp ht]
    exact ⟨h, by show (((List.replicate w (0 : Int)).length : Nat) : Int) = w; rw [List.length_replicate], fun x hx => by rw [(List.mem_replicate.mp hx).2]; decide⟩
theorem good_nil {w : Nat} (hw : w ≤ 16) : Good (w : Int) [] := ⟨fun _ h => (nomatch h), .nil, by decide, by omega, by omega⟩
theorem mul_num1 {w : Nat} {p : List Tm} (h : Len w p) (hc : cano p = p) : cano (mulP p (numP w 1)) = p := by
  have e : numP w 1 = oneP w := if_neg (by decide)
  rw [e, ((eqv_comm _ _).trans (eqv_one h)).eq, hc]
theorem perm_map {α : Type} {f : α → PyData} {es l : List PyData} (h : es.Perm l) : ∀ T : List α, l = T.map f → ∃ T' : List α, es = T'.map f ∧ T'.Perm T := by
  induction h with
  | nil => intro T e; cases T with
    | nil => exact ⟨[], rfl, .refl _⟩
    | cons t T => cases e
  | cons x h ih =>
    intro T e
    cases T with
    | nil => cases e
    | cons t T =>
      rw [List.map_cons] at e
      injection e with e1 e2
      obtain ⟨T', e3, hp⟩ := ih T e2
      exact ⟨t :: T', by rw [e1, e3]; rfl, hp.cons t⟩
  | swap x y l =>
    intro T e
    match T, e with
    | [], e => cases e
    | [t], e => injection e with e1 e2; cases e2
    | t :: u :: T, e =>
      rw [List.map_cons, List.map_cons] at e
      injection e with e1 e2
      injection e2 with e2 e3
      exact ⟨u :: t :: T, by rw [e1, e2, e3]; rfl, .swap t u T⟩
  | trans h1 h2 ih1 ih2 =>
    intro T e
    obtain ⟨T2, e2, p2⟩ := ih2 T e
    obtain ⟨T1, e1, p1⟩ := ih1 T2 e2
    exact ⟨T1, e1, p1.trans p2⟩
/-- the terms told, with some that are 0, some that take themselves away -/
def moreT (w : Nat) (p : List Tm) : List Tm := p ++ [(0, List.replicate w 7)] ++ [(5, List.replicate w 1), (-5, List.replicate w 1)]
theorem more_eqv (w : Nat) (p : List Tm) : Eqv (moreT w p) p := fun φ => by
  unfold moreT
  rw [pev_append, pev_append, pev_cons, pev_cons, pev_cons, pev_nil]
  show pev p φ + (0 * φ (List.replicate w 7) + 0) + (5 * φ (List.replicate w 1) + (-5 * φ (List.replicate w 1) + 0)) = pev p φ
  omega
theorem big_lt : 5 * (50 * 10 ^ 40) < 2 ^ 20000 := by decide +kernel
section
variable {P : Program} {w : World} {K : PySem.W.Frag} {mg : Str → Option Value} {base : Heap} {k : Nat}
variable {f : Addr} {cdv : Value} {A : Around} {outer : List Env} {s : Shared} {H : Hp} {G : XK}
abbrev ρ1 (j wd : Nat) (p : List Tm) (es : List PyData) : Ro := ((((ρ0.set 2 (some (.int (0 + (j : Int))))).set 3 (some (.int wd))).set 4 (some (polD p)))).set 6 (some (.list es))
theorem turn_sums (F : LawFns P w K mg base) (B : LawBlt mg) (hr : Room 8 (lawX P w K mg base f cdv A outer s H G).A) {n j : Nat} (hn : n + 400 ≤ 1048576)
    {N : Ro → Mo → Prop} {wd : Nat} {p q : List Tm} (hw : wd ≤ 3) (hp : Big wd p) (hq : Big wd q)
    (next : ∀ es, Tms p es → Bk (lawX P w K mg base f cdv A outer s H G) (ρ1 j wd p es) (PM (n + 220)) (turnBody.drop 7) N Rlaw) :
    Bk (lawX P w K mg base f cdv A outer s H G) ((((ρ0.set 2 (some (.int (0 + (j : Int))))).set 3 (some (.int wd))).set 4 (some (polD p))).set 5 (some (polD q))) (PM n) (turnBody.drop 2) N Rlaw := by
  have hu : (lawX P w K mg base f cdv A outer s H G).A.units + 64 < cLine := hr.units
  have lp := hp.l
  have lq := hq.l
  have np : nrm p < 2 ^ 20000 := Nat.lt_of_le_of_lt hp.m big_lt
  have nq : nrm q < 2 ^ 20000 := Nat.lt_of_le_of_lt hq.m big_lt
  have lpq : p.length * q.length ≤ 1000 := Nat.le_trans (Nat.mul_le_mul lp lq) (by decide)
  have rw0 : ∀ t ∈ p, t.2.length ≤ 1000 := fun t ht => by have := (hp.g.t t ht).2.1; omega
  refine bk_par (i := 6) (j := 7) rfl scLaw.nd rfl rfl (by decide) rfl rfl (ef_draw (i := 1) F.told (hr.mono (by decide)) (by rfl) pm_at rfl (.inr (.inl rfl)) (by show n + 100 ≤ 1048576; omega) (as_cons (e_name 4 rfl (.inl rfl) rfl) as_nil) ⟨p, rfl, by omega⟩)
    (ef_draw (i := 1) (n := n + 100) F.told (hr.mono (by decide)) (by rfl) mu_same rfl (.inr (.inl rfl)) (by show n + 100 + 100 ≤ 1048576; omega) (as_cons (e_name 5 rfl (.inl rfl) rfl) as_nil) ⟨q, rfl, by omega⟩) fun d d' hd hd' => ?_
  obtain ⟨p', es, e, rfl, hes⟩ := hd
  injection e with e _
  have e := polD_inj e
  subst e
  obtain ⟨q', fs, e, rfl, hfs⟩ := hd'
  injection e with e _
  have e := polD_inj e
  subst e
  rw [pm_draw, pm_draw, pm_set (by decide), pm_set (by decide)]
  have e1 : ∀ x : List Tm, (!PyData.eqv (polD x) (polD x)) = false := fun x => by rw [eqv_polD]; rfl
  refine bk_if1 (B := fun z => z = false) (tf_t ((tw_or (k := false) (l := false) ((t_neD hu (e_call F.added (hr.mono (by decide)) (by rfl) (as_cons (e_name 3 rfl (.inr (.inl rfl)) rfl) (as_cons (e_name 6 rfl (.inl rfl) rfl) (as_cons (e_name 7 rfl (.inl rfl) rfl) as_nil))) ⟨(wd : Int), p, q, false, false, es, fs, rfl, hes, hfs, hp.g, hq.g, by omega, rfl⟩)
        (e_call F.plus (hr.mono (by decide)) (by rfl) (as_cons (e_name 4 rfl (.inl rfl) rfl) (as_cons (e_name 5 rfl (.inl rfl) rfl) (as_cons e_int as_nil))) ⟨p, q, 1, rfl, good_nd hp.g, by omega, by unfold Fit; decide +kernel, nq, rfl⟩) (shaped_polD _) (shaped_polD _)).eq (e1 _)) fun _ =>
      tw_or (k := false) (l := false) ((t_neD hu (e_call F.lessened (hr.mono (by decide)) (by rfl) (as_cons (e_name 3 rfl (.inr (.inl rfl)) rfl) (as_cons (e_name 6 rfl (.inl rfl) rfl) (as_cons (e_name 7 rfl (.inl rfl) rfl) as_nil))) ⟨(wd : Int), p, q, false, false, es, fs, rfl, hes, hfs, hp.g, hq.g, by omega, rfl⟩)
        (e_call F.plus (hr.mono (by decide)) (by rfl) (as_cons (e_name 4 rfl (.inl rfl) rfl) (as_cons (e_name 5 rfl (.inl rfl) rfl) (as_cons (e_neg e_int) as_nil))) ⟨p, q, -1, rfl, good_nd hp.g, by omega, by unfold Fit; decide +kernel, nq, rfl⟩) (shaped_polD _) (shaped_polD _)).eq (e1 _)) fun _ =>
      tw_or1 ((t_neD hu (e_callKw3c F.dmult F.mult (hr.mono (by decide)) (by rfl) rfl (fun _ _ _ _ _ _ _ _ _ => rfl) (e_name 7 rfl (.inl rfl) rfl) (e_name 3 rfl (.inr (.inl rfl)) rfl) (e_name 6 rfl (.inl rfl) rfl) ⟨(wd : Int), p, q, false, false, es, fs, rfl, hes, hfs, hp.g, hq.g, lpq, np, nq, rfl⟩)
        (e_call F.times (hr.mono (by decide)) (by rfl) (as_cons (e_name 4 rfl (.inl rfl) rfl) (as_cons (e_name 5 rfl (.inl rfl) rfl) as_nil)) ⟨p, q, rfl, lpq, by omega, by omega, np, nq, rw0, rfl⟩) (shaped_polD _) (shaped_polD _)).eq (e1 _))).t)) (fun z => nomatch z) fun _ => ?_
  have gn : Good (wd : Int) (numP wd 1) := good_num (by omega) 1
  have ln : (numP wd 1).length = 1 := rfl
  have nn : nrm (numP wd 1) = 1 := rfl
  refine bk_if1 (B := fun z => z = false) (tf_t ((tw_or (k := false) (l := false) ((t_neD (d' := polD []) hu (e_call F.lessened (hr.mono (by decide)) (by rfl) (as_cons (e_name 3 rfl (.inr (.inl rfl)) rfl) (as_cons (e_name 4 rfl (.inl rfl) rfl) (as_cons (e_name 4 rfl (.inl rfl) rfl) as_nil))) ⟨(wd : Int), p, p, true, true, _, _, rfl, tms_pol p, tms_pol p, hp.g, hp.g, by omega, rfl⟩)
        (e_tup as_nil (by show 0 ≤ 100000; decide)) (shaped_polD _) (shaped_polD _)).eq (by rw [less_self]; exact e1 _)) fun _ =>
      tw_or (k := false) (l := false) ((t_neD hu (e_call F.added (hr.mono (by decide)) (by rfl) (as_cons (e_name 3 rfl (.inr (.inl rfl)) rfl) (as_cons (e_name 4 rfl (.inl rfl) rfl) (as_cons (e_tup as_nil (by show 0 ≤ 100000; decide)) as_nil))) ⟨(wd : Int), p, [], true, true, _, _, rfl, tms_pol p, tms_pol [], hp.g, good_nil (by omega), by show p.length + 0 ≤ 1000; omega, rfl⟩)
        (e_name 4 rfl (.inl rfl) rfl) (shaped_polD _) (shaped_polD _)).eq (by show (!PyData.eqv (polD (cano (p ++ []))) (polD p)) = false; rw [List.append_nil, hp.c]; exact e1 _)) fun _ =>
      tw_or (k := false) (l := false) ((t_neD hu (e_call F.mult (hr.mono (by decide)) (by rfl) (as_cons (e_name 3 rfl (.inr (.inl rfl)) rfl) (as_cons (e_name 4 rfl (.inl rfl) rfl) (as_cons (e_call F.con (hr.mono (by decide)) (by rfl) (as_cons (e_name 3 rfl (.inr (.inl rfl)) rfl) (as_cons e_int as_nil)) ⟨wd, 1, rfl, by omega, rfl⟩) as_nil))) ⟨(wd : Int), p, numP wd 1, true, true, _, _, rfl, tms_pol p, tms_pol _, hp.g, gn, by rw [ln]; omega, np, by rw [nn]; decide +kernel, rfl⟩)
        (e_name 4 rfl (.inl rfl) rfl) (shaped_polD _) (shaped_polD _)).eq (by rw [mul_num1 (good_len hp.g) hp.c]; exact e1 _)) fun _ =>
      tw_or1 ((t_neD (d' := polD []) hu (e_call F.mult (hr.mono (by decide)) (by rfl) (as_cons (e_name 3 rfl (.inr (.inl rfl)) rfl) (as_cons (e_name 4 rfl (.inl rfl) rfl) (as_cons (e_tup as_nil (by show 0 ≤ 100000; decide)) as_nil))) ⟨(wd : Int), p, [], true, true, _, _, rfl, tms_pol p, tms_pol [], hp.g, good_nil (by omega), by show p.length * 0 ≤ 1000; omega, np, by show 0 < 2 ^ 20000; exact Nat.pow_pos (by decide), rfl⟩)
        (e_tup as_nil (by show 0 ≤ 100000; decide)) (shaped_polD _) (shaped_polD _)).eq (by rw [mulP_nil, cano_nil]; exact e1 _))).t)) (fun z => nomatch z) fun _ => ?_
  have hrep : ∀ {X : Cx} {ρ : Ro} {a b : Expr} {pos : Pos} {c : Int}, E X ρ a (.tuple [.int c]) → E X ρ b (.int wd) → E X ρ (.BinOp a .Mult b pos) (pwD (List.replicate wd c)) := fun {X ρ a b pos c} ha hb => (e_repT (n := wd) (d := .int c) ha hb (by omega)).eq (by show PyData.tuple _ = PyData.tuple _; rw [List.map_replicate])
  refine bk_set (i := 8) scLaw.nd rfl (.inl rfl) (ef_e ((e_catL (e_catL (e_listOf (k := true) (by rfl) B.list (e_name 4 rfl (.inl rfl) rfl)) (e_lst (x1 := 0) (as_cons (e_tup (as_cons e_int (as_cons (hrep (c := 7) (e_tup (as_cons e_int as_nil) (by show 1 ≤ 100000; decide)) (e_name 3 rfl (.inr (.inl rfl)) rfl)) as_nil)) (by show 2 ≤ 100000; decide)) as_nil) (by show 1 ≤ 100000; decide)) (by show (p.map tmD).length + 1 ≤ 100000; rw [List.length_map]; omega))
      (e_lst (x1 := 0) (as_cons (e_tup (as_cons e_int (as_cons (hrep (c := 1) (e_tup (as_cons e_int as_nil) (by show 1 ≤ 100000; decide)) (e_name 3 rfl (.inr (.inl rfl)) rfl)) as_nil)) (by show 2 ≤ 100000; decide)) (as_cons (e_tup (as_cons (e_neg e_int) (as_cons (hrep (c := 1) (e_tup (as_cons e_int as_nil) (by show 1 ≤ 100000; decide)) (e_name 3 rfl (.inr (.inl rfl)) rfl)) as_nil)) (by show 2 ≤ 100000; decide)) as_nil)) (by show 2 ≤ 100000; decide)) (by rw [List.length_append, List.length_map]; show p.length + 1 + 2 ≤ 100000; omega)).eq (show _ = PyData.list ((moreT wd p).map tmD) by unfold moreT; rw [List.map_append, List.map_append]; rfl))) fun d hd => ?_
  subst hd
  rw [pm_set (by decide)]
  have mlen : (moreT wd p).length = p.length + 3 := by unfold moreT; rw [List.length_append, List.length_append]; rfl
  have mrow : ∀ t ∈ moreT wd p, (t.2.length : Int) = (wd : Int) ∧ ∀ x ∈ t.2, 0 ≤ x ∧ x ≤ 1000 := fun t ht => by
    have hrp : ∀ c : Int, 0 ≤ c → c ≤ 1000 → (((List.replicate wd c).length : Nat) : Int) = (wd : Int) ∧ ∀ x ∈ List.replicate wd c, 0 ≤ x ∧ x ≤ 1000 := fun c h0 h1 => ⟨by rw [List.length_replicate], fun x hx => by rw [(List.mem_replicate.mp hx).2]; exact ⟨h0, h1⟩⟩
    unfold moreT at ht
    rcases List.mem_append.mp ht with ht | ht
    · rcases List.mem_append.mp ht with ht | ht
      · exact (hp.g.t t ht).2
      · rw [List.mem_singleton.mp ht]; exact hrp 7 (by decide) (by decide)
    · rcases List.mem_cons.mp ht with rfl | ht
      · exact hrp 1 (by decide) (by decide)
      · rw [List.mem_singleton.mp ht]; exact hrp 1 (by decide) (by decide)
  have prow : ∀ t ∈ p ++ q, (t.2.length : Int) = (wd : Int) ∧ ∀ x ∈ t.2, 0 ≤ x ∧ x ≤ 1000 := fun t ht => (List.mem_append.mp ht).elim (fun h => (hp.g.t t h).2) fun h => (hq.g.t t h).2
  have prow2 : ∀ t ∈ p ++ p, (t.2.length : Int) = (wd : Int) ∧ ∀ x ∈ t.2, 0 ≤ x ∧ x ≤ 1000 := fun t ht => (List.mem_append.mp ht).elim (fun h => (hp.g.t t h).2) fun h => (hp.g.t t h).2
  have hcat : ∀ {X : Cx} {ρ : Ro} {a b : Expr} {pos : Pos} {x y : List Tm}, x.length ≤ 5 → y.length ≤ 5 → E X ρ a (.list (x.map tmD)) → E X ρ b (.list (y.map tmD)) → E X ρ (.BinOp a .Add b pos) (.list ((x ++ y).map tmD)) := fun {X ρ a b pos x y} hx hy ha hb => (e_catL ha hb (by rw [List.length_map, List.length_map]; omega)).eq (by rw [List.map_append])
  refine bk_if1 (B := fun z => z = false) (tf_or (μ1 := PM (n + 220)) (tf_neD2 (μ1 := PM (n + 220)) (A := fun d => d = polD p) (B := fun d => d = polD p) hu ?_ (ef_e (e_name 4 rfl (.inl rfl) rfl)) fun d d' h h' => by subst h h'; exact ⟨shaped_polD _, shaped_polD _, eqv_polD _⟩) (tw_or (k := false) (l := false) ((t_neD hu (e_callKw2 F.dtol F.tol (hr.mono (by decide)) (by rfl) rfl (fun _ _ _ _ _ _ _ _ => rfl) (e_name 3 rfl (.inr (.inl rfl)) rfl) (hcat lp lq (e_listOf (k := true) (by rfl) B.list (e_name 4 rfl (.inl rfl) rfl)) (e_listOf (k := true) (by rfl) B.list (e_name 5 rfl (.inl rfl) rfl))) ⟨(wd : Int), p ++ q, false, _, rfl, tms_pol _, prow, by omega, by omega, by rw [List.length_append]; omega, rfl⟩)
        (e_call F.plus (hr.mono (by decide)) (by rfl) (as_cons (e_name 4 rfl (.inl rfl) rfl) (as_cons (e_name 5 rfl (.inl rfl) rfl) (as_cons e_int as_nil))) ⟨p, q, 1, rfl, good_nd hp.g, by omega, by unfold Fit; decide +kernel, nq, rfl⟩) (shaped_polD _) (shaped_polD _)).eq (by rw [eqv_scl1]; exact e1 _)) fun _ =>
      tw_or1 ((t_neD hu (e_call F.tol (hr.mono (by decide)) (by rfl) (as_cons (e_name 3 rfl (.inr (.inl rfl)) rfl) (as_cons (hcat lp lp (e_listOf (k := true) (by rfl) B.list (e_name 4 rfl (.inl rfl) rfl)) (e_listOf (k := true) (by rfl) B.list (e_name 4 rfl (.inl rfl) rfl))) as_nil)) ⟨(wd : Int), p ++ p, false, _, rfl, tms_pol _, prow2, by omega, by omega, by rw [List.length_append]; omega, rfl⟩)
        (e_call F.plus (hr.mono (by decide)) (by rfl) (as_cons (e_name 4 rfl (.inl rfl) rfl) (as_cons (e_name 4 rfl (.inl rfl) rfl) (as_cons e_int as_nil))) ⟨p, p, 1, rfl, good_nd hp.g, by omega, by unfold Fit; decide +kernel, np, rfl⟩) (shaped_polD _) (shaped_polD _)).eq (by rw [eqv_scl1]; exact e1 _)))) (fun z => nomatch z) fun _ => ?_
  · have e2 : PM (n + 220) = mu (PM (n + 100 + 100)) 1 (some (.pen (n + 100 + 100 + 20))) := pm_draw.symm
    rw [e2]
    refine ef_call2 F.tol (hr.mono (by decide)) (by rfl) (e_name 3 rfl (.inr (.inl rfl)) rfl) (ef_draw (i := 1) (n := n + 100 + 100) F.mixed (hr.mono (by decide)) (by rfl) pm_at rfl (.inr (.inl rfl)) (by show n + 100 + 100 + 20 ≤ 1048576; omega) (as_cons (e_name 8 rfl (.inl rfl) rfl) as_nil) ⟨_, rfl, by rw [List.length_map, mlen]; omega, fun d hd => by obtain ⟨t, _, rfl⟩ := List.mem_map.mp hd; exact shp_tm t⟩) fun d2 hd2 => ?_
    obtain ⟨es1, es2, e, rfl, hpm⟩ := hd2
    injection e with e _
    injection e with e
    subst e
    obtain ⟨T', rfl, hT⟩ := perm_map hpm _ rfl
    refine ⟨_, ⟨(wd : Int), T', false, _, rfl, tms_pol T', fun t ht => mrow t (hT.mem_iff.mp ht), by omega, by omega, by rw [hT.length_eq, mlen]; omega, rfl⟩, ?_⟩
    have h1 : Eqv T' p := Eqv.trans (fun φ => pev_perm hT φ) (more_eqv wd p)
    rw [h1.eq, hp.c]
  · refine bk_forget (ρ' := ρ1 j wd p es) (by repeat (first | exact .nil | refine .keep ?_ | refine .drop ?_)) (next es hes)
end
end R1

set_option Elab.async false
set_option linter.all false
set_option maxRecDepth 100000
set_option maxHeartbeats 4000000
/-! K00X: what is put in: bounds, worths, constants. -/
namespace R1
open PySem PySem.Spec PyProof.Rows L2 Evl
/-! ### bounds -/
def Bnd (B : Int) (p : List Tm) : Prop := ∀ t ∈ p, ∀ n ∈ t.2, 0 ≤ n ∧ n ≤ B
theorem zadd_bnd {A B : Int} : ∀ (a b : List Int), (∀ n ∈ a, 0 ≤ n ∧ n ≤ A) → (∀ n ∈ b, 0 ≤ n ∧ n ≤ B) → ∀ n ∈ zadd a b, 0 ≤ n ∧ n ≤ A + B
  | [], b, _, _, n, h => by simp [zadd] at h
  | _ :: _, [], _, _, n, h => by simp [zadd] at h
  | x :: a, y :: b, ha, hb, n, h => by
    have h : n ∈ (x + y) :: zadd a b := h
    rcases List.mem_cons.mp h with rfl | h
    · have := ha x (.head _); have := hb y (.head _); omega
    · exact zadd_bnd a b (fun z hz => ha z (.tail _ hz)) (fun z hz => hb z (.tail _ hz)) n h
theorem Bnd.mul {A B : Int} {p q : List Tm} (hp : Bnd A p) (hq : Bnd B q) : Bnd (A + B) (mulP p q) := fun t ht => by
  unfold mulP at ht
  obtain ⟨l, hl, h⟩ := List.mem_flatten.mp ht
  obtain ⟨a, ha, rfl⟩ := List.mem_map.mp hl
  obtain ⟨b, hb, rfl⟩ := List.mem_map.mp h
  intro n hn
  have := zadd_bnd _ _ (hq b hb) (hp a ha) n hn
  omega
theorem bnd_con (w : Nat) (c : Int) : Bnd 0 (conP w c) := fun t ht n hn => by
  rw [List.mem_singleton.mp ht] at hn
  rw [(List.mem_replicate.mp hn).2]
  decide
theorem bnd_pow {w : Nat} {B : Int} {p : List Tm} (h : Bnd B p) : ∀ n : Nat, Bnd (n * B) (powP w p n)
  | 0 => by
    show Bnd ((0 : Nat) * B) (oneP w)
    rw [show (((0 : Nat) : Int) * B) = 0 by rw [Int.natCast_zero, Int.zero_mul]]
    exact bnd_con w 1
  | n + 1 => by
    have := (bnd_pow (w := w) h n).mul h
    have e : (((n + 1 : Nat) : Int) * B) = n * B + B := by rw [Int.natCast_add, Int.add_mul]; show _ + 1 * B = _; rw [Int.one_mul]
    rw [e]
    exact this
theorem bnd_putM {w : Nat} {B : Int} : ∀ (ps : List (List Tm)) (ns : List Int) (a : List Tm) (A : Int), (∀ p ∈ ps, Bnd B p) → 0 ≤ B → Bnd A a → Bnd (A + sN ns * B) (putM w ps ns a)
  | [], ns, a, A, _, hB, h => fun t ht n hn => by
    have := h t ht n hn
    have h2 : 0 ≤ (sN ns : Int) * B := Int.mul_nonneg (by omega) hB
    omega
  | _ :: _, [], a, A, _, hB, h => fun t ht n hn => by
    have := h t ht n hn
    have h2 : ((sN [] : Nat) : Int) * B = 0 := by show ((0 : Nat) : Int) * B = 0; rw [Int.natCast_zero, Int.zero_mul]
    omega
  | p :: ps, n :: ns, a, A, hp, hB, h => by
    have h1 := bnd_putM (w := w) ps ns (mulP a (powP w p n.toNat)) (A + n.toNat * B) (fun q hq => hp q (.tail _ hq)) hB (h.mul (bnd_pow (hp p (.head _)) _))
    have e : A + ((sN (n :: ns) : Nat) : Int) * B = A + n.toNat * B + sN ns * B := by
      show A + (((n.toNat + sN ns : Nat)) : Int) * B = _
      rw [Int.natCast_add, Int.add_mul]
      omega
    rw [e]
    exact h1
theorem putM_len2 {w L : Nat} : ∀ (ps : List (List Tm)) (ns : List Int) (a : List Tm), (∀ p ∈ ps, p.length ≤ L) → 1 ≤ L → (putM w ps ns a).length ≤ a.length * L ^ sN ns
  | [], ns, a, _, hL => Nat.le_mul_of_pos_right _ (Nat.pow_pos hL)
  | _ :: _, [], a, _, hL => by show a.length ≤ a.length * 1; omega
  | p :: ps, n :: ns, a, hp, hL => by
    have h1 := putM_len2 (w := w) ps ns (mulP a (powP w p n.toNat)) (fun q hq => hp q (.tail _ hq)) hL
    rw [mulP_len] at h1
    refine Nat.le_trans h1 ?_
    show _ ≤ a.length * L ^ (n.toNat + sN ns)
    rw [Nat.pow_add, ← Nat.mul_assoc]
    exact Nat.mul_le_mul_right _ (Nat.mul_le_mul_left _ (powP_len (hp p (.head _)) _))
theorem powP_nrm {w : Nat} {q : List Tm} {M : Nat} (h : nrm q ≤ M) : ∀ m, nrm (powP w q m) ≤ M ^ m
  | 0 => Nat.le_refl 1
  | m + 1 => by
    show nrm (mulP (powP w q m) q) ≤ _
    rw [nrm_mul, Nat.pow_succ]
    exact Nat.mul_le_mul (powP_nrm h m) h
theorem putM_nrm {w M : Nat} : ∀ (ps : List (List Tm)) (ns : List Int) (a : List Tm), (∀ p ∈ ps, nrm p ≤ M) → 1 ≤ M → nrm (putM w ps ns a) ≤ nrm a * M ^ sN ns
  | [], ns, a, _, hL => Nat.le_mul_of_pos_right _ (Nat.pow_pos hL)
  | _ :: _, [], a, _, hL => by show nrm a ≤ nrm a * 1; omega
  | p :: ps, n :: ns, a, hp, hL => by
    have h1 := putM_nrm (w := w) ps ns (mulP a (powP w p n.toNat)) (fun q hq => hp q (.tail _ hq)) hL
    rw [nrm_mul] at h1
    refine Nat.le_trans h1 ?_
    show _ ≤ nrm a * M ^ (n.toNat + sN ns)
    rw [Nat.pow_add, ← Nat.mul_assoc]
    exact Nat.mul_le_mul_right _ (Nat.mul_le_mul_left _ (powP_nrm (hp p (.head _)) _))
theorem putP_cons (w : Nat) (t : Tm) (p : List Tm) (ps : List (List Tm)) : putP w (t :: p) ps = putM w ps t.2 (conP w t.1) ++ putP w p ps := rfl
theorem putP_len {w L D : Nat} {p : List Tm} {ps : List (List Tm)} (hp : ∀ q ∈ ps, q.length ≤ L) (hL : 1 ≤ L) (hd : ∀ t ∈ p, sN t.2 ≤ D) : (putP w p ps).length ≤ p.length * L ^ D := by
  induction p with
  | nil => exact Nat.zero_le _
  | cons t p ih =>
    rw [putP_cons, List.length_append, List.length_cons, Nat.add_mul, Nat.one_mul]
    have h1 := putM_len2 (w := w) ps t.2 (conP w t.1) hp hL
    have h2 : (conP w t.1).length * L ^ sN t.2 ≤ L ^ D := by
      show 1 * _ ≤ _
      rw [Nat.one_mul]
      exact pow_le hL (hd t (.head _))
    have h3 := ih fun u hu => hd u (.tail _ hu)
    omega
theorem putP_nrm {w M D : Nat} {p : List Tm} {ps : List (List Tm)} (hp : ∀ q ∈ ps, nrm q ≤ M) (hM : 1 ≤ M) (hd : ∀ t ∈ p, sN t.2 ≤ D) : nrm (putP w p ps) ≤ nrm p * M ^ D := by
  induction p with
  | nil => exact Nat.zero_le _
  | cons t p ih =>
    rw [putP_cons, nrm_append, nrm_cons, Nat.add_mul]
    have h1 := putM_nrm (w := w) ps t.2 (conP w t.1) hp hM
    have h2 : nrm (conP w t.1) * M ^ sN t.2 ≤ t.1.natAbs * M ^ D := Nat.mul_le_mul (Nat.le_refl _) (pow_le hM (hd t (.head _)))
    have h3 := ih fun u hu => hd u (.tail _ hu)
    omega
theorem putP_len0 {w : Nat} {p : List Tm} {ps : List (List Tm)} (hp : ∀ q ∈ ps, Len w q) : Len w (putP w p ps) := by
  intro t ht
  unfold putP at ht
  obtain ⟨l, hl, h⟩ := List.mem_flatten.mp ht
  obtain ⟨u, hu, rfl⟩ := List.mem_map.mp hl
  exact putM_len ps u.2 hp (len_con w _) t h
theorem putP_bnd {w D : Nat} {B : Int} {p : List Tm} {ps : List (List Tm)} (hp : ∀ q ∈ ps, Bnd B q) (hB : 0 ≤ B) (hd : ∀ t ∈ p, sN t.2 ≤ D) : Bnd (D * B) (putP w p ps) := by
  intro t ht
  unfold putP at ht
  obtain ⟨l, hl, h⟩ := List.mem_flatten.mp ht
  obtain ⟨u, hu, rfl⟩ := List.mem_map.mp hl
  intro n hn
  have h1 := bnd_putM ps u.2 (conP w u.1) 0 hp hB (bnd_con w _) t h n hn
  have h2 : (sN u.2 : Int) * B ≤ D * B := Int.mul_le_mul_of_nonneg_right (by have := hd u hu; omega) hB
  omega
theorem Bnd.cano {B : Int} {p : List Tm} (h : Bnd B p) : Bnd B (cano p) := fun t ht => by
  obtain ⟨_, u, hu, e⟩ := cano_mem ht
  rw [← e]
  exact h u hu
theorem cano_desc (p : List Tm) : (cano p).Pairwise fun a b => rkLt (rkP b.2) (rkP a.2) = true := polOf_desc (kiOf_nd p)
theorem sN_bnd {B : Nat} : ∀ {l : List Int}, (∀ n ∈ l, 0 ≤ n ∧ n ≤ (B : Int)) → sN l ≤ l.length * B
  | [], _ => Nat.zero_le _
  | n :: l, h => by
    have h1 := sN_bnd (l := l) fun x hx => h x (.tail _ hx)
    have h2 := h n (.head _)
    show n.toNat + sN l ≤ (l.length + 1) * B
    rw [Nat.add_mul, Nat.one_mul]
    omega
/-! ### worths -/
theorem worth_cano (p : List Tm) (xs : List Int) : worth (cano p) xs = worth p xs := by rw [worth_pev, worth_pev, pev_cano]
theorem tmW_abs {b D : Nat} {t : Tm} {xs : List Int} (hx : ∀ x ∈ xs, x.natAbs ≤ 2 ^ b) (hs : sN t.2 ≤ D) : (tmW t xs).natAbs ≤ t.1.natAbs * 2 ^ (b * D) := by
  have h1 := fold_abs (b := b) (xs.zip t.2) t.1 fun z hz => hx z.1 (List.of_mem_zip hz).1
  have h2 := cN_zip xs t.2
  exact Nat.le_trans h1 (Nat.mul_le_mul_left _ (Nat.pow_le_pow_right (by decide) (Nat.mul_le_mul_left _ (by omega))))
theorem worth_abs {b D : Nat} {xs : List Int} (hx : ∀ x ∈ xs, x.natAbs ≤ 2 ^ b) : ∀ (p : List Tm) (a : Int), (∀ t ∈ p, sN t.2 ≤ D) → (p.foldl (fun a t => a + tmW t xs) a).natAbs ≤ a.natAbs + nrm p * 2 ^ (b * D)
  | [], a, _ => Nat.le_add_right _ _
  | t :: p, a, hs => by
    have h1 := worth_abs hx p (a + tmW t xs) fun u hu => hs u (.tail _ hu)
    have h2 := tmW_abs hx (hs t (.head _))
    have h3 := Int.natAbs_add_le a (tmW t xs)
    rw [nrm_cons, Nat.add_mul]
    show (p.foldl _ (a + tmW t xs)).natAbs ≤ _
    omega
/-! ### constants put in -/
theorem zadd_zeros (w : Nat) : zadd (List.replicate w 0) (List.replicate w (0 : Int)) = List.replicate w 0 := by
  have := zadd_zero (List.replicate w (0 : Int))
  rw [List.length_replicate] at this
  exact this
theorem mul_con (w : Nat) (a b : Int) : mulP (conP w a) (conP w b) = conP w (a * b) := by
  show [(a * b, zadd (List.replicate w 0) (List.replicate w 0))] = _
  rw [zadd_zeros]
  rfl
theorem pow_num (w : Nat) (c : Int) : ∀ n, Eqv (powP w (numP w c) n) (conP w (c ^ n))
  | 0 => by
    show Eqv (oneP w) (conP w (c ^ 0))
    rw [Int.pow_zero]
    exact Eqv.refl _
  | n + 1 => by
    have h := (pow_num w c n).mul (eqv_num w c)
    rw [mul_con, ← Int.pow_succ] at h
    exact h
theorem putM_num (w : Nat) : ∀ (cs ns : List Int) (a : Int) (A : List Tm), Eqv A (conP w a) → Eqv (putM w (cs.map (numP w)) ns A) (conP w (a * mon cs ns))
  | [], _, a, A, h => by
    show Eqv A (conP w (a * 1))
    rw [Int.mul_one]
    exact h
  | _ :: _, [], a, A, h => by
    show Eqv A (conP w (a * 1))
    rw [Int.mul_one]
    exact h
  | c :: cs, n :: ns, a, A, h => by
    have h1 := h.mul (pow_num w c n.toNat)
    rw [mul_con] at h1
    have h2 := putM_num w cs ns _ _ h1
    show Eqv (putM w (cs.map (numP w)) ns (mulP A (powP w (numP w c) n.toNat))) (conP w (a * (c ^ n.toNat * mon cs ns)))
    rw [← Int.mul_assoc]
    exact h2
theorem putP_num (w : Nat) (p : List Tm) (cs : List Int) : Eqv (putP w p (cs.map (numP w))) (numP w (worth p cs)) := fun φ => by
  rw [pev_putP1, eqv_num]
  have h1 : pev p (fun ns => pev (putM w (cs.map (numP w)) ns (oneP w)) φ) = pev p fun ns => mon cs ns * φ (List.replicate w 0) := pev_congr fun t _ => by
    rw [putM_num w cs t.2 1 (oneP w) (Eqv.refl _) φ]
    show pev [(1 * mon cs t.2, List.replicate w 0)] φ = _
    rw [pev_cons, pev_nil, Int.one_mul, Int.add_zero]
  rw [h1, pev_mulc, ← worth_pev]
  show _ = pev [(worth p cs, List.replicate w 0)] φ
  rw [pev_cons, pev_nil, Int.add_zero]
end R1

set_option Elab.async false
set_option linter.all false
set_option maxRecDepth 100000
set_option maxHeartbeats 4000000
/-! K00W28: the law: what is put in. -/
namespace R1
open PySem PySem.Spec PyProof.Rows L2 Evl
theorem pm_ef {X : Cx} {ρ : Ro} {e : Expr} {A : PyData → Prop} {n m : Nat} (h : Ef X ρ (PM n) e A (mu (PM n) 1 (some (.pen m)))) : Ef X ρ (PM n) e A (PM m) := by
  rw [pm_draw] at h
  exact h
theorem Dr.bnd {w : Nat} {dg : Int} {n M : Nat} {p : List Tm} (h : Dr w dg n M p) : Bnd dg p := fun t ht x hx => by
  have h0 := ((h.g.t t ht).2.2 x hx).1
  have h1 := le_sum (fun y hy => ((h.g.t t ht).2.2 y hy).1) hx
  have h2 := h.s t ht
  exact ⟨h0, by omega⟩
theorem Dr.sn {w : Nat} {dg n M : Nat} {p : List Tm} (h : Dr w dg n M p) : ∀ t ∈ p, sN t.2 ≤ dg := fun t ht => by
  have h1 := sN_sum fun y hy => ((h.g.t t ht).2.2 y hy).1
  have h2 := h.s t ht
  omega
/-- rows of polynomials from what is drawn -/
theorem allr_pols {Q : List Tm → Prop} : ∀ (ds es : List PyData), AllR (fun _ e => ∃ q, Q q ∧ e = polD q) ds es → ∃ ps : List (List Tm), es = ps.map polD ∧ ps.length = ds.length ∧ ∀ q ∈ ps, Q q
  | [], es, h => by cases h; exact ⟨[], rfl, rfl, fun _ h => nomatch h⟩
  | d :: ds, es, h => by
    cases h with
    | cons a b =>
      obtain ⟨q, hq, rfl⟩ := a
      obtain ⟨ps, rfl, hl, hps⟩ := allr_pols ds _ b
      exact ⟨q :: ps, rfl, by rw [List.length_cons, List.length_cons, hl], fun x hx => by
        rcases List.mem_cons.mp hx with rfl | hx
        · exact hq
        · exact hps x hx⟩
theorem allr_pls : ∀ (ps : List (List Tm)) (es : List PyData), (∀ q ∈ ps, q.length ≤ 100) → AllR (fun d e => ∀ q, d = polD q → q.length ≤ 100 → PlIs q e) (ps.map polD) es → Pls ps es
  | [], es, _, h => by cases h; exact .nil
  | p :: ps, es, hl, h => by
    cases h with
    | cons a b => exact .cons (a p rfl (hl p (.head _))) (allr_pls ps _ (fun q hq => hl q (.tail _ hq)) b)
theorem allr_ints {Q : Int → Prop} : ∀ (ds es : List PyData), AllR (fun _ e => ∃ x : Int, e = .int x ∧ Q x) ds es → ∃ xs : List Int, es = xs.map .int ∧ xs.length = ds.length ∧ ∀ x ∈ xs, Q x
  | [], es, h => by cases h; exact ⟨[], rfl, rfl, fun _ h => nomatch h⟩
  | d :: ds, es, h => by
    cases h with
    | cons a b =>
      obtain ⟨x, rfl, hx⟩ := a
      obtain ⟨xs, rfl, hl, hps⟩ := allr_ints ds _ b
      exact ⟨x :: xs, rfl, by rw [List.length_cons, List.length_cons, hl], fun y hy => by
        rcases List.mem_cons.mp hy with rfl | hy
        · exact hx
        · exact hps y hy⟩
def polOfD (d : PyData) : List Tm := (itsD d).map fun d => (coefOf d, rowOf d)
theorem polOfD_is (p : List Tm) : polOfD (polD p) = p := by
  unfold polOfD
  show (p.map tmD).map _ = p
  rw [List.map_map]
  conv => rhs; rw [← List.map_id p]
  refine List.map_congr_left fun t _ => ?_
  have h : TmIs t (tmD t) := ⟨true, true, rfl⟩
  show (coefOf (tmD t), rowOf (tmD t)) = t
  rw [coefOf_is h, rowOf_is h]
/-- what is put in, as it is asked -/
structure PutOk (wd wi : Nat) (sm : List Tm) (ps : List (List Tm)) : Prop where
  d3 : wd ≤ 3
  i2 : wi ≤ 2
  dr : Dr wd (3 : Nat) 4 200 sm
  pl : ps.length = wd
  drs : ∀ q ∈ ps, Dr wi (2 : Nat) 3 150 q
abbrev dueP (wi : Nat) (sm : List Tm) (ps : List (List Tm)) : List Tm := cano (putP wi sm ps)
theorem m3_lt : 150 ^ 3 < 2 ^ 20000 := by decide +kernel
theorem nm3_lt : 200 * 150 ^ 3 < 2 ^ 20000 := by decide +kernel
section
variable {wd wi : Nat} {sm : List Tm} {ps : List (List Tm)}
theorem PutOk.due (h : PutOk wd wi sm ps) : Good (wi : Int) (dueP wi sm ps) ∧ Bnd 6 (dueP wi sm ps) ∧ nrm (dueP wi sm ps) ≤ 200 * 150 ^ 3 := by
  have hlen : (putP wi sm ps).length ≤ sm.length * 3 ^ 3 := putP_len (fun q hq => (h.drs q hq).l) (by decide) (h.dr.sn)
  have hnrm : nrm (putP wi sm ps) ≤ nrm sm * 150 ^ 3 := putP_nrm (fun q hq => (h.drs q hq).m) (by decide) (h.dr.sn)
  have hb : Bnd (3 * 2) (putP wi sm ps) := putP_bnd (D := 3) (B := 2) (fun q hq => (h.drs q hq).bnd) (by decide) (h.dr.sn)
  have hl : Len wi (putP wi sm ps) := putP_len0 fun q hq => good_len (h.drs q hq).g
  have hs := h.dr.l
  have hw := h.i2
  refine ⟨⟨fun t ht => ⟨(cano_mem ht).1, by rw [hl.cano t ht], fun x hx => ?_⟩, cano_desc _, ?_, by omega, by omega⟩, hb.cano, ?_⟩
  · have := hb.cano t ht x hx
    omega
  · have h1 := cano_len (putP wi sm ps)
    have h2 : sm.length * 3 ^ 3 ≤ 4 * 3 ^ 3 := Nat.mul_le_mul_right _ hs
    have h3 : 4 * 3 ^ 3 < 1000 := by decide
    show (cano (putP wi sm ps)).length < 1000
    omega
  · exact Nat.le_trans (nrm_cano _) (Nat.le_trans hnrm (Nat.mul_le_mul_right _ h.dr.m))
end
section
variable {P : Program} {w : World} {K : PySem.W.Frag} {mg : Str → Option Value} {base : Heap} {k : Nat}
variable {f : Addr} {cdv : Value} {A : Around} {outer : List Env} {s : Shared} {H : Hp} {G : XK}
abbrev ρ2 (j wd : Nat) (p : List Tm) (es : List PyData) (wi : Nat) (sm : List Tm) (ps : List (List Tm)) : Ro := ((((ρ1 j wd p es).set 9 (some (.int wi))).set 10 (some (polD sm))).set 11 (some (.list (ps.map polD)))).set 12 (some (polD (dueP wi sm ps)))
theorem turn_put (F : LawFns P w K mg base) (B : LawBlt mg) (hr : Room 8 (lawX P w K mg base f cdv A outer s H G).A) {n j : Nat} (hn : n + 600 ≤ 1048576)
    {N : Ro → Mo → Prop} {wd : Nat} {p : List Tm} {es : List PyData} (hw : wd ≤ 3)
    (next : ∀ (wi : Nat) (sm : List Tm) (ps : List (List Tm)), PutOk wd wi sm ps → Bk (lawX P w K mg base f cdv A outer s H G) (ρ2 j wd p es wi sm ps) (PM (n + 565)) (turnBody.drop 11) N Rlaw) :
    Bk (lawX P w K mg base f cdv A outer s H G) (ρ1 j wd p es) (PM n) (turnBody.drop 7) N Rlaw := by
  have hu : (lawX P w K mg base f cdv A outer s H G).A.units + 64 < cLine := hr.units
  refine bk_set (i := 9) scLaw.nd rfl (.inr rfl) (ef_draw (i := 1) F.draw (hr.mono (by decide)) (by rfl) pm_at rfl (.inr (.inl rfl)) (by show n + 1 ≤ 1048576; omega) (as_cons e_int as_nil) ⟨_, rfl, by decide, by decide⟩) fun d hd => ?_
  obtain ⟨m, wi, e, rfl, w0, w1⟩ := hd
  injection e with e
  injection e with e
  subst e
  rw [pm_draw, pm_set (by decide)]
  obtain ⟨wi, rfl⟩ : ∃ v : Nat, wi = (v : Int) := ⟨wi.toNat, by omega⟩
  have hwi : wi ≤ 2 := by omega
  refine bk_par (i := 10) (j := 11) (A1 := fun d => ∃ sm, Dr wd (3 : Nat) 4 200 sm ∧ d = polD sm) (A2 := fun d => ∃ es, d = .list es ∧ AllR (fun _ e => ∃ q, Dr wi (2 : Nat) 3 150 q ∧ e = polD q) (upto 0 ((wd : Int)).toNat) es) rfl scLaw.nd rfl rfl (by decide) rfl rfl
    (pm_ef (m := n + 1 + 41) (ef_mono (ef_draw (i := 1) (n := n + 1) F.drawn (hr.mono (by decide)) (by rfl) pm_at rfl (.inr (.inl rfl)) (by show n + 1 + 41 ≤ 1048576; omega) (as_cons (e_name 3 rfl (.inr (.inl rfl)) rfl) (as_cons e_int (as_cons e_int as_nil))) ⟨(wd : Int), 3, 4, rfl, by omega, by omega, by decide, by decide, by decide, by decide⟩) fun d hd => ?_))
    (ef_lc (pn := 1) (cost := 41) (n := n + 1 + 41) (own := [("at", 18)]) (g := gName 18) (ds := upto 0 ((wd : Int)).toNat) (Rel := fun _ e => ∃ q, Dr wi (2 : Nat) 3 150 q ∧ e = polD q)
      (ρ' := fun d => (wipeR ((ρ1 j wd p es).set 9 (some (.int wi))) [18]).set 18 (some d)) rfl scLaw.nd (blkOk_by (own := [("at", 18)]) (N := lawN) (sc := defScope (topS 56)) (by decide +kernel))
      (fun _ _ _ _ _ => pg_name (i := 18) scLaw.nd rfl (Or.inl rfl)) (it_range1 (by rfl) B.range (e_name 3 rfl (.inr (.inl rfl)) rfl)) (fun d _ => gt_name (by simp)) (by decide) (fun d m hd hm => ?_) (by rw [upto_len]; omega)) fun d d' hd hd' => ?_
  · obtain ⟨wd2, dg, tm, m0, e, hk, rfl⟩ := hd
    injection e with e e2
    injection e with e
    injection e2 with e2 e3
    injection e2 with e2
    injection e3 with e3
    injection e3 with e3
    subst e e2 e3
    exact ⟨_, dr_keys hw (by decide) (by decide) hk, rfl⟩
  · rw [upto_len] at hm
    have hm2 : m + 41 ≤ n + 1 + 41 + wd * 41 := hm
    have hm3 : wd * 41 ≤ 3 * 41 := Nat.mul_le_mul_right _ hw
    intro s0 H0 C cl fp
    refine pm_ef (n := m) (m := m + 41) (ef_mono (ef_draw (i := 1) (n := m) F.drawn (hr.mono (by decide)) (by rfl) penMo_same rfl (.inr (.inl rfl)) (by show m + 41 ≤ 1048576; omega) (as_cons (e_name 9 rfl (.inr (.inl rfl)) rfl) (as_cons e_int (as_cons e_int as_nil))) ⟨(wi : Int), 2, 3, rfl, by omega, by omega, by decide, by decide, by decide, by decide⟩) fun d hd => ?_)
    obtain ⟨wd2, dg, tm, m0, e, hk, rfl⟩ := hd
    injection e with e e2
    injection e with e
    injection e2 with e2 e3
    injection e2 with e2
    injection e3 with e3
    injection e3 with e3
    subst e e2 e3
    exact ⟨_, dr_keys (by omega) (by decide) (by decide) hk, rfl⟩
  · obtain ⟨sm, hsm, rfl⟩ := hd
    obtain ⟨es2, rfl, hes⟩ := hd'
    obtain ⟨ps, rfl, hpl, hps⟩ := allr_pols _ _ hes
    rw [upto_len] at hpl ⊢
    have hpl : ps.length = wd := hpl
    rw [pm_set (by decide), pm_set (by decide)]
    have hm3 : ((wd : Int)).toNat * 41 ≤ 3 * 41 := Nat.mul_le_mul_right _ (by omega)
    refine bk_raise (i := 1) (m := n + 165) pm_at (by omega) ?_
    rw [pm_draw]
    have ok : PutOk wd wi sm ps := ⟨hw, hwi, hsm, hpl, hps⟩
    have lsm : Len ps.length sm := by rw [hpl]; exact good_len hsm.g
    have nsm : nrm sm * 150 ^ 3 < 2 ^ 20000 := Nat.lt_of_le_of_lt (Nat.mul_le_mul_right _ hsm.m) nm3_lt
    have ssm : ∀ t ∈ sm, t.2.sum ≤ 3 := fun t ht => hsm.s t ht
    have lsl := hsm.l
    refine bk_set (i := 12) scLaw.nd rfl (.inl rfl) (ef_e (e_call F.lput (hr.mono (by decide)) (by rfl) (as_cons (e_name 10 rfl (.inl rfl) rfl) (as_cons (e_name 11 rfl (.inl rfl) rfl) (as_cons (e_name 9 rfl (.inr (.inl rfl)) rfl) as_nil)))
      ⟨sm, ps, wi, 3, 150, rfl, lsm, good_pos hsm.g, ssm, by omega, nsm, fun q hq => ⟨good_len (hps q hq).g, (hps q hq).l, (hps q hq).m⟩, by decide, by decide, by decide, m3_lt, by omega, by omega, rfl⟩)) fun d hd => ?_
    subst hd
    rw [pm_set (by decide)]
    have nsm1 : nrm sm < 2 ^ 20000 := Nat.lt_of_le_of_lt hsm.m (by decide +kernel)
    refine bk_if1 (B := fun z => z = false) (tf_neD2 (μ1 := PM (n + 565)) (A := fun d => d = polD (dueP wi sm ps)) (B := fun d => d = polD (dueP wi sm ps)) hu
      (ef_callF F.ins hr (by rfl) (af_cons (ef_e (e_name 3 rfl (.inr (.inl rfl)) rfl)) (af_cons (pm_ef (m := n + 165 + 100) (ef_draw (i := 1) (n := n + 165) F.told (hr.mono (by decide)) (by rfl) pm_at rfl (.inr (.inl rfl)) (by show n + 165 + 100 ≤ 1048576; omega) (as_cons (e_name 10 rfl (.inl rfl) rfl) as_nil) ⟨sm, rfl, by omega⟩))
        (af_cons (A := fun e => ∃ l, e = PyData.list l ∧ Pls ps l) (μ1 := PM (n + 565)) ?_ (af_cons (ef_e (e_name 9 rfl (.inr (.inl rfl)) rfl)) af_nil)))) fun ds hds => ?_) (ef_e (e_name 12 rfl (.inl rfl) rfl)) fun d d' h h' => by subst h h'; exact ⟨shaped_polD _, shaped_polD _, eqv_polD _⟩) (fun z => nomatch z) fun _ => ?_
    · have hl : (ps.map polD).length = wd := by rw [List.length_map, hpl]
      have h100 : wd * 100 ≤ 3 * 100 := Nat.mul_le_mul_right _ hw
      have e3 : PM (n + 565) = mu (PM (n + 165 + 100 + (ps.map polD).length * 100)) 1 (some (.pen (n + 565))) := pm_draw.symm
      rw [e3]
      refine ef_raise (i := 1) (ef_mono (ef_lc (pn := 1) (cost := 100) (n := n + 165 + 100) (own := [("poly", 19)]) (g := gName 19) (ds := ps.map polD) (Rel := fun d e => ∀ q, d = polD q → q.length ≤ 100 → PlIs q e)
        (ρ' := fun d => (wipeR (ρ2 j wd p es wi sm ps) [19]).set 19 (some d)) rfl scLaw.nd (blkOk_by (own := [("poly", 19)]) (N := lawN) (sc := defScope (topS 56)) (by decide +kernel))
        (fun _ _ _ _ _ => pg_name (i := 19) scLaw.nd rfl (Or.inl rfl)) (it_list (e_name 11 rfl (.inl rfl) rfl)) (fun d _ => gt_name (by simp)) (by decide) (fun d m hd hm => ?_) (by rw [hl]; omega)) fun d hd => ?_) pm_at (by rw [hl]; omega)
      · obtain ⟨q, hq, rfl⟩ := List.mem_map.mp hd
        rw [hl] at hm
        have hql := (hps q hq).l
        intro s0 H0 C cl fp
        refine pm_ef (n := m) (m := m + 100) (ef_mono (ef_draw (i := 1) (n := m) F.told (hr.mono (by decide)) (by rfl) penMo_same rfl (.inr (.inl rfl)) (by show m + 100 ≤ 1048576; omega) (as_cons (e_name 19 rfl (.inl rfl) rfl) as_nil) ⟨q, rfl, by omega⟩) fun d hd => ?_)
        obtain ⟨q', es', e, rfl, hes'⟩ := hd
        injection e with e _
        have e := polD_inj e
        subst e
        intro q2 e2 _
        have e2 := polD_inj e2
        subst e2
        exact ⟨false, es', rfl, hes'⟩
      · obtain ⟨es', rfl, hes'⟩ := hd
        exact ⟨es', rfl, allr_pls ps es' (fun q hq => by have := (hps q hq).l; omega) hes'⟩
    · obtain ⟨d1, ds1, rfl, rfl, d2, ds2, rfl, hd2, d3, ds3, rfl, ⟨l3, rfl, hd3⟩, d4, ds4, rfl, rfl, rfl⟩ := hds
      obtain ⟨q', es', e, rfl, hes'⟩ := hd2
      injection e with e _
      have e := polD_inj e
      subst e
      refine ⟨_, ⟨sm, false, es', ps, l3, wi, 3, 150, by rw [hpl]; rfl, hes', by rw [hpl]; exact hsm.g, hd3, fun q hq => (hps q hq).g, ssm, by omega, nsm1, fun q hq => ⟨(hps q hq).l, (hps q hq).m⟩, by decide, by decide, by decide, m3_lt, by omega, rfl⟩, rfl⟩
    · exact next wi sm ps ok
end
end R1

set_option Elab.async false
set_option linter.all false
set_option maxRecDepth 100000
set_option maxHeartbeats 4000000
/-! K00W29: the law: numbers, unknowns, constants, order; the law. -/
namespace R1
open PySem PySem.Spec PyProof.Rows L2 Evl
/-! ### order -/
theorem rkLt_trans {a b c : Rk} (h1 : rkLt a b = true) (h2 : rkLt b c = true) : rkLt a c = true := by
  cases h : rkLt a c with
  | true => rfl
  | false =>
    have h3 := rkLt_asym _ _ h1
    rw [rkLt_ntr c a b h h3] at h2
    exact h2
theorem rkLt_irr (a : Rk) : rkLt a a = false := by
  cases h : rkLt a a with
  | false => rfl
  | true =>
    have := rkLt_asym _ _ h
    rw [h] at this
    exact this
theorem ordB_cons (x y : Tm) (l : List Tm) : ordB (x :: y :: l) = (rkLt (rkP y.2) (rkP x.2) && ordB (y :: l)) := rfl
theorem ord_last (t : Tm) : ∀ (r : List Tm) (x : Tm), ordB (x :: (r ++ [t])) = true → rkLt (rkP t.2) (rkP x.2) = true
  | [], x, h => by
    rw [List.nil_append, ordB_cons, Bool.and_eq_true] at h
    exact h.1
  | y :: r, x, h => by
    rw [List.cons_append, ordB_cons, Bool.and_eq_true] at h
    exact rkLt_trans (ord_last t r y h.2) h.1
theorem ordB_twice (p : List Tm) : ordB (p ++ p.take 1) = PyData.eqv (polD p) (polD []) := by
  cases p with
  | nil => rfl
  | cons t r =>
    show ordB (t :: (r ++ [t])) = false
    cases h : ordB (t :: (r ++ [t])) with
    | false => rfl
    | true =>
      have := ord_last t r t h
      rw [rkLt_irr] at this
      cases this
theorem eqvAll_pws : ∀ l : List (List Int), PyData.eqvAll (l.map pwD) (l.map pwD) = true
  | [] => rfl
  | q :: l => by
    show (PyData.eqv (pwD q) (pwD q) && PyData.eqvAll (l.map pwD) (l.map pwD)) = true
    have h : PyData.eqv (pwD q) (pwD q) = true := eqvAll_refl_ints q
    rw [h, eqvAll_pws l]
    rfl
theorem srt_self {wd : Int} {p : List Tm} (h : Good wd p) : srtD (p.map fun t => rkP t.2) = p.map fun t => rkP t.2 := by
  refine (srtD_eq (ks := p.map fun t => rkP t.2) (ns := p.map fun t => rkP t.2) (.refl _) ?_).symm
  rw [List.pairwise_map]
  exact h.o.imp fun {a b} hab => rkLt_asym _ _ hab
theorem good_unk {wd i : Nat} (hw : wd ≤ 3) : Good (wd : Int) (unkP wd i) := by
  refine ⟨fun t ht => ?_, List.pairwise_singleton _ _, by show 1 < 1000; decide, by omega, by omega⟩
  rw [List.mem_singleton.mp ht]
  refine ⟨(by decide : (1 : Int) ≠ 0), by show ((unit wd i).length : Int) = wd; rw [unit_len], fun x hx => ?_⟩
  unfold unit at hx
  obtain ⟨j, _, rfl⟩ := List.mem_map.mp hx
  split <;> decide
/-- numbers from 0 on -/
def ups (n : Nat) : List Int := (List.range n).map fun (i : Nat) => (0 + (i : Int))
theorem upto_ups (n : Nat) : upto 0 n = (ups n).map .int := by
  unfold upto ups
  rw [List.map_map]
  rfl
theorem ups_len (n : Nat) : (ups n).length = n := by unfold ups; rw [List.length_map, List.length_range]
theorem ups_mem {n : Nat} {x : Int} (h : x ∈ ups n) : 0 ≤ x ∧ x < n := by
  unfold ups at h
  obtain ⟨i, hi, rfl⟩ := List.mem_map.mp h
  have := List.mem_range.mp hi
  omega
theorem natAbs_num (w : Nat) (c : Int) : nrm (numP w c) ≤ c.natAbs ∧ (numP w c).length ≤ 1 := by
  unfold numP
  by_cases h : c = 0
  · rw [if_pos h]; exact ⟨Nat.zero_le _, Nat.zero_le _⟩
  · rw [if_neg h]; exact ⟨Nat.le_refl _, Nat.le_refl _⟩
theorem ten20 : 10 ^ 20 ≤ 2 ^ 67 := by decide
section
variable {P : Program} {w : World} {K : PySem.W.Frag} {mg : Str → Option Value} {base : Heap} {k : Nat}
variable {f : Addr} {cdv : Value} {A : Around} {outer : List Env} {s : Shared} {H : Hp} {G : XK}
theorem turn_rest (F : LawFns P w K mg base) (B : LawBlt mg) (hr : Room 8 (lawX P w K mg base f cdv A outer s H G).A) {n j : Nat} (hn : n + 10 ≤ 1048576)
    {N : Ro → Mo → Prop} {wd wi : Nat} {p sm : List Tm} {es : List PyData} {ps : List (List Tm)} (hp : Big wd p) (hes : Tms p es) (ok : PutOk wd wi sm ps) (next : N ρ0 (PM (n + 2))) :
    Bk (lawX P w K mg base f cdv A outer s H G) (ρ2 j wd p es wi sm ps) (PM n) (turnBody.drop 11) N Rlaw := by
  have hu : (lawX P w K mg base f cdv A outer s H G).A.units + 64 < cLine := hr.units
  have hu70 : (lawX P w K mg base f cdv A outer s H G).A.units + 70 < cLine := by
    have : (lawX P w K mg base f cdv A outer s H G).A.units + 16 * 8 + 200 < cLine := hr.un
    omega
  have hw := ok.d3
  have hi := ok.i2
  have hsm := ok.dr
  have hlsm := hsm.l
  obtain ⟨gD, bD, nD⟩ := ok.due
  have e1 : ∀ x : List Tm, (!PyData.eqv (polD x) (polD x)) = false := fun x => by rw [eqv_polD]; rfl
  have ei : ∀ (a : Int), (!decide (a = a)) = false := fun a => by rw [decide_eq_true rfl]; rfl
  refine bk_set (i := 13) scLaw.nd rfl (.inr rfl) (ef_lc (pn := 1) (cost := 1) (n := n) (own := [("at", 18)]) (g := gName 18) (ds := upto 0 ((wi : Int)).toNat) (Rel := fun _ e => ∃ x : Int, e = .int x ∧ x.natAbs ≤ 10 ^ 20)
      (ρ' := fun d => (wipeR (ρ2 j wd p es wi sm ps) [18]).set 18 (some d)) rfl scLaw.nd (blkOk_by (own := [("at", 18)]) (N := lawN) (sc := defScope (topS 56)) (by decide +kernel))
      (fun _ _ _ _ _ => pg_name (i := 18) scLaw.nd rfl (Or.inl rfl)) (it_range1 (by rfl) B.range (e_name 9 rfl (.inr (.inl rfl)) rfl)) (fun d _ => gt_name (by simp)) (by decide) (fun d m hd hm => ?_) (by rw [upto_len]; omega)) fun d hd => ?_
  · rw [upto_len] at hm
    have hm2 : m + 1 ≤ n + wi * 1 := hm
    intro s0 H0 C cl fp
    refine pm_ef (n := m) (m := m + 1) (ef_mono (ef_draw (i := 1) (n := m) F.pick (hr.mono (by decide)) (by rfl) penMo_same rfl (.inr (.inl rfl)) (by show m + 1 ≤ 1048576; omega) (as_cons (e_lst (x1 := 0) (as_cons e_int (as_cons e_int (as_cons (e_neg e_int) (as_cons e_int (as_cons e_int (as_cons (e_neg e_int) (as_cons (e_pow e_int e_int ⟨by decide, by decide, by decide⟩) as_nil))))))) (by show 7 ≤ 100000; decide)) as_nil) ⟨_, rfl, by show 1 ≤ 7; decide, by show 7 ≤ 1000; decide⟩) fun d hd => ?_)
    obtain ⟨es, e, hm⟩ := hd
    injection e with e
    injection e with e
    subst e
    simp only [List.mem_cons, List.not_mem_nil, or_false] at hm
    rcases hm with rfl | rfl | rfl | rfl | rfl | rfl | rfl <;> exact ⟨_, rfl, by decide⟩
  obtain ⟨es2, rfl, hes2⟩ := hd
  obtain ⟨xs, rfl, hxl, hxb⟩ := allr_ints _ _ hes2
  rw [upto_len] at hxl
  have hxl : xs.length = wi := hxl
  rw [upto_len, Nat.mul_one, pm_set (by decide)]
  refine bk_raise (i := 1) (m := n + 2) pm_at (by omega) ?_
  rw [pm_draw]
  have hxb2 : ∀ x ∈ xs, x.natAbs ≤ 2 ^ 67 := fun x hx => Nat.le_trans (hxb x hx) ten20
  have wbD : WB 30 67 12 (dueP wi sm ps) xs := ⟨fun t ht => Nat.lt_of_le_of_lt (Nat.le_trans (nrm_mem ht) nD) (by decide), fun t ht => by
    have h1 := sN_bnd (B := 6) fun x hx => bD t ht x hx
    have h2 := (gD.t t ht).2.1
    have h3 : t.2.length * 6 ≤ 2 * 6 := Nat.mul_le_mul_right _ (by omega)
    omega, hxb2, by decide, by decide⟩
  have wbq : ∀ q ∈ ps, WB 8 67 2 q xs := fun q hq => ⟨fun t ht => Nat.lt_of_le_of_lt (Nat.le_trans (nrm_mem ht) (ok.drs q hq).m) (by decide), (ok.drs q hq).sn, hxb2, by decide, by decide⟩
  have wbs : ∀ ys : List Int, (∀ y ∈ ys, y.natAbs ≤ 2 ^ 142) → WB 8 142 3 sm ys := fun ys hy => ⟨fun t ht => Nat.lt_of_le_of_lt (Nat.le_trans (nrm_mem ht) hsm.m) (by decide), hsm.sn, hy, by decide, by decide⟩
  have hent : ∀ {p : List Tm} {v : Int}, Good v p → ∀ t ∈ p, ∀ n ∈ t.2, 0 ≤ n ∧ n ≤ 1000 := fun {p v} h t ht n hn => (h.t t ht).2.2 n hn
  have hys : ∀ y ∈ ps.map (fun q => worth q xs), y.natAbs ≤ 2 ^ 142 := fun y hy => by
    obtain ⟨q, hq, rfl⟩ := List.mem_map.mp hy
    have h1 := worth_abs (b := 67) (D := 2) hxb2 q 0 (ok.drs q hq).sn
    have h2 : nrm q * 2 ^ (67 * 2) ≤ 150 * 2 ^ (67 * 2) := Nat.mul_le_mul_right _ (ok.drs q hq).m
    have h3 : 150 * 2 ^ (67 * 2) ≤ 2 ^ 142 := by decide
    have h4 : (worth q xs).natAbs ≤ Int.natAbs 0 + nrm q * 2 ^ (67 * 2) := h1
    have h5 : Int.natAbs 0 = 0 := rfl
    rw [h5, Nat.zero_add] at h4
    exact Nat.le_trans h4 (Nat.le_trans h2 h3)
  have hwor : worth (dueP wi sm ps) xs = worth sm (ps.map fun q => worth q xs) := by
    rw [worth_cano, worth_putP xs hxl sm ps fun q hq => ⟨good_len (ok.drs q hq).g, good_pos (ok.drs q hq).g⟩]
  have hx50 : ∀ x ∈ xs, -(10 ^ 50) ≤ x ∧ x ≤ 10 ^ 50 := fun x hx => by
    have := hxb x hx
    have e20 : 10 ^ 20 = 100000000000000000000 := by decide
    have e50 : (10 : Int) ^ 50 = 100000000000000000000000000000000000000000000000000 := by decide
    omega
  have ew : ∀ {X : Cx}, True := fun {X} => trivial
  refine bk_if1 (B := fun z => z = false) (tf_t ((tw_or (k := false) (l := false) ((t_neI (e_call F.whole (hr.mono (by decide)) (by rfl) (as_cons (e_name 9 rfl (.inr (.inl rfl)) rfl) (as_cons (e_name 12 rfl (.inl rfl) rfl) (as_cons (e_name 13 rfl (.inr (.inl rfl)) rfl) as_nil))) ⟨(wi : Int), dueP wi sm ps, true, _, false, xs, 30, 67, 12, rfl, tms_pol _, gD, by omega, hx50, wbD, rfl⟩)
        (e_call F.worth (hr.mono (by decide)) (by rfl) (as_cons (e_name 10 rfl (.inl rfl) rfl) (as_cons ((e_lc (own := [("poly", 19)]) (g := gName 19) (F := fun d => .int (worth (polOfD d) xs)) (ρ' := fun d => (wipeR ((ρ2 j wd p es wi sm ps).set 13 (some (.list (xs.map .int)))) [19]).set 19 (some d)) rfl scLaw.nd (blkOk_by (own := [("poly", 19)]) (N := lawN) (sc := defScope (topS 56)) (by decide +kernel))
          (fun _ _ _ _ _ => pg_name (i := 19) scLaw.nd rfl (Or.inl rfl)) (it_list (e_name 11 rfl (.inl rfl) rfl)) (fun d _ => gt_name (by simp)) (fun d hd => ?_) (by rw [List.length_map, ok.pl]; omega)).eq (show _ = PyData.list ((ps.map fun q => worth q xs).map .int) by rw [List.map_map, List.map_map]; exact congrArg PyData.list (List.map_congr_left fun q _ => by show PyData.int (worth (polOfD (polD q)) xs) = .int (worth q xs); rw [polOfD_is]))) as_nil))
          ⟨sm, false, _, 8, 142, 3, rfl, wbs _ hys, hent hsm.g, rfl⟩)).eq (by rw [hwor]; exact ei _)) fun _ =>
      tw_or1 ((t_neI (e_call F.whole (hr.mono (by decide)) (by rfl) (as_cons (e_name 9 rfl (.inr (.inl rfl)) rfl) (as_cons (e_name 12 rfl (.inl rfl) rfl) (as_cons (e_name 13 rfl (.inr (.inl rfl)) rfl) as_nil))) ⟨(wi : Int), dueP wi sm ps, true, _, false, xs, 30, 67, 12, rfl, tms_pol _, gD, by omega, hx50, wbD, rfl⟩)
        (e_call F.worth (hr.mono (by decide)) (by rfl) (as_cons (e_name 12 rfl (.inl rfl) rfl) (as_cons (e_name 13 rfl (.inr (.inl rfl)) rfl) as_nil)) ⟨dueP wi sm ps, false, xs, 30, 67, 12, rfl, wbD, hent gD, rfl⟩)).eq (ei _))).t)) (fun z => nomatch z) fun _ => ?_
  · obtain ⟨q, hq, rfl⟩ := List.mem_map.mp hd
    rw [polOfD_is]
    intro s0 H0 C cl fp
    exact e_call F.worth (hr.mono (by decide)) (by rfl) (as_cons (e_name 19 rfl (.inl rfl) rfl) (as_cons (e_name 13 rfl (.inr (.inl rfl)) rfl) as_nil)) ⟨q, false, xs, 8, 67, 2, rfl, wbq q hq, hent (ok.drs q hq).g, rfl⟩
  refine bk_setLc (i := 14) (own := [("at", 18)]) (g := gName 18) (ds := upto 0 ((wd : Int)).toNat) (F := fun d => polD (unkP wd (zD d).toNat)) (ρ' := fun d => (wipeR ((ρ2 j wd p es wi sm ps).set 13 (some (.list (xs.map .int)))) [18]).set 18 (some d)) rfl scLaw.nd rfl rfl (sw_true rfl rfl rfl (by decide +kernel)) (blkOk_by (own := [("at", 18)]) (N := lawN) (sc := defScope (topS 56)) (by decide +kernel)) (fun _ _ _ _ _ => pg_name (i := 18) scLaw.nd rfl (Or.inl rfl)) (it_range1 (by rfl) B.range (e_name 3 rfl (.inr (.inl rfl)) rfl)) (fun d _ => gt_name (by simp)) (fun d hd => ?_) (by rw [upto_len]; omega) ?_
  · obtain ⟨i, hi', rfl⟩ := List.mem_map.mp hd
    intro s0 H0 C cl fp
    have e0 : (zD (.int (0 + (i : Int)))).toNat = i := by show (0 + (i : Int)).toNat = i; omega
    rw [e0]
    refine e_call F.unk (hr.mono (by decide)) (by rfl) (as_cons (e_name 3 rfl (.inr (.inl rfl)) rfl) (as_cons ((e_name 18 rfl (.inl rfl) rfl).eq (show _ = PyData.int (i : Int) by rw [Int.zero_add])) as_nil)) ⟨wd, i, rfl, by omega, rfl⟩
  rw [pm_set (by decide)]
  have eun : (upto 0 ((wd : Int)).toNat).map (fun d => polD (unkP wd (zD d).toNat)) = ((List.range wd).map (unkP wd)).map polD := by
    unfold upto
    rw [List.map_map, List.map_map]
    refine List.map_congr_left fun i _ => ?_
    show polD (unkP wd (0 + (i : Int)).toNat) = polD (unkP wd i)
    rw [show (0 + (i : Int)).toNat = i by omega]
  rw [eun]
  have hul : ((List.range wd).map (unkP wd)).length = wd := by rw [List.length_map, List.length_range]
  have hcl : ((ups wd).map (numP wi)).length = wd := by rw [List.length_map, ups_len]
  have ssm : ∀ t ∈ sm, t.2.sum ≤ 3 := fun t ht => hsm.s t ht
  have nsm1 : nrm sm < 2 ^ 20000 := Nat.lt_of_le_of_lt hsm.m (by decide +kernel)
  have hcs : ∀ y ∈ ups wd, y.natAbs ≤ 2 ^ 142 := fun y hy => by
    have := ups_mem hy
    have e : 3 ≤ 2 ^ 142 := by decide
    omega
  refine bk_if1 (B := fun z => z = false) (tf_t ((tw_or (k := false) (l := false) ((t_neD hu (e_call F.ins hr (by rfl) (as_cons (e_name 3 rfl (.inr (.inl rfl)) rfl) (as_cons (e_name 10 rfl (.inl rfl) rfl) (as_cons (e_name 14 rfl (.inl rfl) rfl) (as_cons (e_name 3 rfl (.inr (.inl rfl)) rfl) as_nil))))
          ⟨sm, true, _, (List.range wd).map (unkP wd), _, wd, 3, 150, by rw [hul]; rfl, tms_pol sm, by rw [hul]; exact hsm.g, pls_pol _, fun q hq => by obtain ⟨i, _, rfl⟩ := List.mem_map.mp hq; exact good_unk hw, ssm, by omega, nsm1, fun q hq => by obtain ⟨i, _, rfl⟩ := List.mem_map.mp hq; exact ⟨by show 1 ≤ 3; decide, by show 1 ≤ 150; decide⟩, by decide, by decide, by decide, m3_lt, by omega, rfl⟩)
        (e_name 10 rfl (.inl rfl) rfl) (shaped_polD _) (shaped_polD _)).eq (by rw [(putP_unk (good_len hsm.g) (good_pos hsm.g)).eq, hsm.c]; exact e1 _)) fun _ =>
      tw_or1 ((t_neD hu (e_call F.ins hr (by rfl) (as_cons (e_name 3 rfl (.inr (.inl rfl)) rfl) (as_cons (e_name 10 rfl (.inl rfl) rfl) (as_cons ((e_lc (own := [("number", 20)]) (g := gName 20) (ds := upto 0 ((wd : Int)).toNat) (F := fun d => polD (numP wi (zD d))) (ρ' := fun d => (wipeR (((ρ2 j wd p es wi sm ps).set 13 (some (.list (xs.map .int)))).set 14 (some (.list (((List.range wd).map (unkP wd)).map polD)))) [20]).set 20 (some d)) rfl scLaw.nd (blkOk_by (own := [("number", 20)]) (N := lawN) (sc := defScope (topS 56)) (by decide +kernel))
          (fun _ _ _ _ _ => pg_name (i := 20) scLaw.nd rfl (Or.inl rfl)) (it_range1 (by rfl) B.range (e_name 3 rfl (.inr (.inl rfl)) rfl)) (fun d _ => gt_name (by simp)) (fun d hd => ?_) (by rw [upto_len]; omega)).eq (show _ = PyData.list (((ups wd).map (numP wi)).map polD) by
            rw [show ((wd : Int)).toNat = wd by omega, upto_ups, List.map_map, List.map_map]; rfl)) (as_cons (e_name 9 rfl (.inr (.inl rfl)) rfl) as_nil))))
          ⟨sm, true, _, (ups wd).map (numP wi), _, wi, 3, 150, by rw [hcl]; rfl, tms_pol sm, by rw [hcl]; exact hsm.g, pls_pol _, fun q hq => by obtain ⟨c, _, rfl⟩ := List.mem_map.mp hq; exact good_num (by omega) c, ssm, by omega, nsm1, fun q hq => by
            obtain ⟨c, hc, rfl⟩ := List.mem_map.mp hq
            have h1 := natAbs_num wi c
            have h2 := ups_mem hc
            exact ⟨by omega, by omega⟩, by decide, by decide, by decide, m3_lt, by omega, rfl⟩)
        (e_call F.con (hr.mono (by decide)) (by rfl) (as_cons (e_name 9 rfl (.inr (.inl rfl)) rfl) (as_cons (e_call F.worth (hr.mono (by decide)) (by rfl) (as_cons (e_name 10 rfl (.inl rfl) rfl) (as_cons ((e_listRng (n := wd) rfl (by rfl) B.list (by rfl) B.range (by omega) (e_name 3 rfl (.inr (.inl rfl)) rfl)).eq (show _ = seqD false ((ups wd).map .int) by rw [upto_ups]; rfl)) as_nil)) ⟨sm, false, ups wd, 8, 142, 3, rfl, wbs _ hcs, hent hsm.g, rfl⟩) as_nil)) ⟨wi, worth sm (ups wd), rfl, by omega, rfl⟩) (shaped_polD _) (shaped_polD _)).eq (by rw [(putP_num wi sm (ups wd)).eq, numP_cano]; exact e1 _))).t)) (fun z => nomatch z) fun _ => ?_
  · obtain ⟨i, hi', rfl⟩ := List.mem_map.mp hd
    intro s0 H0 C cl fp
    exact e_call F.con (hr.mono (by decide)) (by rfl) (as_cons (e_name 9 rfl (.inr (.inl rfl)) rfl) (as_cons (e_name 20 rfl (.inl rfl) rfl) as_nil)) ⟨wi, _, rfl, by omega, rfl⟩
  have hpl := hp.l
  have htm : ∀ t ∈ p, TmOk (wd : Int) t := fun t ht => hp.g.t t ht
  refine bk_if1 (B := fun z => z = false) (tf_t ((tw_or (k := false) (l := false) ((t_not (t_val (e_call F.isp (hr.mono (by decide)) (by rfl) (as_cons (e_name 3 rfl (.inr (.inl rfl)) rfl) (as_cons (e_name 6 rfl (.inl rfl) rfl) as_nil)) ⟨(wd : Int), p, false, es, rfl, hes, htm, by omega, by omega, rfl⟩))).eq (by rw [ordB_good hp.g]; rfl)) fun _ =>
      tw_or (k := false) (l := false) ((t_neD hu (e_call F.isp (hr.mono (by decide)) (by rfl) (as_cons (e_name 3 rfl (.inr (.inl rfl)) rfl) (as_cons ((e_catT (e_name 4 rfl (.inl rfl) rfl) (e_upT (n := 1) (e_name 4 rfl (.inl rfl) rfl)) (by rw [List.length_take, List.length_map]; omega)).eq (show _ = polD (p ++ p.take 1) by unfold polD; rw [List.map_append, List.map_take])) as_nil))
          ⟨(wd : Int), p ++ p.take 1, true, _, rfl, tms_pol _, fun t ht => (List.mem_append.mp ht).elim (htm t) fun h => htm t (List.mem_of_mem_take h), by rw [List.length_append, List.length_take]; omega, by omega, rfl⟩)
        (e_eqD hu (e_name 4 rfl (.inl rfl) rfl) (e_tup as_nil (by show 0 ≤ 100000; decide)) (shaped_polD _) (shaped_polD [])) rfl rfl).eq (by rw [ordB_twice]; show (!(PyData.eqv (polD p) (polD []) == PyData.eqv (polD p) (polD []))) = false; rw [beq_self_eq_true]; rfl)) fun _ =>
      tw_or1 ((t_neD (d := .list ((p.map (·.2)).map pwD)) (d' := .list ((p.map (·.2)).map pwD)) hu ((e_lc (own := [("term", 21)]) (g := gName 21) (ds := p.map tmD) (F := sndD) (ρ' := fun d => (wipeR (((ρ2 j wd p es wi sm ps).set 13 (some (.list (xs.map .int)))).set 14 (some (.list (((List.range wd).map (unkP wd)).map polD)))) [21]).set 21 (some d)) rfl scLaw.nd (blkOk_by (own := [("term", 21)]) (N := lawN) (sc := defScope (topS 56)) (by decide +kernel))
          (fun _ _ _ _ _ => pg_name (i := 21) scLaw.nd rfl (Or.inl rfl)) (it_tup (e_name 4 rfl (.inl rfl) rfl)) (fun d _ => gt_name (by simp)) (fun d hd => ?_) (by rw [List.length_map]; omega)).eq (by rw [List.map_map, List.map_map]; rfl))
        ((e_lc (own := [("degree", 22), ("powers", 17)]) (g := gTup K 2 (gCons (gName 22) (gCons (gName 17) gNil))) (ds := (p.map fun t => rkP t.2).map rkD) (F := sndD) (ρ' := fun d => ((wipeR (((ρ2 j wd p es wi sm ps).set 13 (some (.list (xs.map .int)))).set 14 (some (.list (((List.range wd).map (unkP wd)).map polD)))) [22, 17]).set 22 (some (fstD d))).set 17 (some (sndD d))) rfl scLaw.nd (blkOk_by (own := [("degree", 22), ("powers", 17)]) (N := lawN) (sc := defScope (topS 56)) (by decide +kernel))
          (fun _ _ _ _ _ => pg_tup rfl (pgs_cons (pg_name (i := 22) scLaw.nd rfl (Or.inl rfl)) (pgs_cons (pg_name (i := 17) scLaw.nd rfl (Or.inl rfl)) pgs_nil))) (it_list ((e_sortRk (ks := p.map fun t => rkP t.2) hu70 (by rfl) B.sorted ((e_lc (own := [("term", 21)]) (g := gName 21) (ds := p.map tmD) (F := fun d => rkD (rkP (keyD (sndD d)))) (ρ' := fun d => (wipeR (((ρ2 j wd p es wi sm ps).set 13 (some (.list (xs.map .int)))).set 14 (some (.list (((List.range wd).map (unkP wd)).map polD)))) [21]).set 21 (some d)) rfl scLaw.nd (blkOk_by (own := [("term", 21)]) (N := lawN) (sc := defScope (topS 56)) (by decide +kernel))
            (fun _ _ _ _ _ => pg_name (i := 21) scLaw.nd rfl (Or.inl rfl)) (it_tup (e_name 4 rfl (.inl rfl) rfl)) (fun d _ => gt_name (by simp)) (fun d hd => ?_) (by rw [List.length_map]; omega)).eq (by rw [List.map_map, List.map_map]; exact congrArg PyData.list (List.map_congr_left fun t _ => by show rkD (rkP (keyD (pwD t.2))) = rkD (rkP t.2); rw [keyD_pw])))).eq (by rw [srt_self hp.g]))) (fun d hd => ?_) (fun d hd => ?_) (by rw [List.length_map, List.length_map]; omega)).eq (by rw [List.map_map, List.map_map, List.map_map]; rfl))
        (shaped_list fun d hd => by obtain ⟨q, _, rfl⟩ := List.mem_map.mp hd; exact shp_pw q) (shaped_list fun d hd => by obtain ⟨q, _, rfl⟩ := List.mem_map.mp hd; exact shp_pw q)).eq (by show (!PyData.eqvAll ((p.map (·.2)).map pwD) ((p.map (·.2)).map pwD)) = false; rw [eqvAll_pws]; rfl))).t)) (fun z => nomatch z) fun _ => ?_
  · obtain ⟨t, ht, rfl⟩ := List.mem_map.mp hd
    intro s0 H0 C cl fp
    exact e_ix (k := true) (e_name 21 rfl (.inl rfl) rfl) e_int rfl
  · obtain ⟨t, ht, rfl⟩ := List.mem_map.mp hd
    intro s0 H0 C cl fp
    show E _ _ _ (rkD (rkP (keyD (pwD t.2))))
    rw [keyD_pw]
    exact e_tup (as_cons (e_sumT (ns := t.2) rfl (by rfl) B.sum (e_ix (k := true) (e_name 21 rfl (.inl rfl) rfl) e_int rfl)) (as_cons (e_ix (k := true) (d := pwD t.2) (e_name 21 rfl (.inl rfl) rfl) e_int rfl) as_nil)) (by show 2 ≤ 100000; decide)
  · obtain ⟨r, hr', rfl⟩ := List.mem_map.mp hd
    obtain ⟨t, ht, rfl⟩ := List.mem_map.mp hr'
    exact gt_tup2 (by simp) (by simp)
  · obtain ⟨r, hr', rfl⟩ := List.mem_map.mp hd
    obtain ⟨t, ht, rfl⟩ := List.mem_map.mp hr'
    intro s0 H0 C cl fp
    exact e_name 17 rfl (.inl rfl) rfl
  refine bk_forget (ρ' := ρ0) (by repeat (first | exact .nil | refine .keep ?_ | refine .drop ?_)) (bk_nil next)
theorem fn_law (D : Dfn K mg "law" (topS 56)) (F : LawFns P w K mg base) (B : LawBlt mg) : Fn P w K mg base "law" 9 ["script"] (spLaw K) :=
  fn_mk (k := 8) D scLaw (fun vs H Q E h => by obtain ⟨a, ns, rfl, _⟩ := h; rfl) (fun kV doc pm an cdv ct us hl => by
    match us, hl with
    | [a], _ => rfl) fun f cdv A outer s H G hr vs Q h => by
    obtain ⟨a, ns, rfl, hS, hl, q⟩ := h
    have hr' : Room 8 (lawX P w K mg base f cdv A outer s H G).A := hr
    refine ws_set (i := 1) scLaw.nd rfl (.inr rfl) (we_call F.pen (hr'.mono (by decide)) (by rfl) (wa_of (pa_cons pe_we pa_nil rfl) (we_of (pe_var (i := 0) rfl (.inl rfl) (by decide) (by decide)) ⟨.ref a, rfl, a, ns, rfl, hS, hl, fun I1 H1 p c cs n1 hc hp => ?_⟩)))
    have hx : Ex I1 (upd H1 p (.lst [.ref c, .int 0, .int 0])) := n1.j.trans (Ex.new hp)
    have hi : I1 p = none := fresh_back n1.j hp
    have F0 : Fr (fun a => a = p) I1 (upd H1 p (.lst [.ref c, .int 0, .int 0])) I1 (upd H1 p (.lst [.ref c, .int 0, .int 0])) ((L2.start lawN [V.ref a]).set 1 (some (.ref p))) ρ0 (fun j => if j = 1 then some (.opn [.list (cs.map .int), .int 0, .int 0]) else none) (fun _ => p) := by
      refine ⟨Nx.refl hx, ⟨rfl, fun i d e => ?_⟩, fun i md e => ?_, fun i j a b _ => ?_⟩
      · exfalso
        have : ∀ (l : List (Option PyData)) (i : Nat), (∀ x ∈ l, x = none) → l[i]? ≠ some (some d) := fun l i h z => by
          have := h _ (List.mem_of_getElem? z)
          cases this
        exact this ρ0 i (by simp) e
      · by_cases h1 : i = 1
        · subst h1
          rw [if_pos rfl] at e
          cases e
          exact ⟨rfl, ⟨_, upd_same, .cons (.lst hc (rpAll_ints cs)) (.cons (.int _) (.cons (.int _) .nil))⟩, hi, fun z => (nomatch z), fun _ => rfl⟩
        · rw [if_neg h1] at e
          cases e
      · by_cases h1 : i = 1
        · by_cases h2 : j = 1
          · rw [h1, h2]
          · exact absurd (if_neg h2) b
        · exact absurd (if_neg h1) a
    have hb : Bk (lawX P w K mg base f cdv A outer s H G) ρ0 (fun j => if j = 1 then some (.opn [.list (cs.map .int), .int 0, .int 0]) else none) (lawBody.drop 1) (fun _ _ => False) Rlaw := by
      refine bk_close (i := 1) (n := 0) (if_pos rfl) (by decide) (by decide) ?_
      have e0 : mu (fun j => if j = 1 then some (MD.opn [.list (cs.map .int), .int 0, .int 0]) else none) 1 (some (.pen 0)) = PM 0 := mo_eq mu_same fun i h => by
        rw [mu_ne h]
        exact if_neg h
      rw [e0]
      refine bk_for (ts := [2]) (fun j ρ μ => ρ = ρ0 ∧ μ = PM (900 * j)) PassesOwn.never rfl (pg_name (i := 2) scLaw.nd rfl (Or.inl rfl)) (it_range1 (n := 5) (by rfl) B.range e_int) ⟨rfl, rfl⟩ (fun j d ρj μj hd hI => ?_) fun ρ' μ' hI => ?_
      · obtain ⟨rfl, rfl⟩ := hI
        have hj : j < 5 := by
          have := (List.getElem?_eq_some_iff.mp hd).1
          rwa [upto_len] at this
        rw [upto_get (by exact hj)] at hd
        injection hd with hd
        subst hd
        refine ⟨_, gt_name (by simp), fun t ht => pm_none (by simp at ht; omega), ?_⟩
        exact turn_draw F B hr' (n := 900 * j) (by omega) fun wd p q hw hp hq => turn_sums F B hr' (by omega) hw hp hq fun es hes => turn_put F B hr' (by omega) hw fun wi sm ps ok => turn_rest F B hr' (by omega) hp hes ok ⟨rfl, by rw [Nat.mul_succ]⟩
      · obtain ⟨rfl, rfl⟩ := hI
        exact bk_ret (ef_e e_bool) fun d hd => hd
    refine hb _ _ _ _ _ _ _ _ F0 (fun _ _ _ _ _ _ _ z => z.elim) fun v d I' H' σ' ρ' μ' α' F' r hd => ?_
    have hd : d = .bool true := hd
    subst hd
    cases r
    exact q _
end
end R1

set_option Elab.async false
set_option linter.all false
set_option maxRecDepth 100000
set_option maxHeartbeats 4000000
/-! what the top has written; the law's own head. -/
namespace R1
open PySem PySem.Spec PyProof.Rows L2 Evl
theorem dfn_of {K : PySem.W.Frag} {h : Heap} {mg : Str → Option Value} (X : K.In h) (G : h.Ns mainGlobals mg) {x : Str} {st : Stmt} {f : Addr} {oc : Value} {od an : Option Addr} {osl : Array (Option Value)} {kV doc pm cdv ct : Value} (a : PySem.W.nsIn K mainGlobals x = some (some (.ref f))) (l : K.lookup f = some ⟨oc, od, .func (PySem.W.fnOf x x (defArgs st) (defBody st) (defScope st) .none kV doc pm an cdv ct), osl⟩) (c : PySem.W.codeIn K cdv x = true) (k : PySem.W.keepIn K (.ref f) = true) : Dfn K mg x st := ⟨f, _, PySem.W.mg_of X G a, fun_mk l c k⟩
theorem all_defs {l : PySem.W.OpenLaw} {w : World} {K : PySem.W.Frag} {h : Heap} {mg : Str → Option Value} {fa : Addr} (X : K.In h) (G : h.Ns mainGlobals mg) (hfa : mg "law" = some (.ref fa))
    {f0 : Addr} {od0 an0 : Option Addr} {sl0 : Array (Option Value)} {oc0 kV0 dc0 pm0 cd0 ct0 : Value}
    (a0 : PySem.W.nsIn K mainGlobals "is_integer" = some (some (.ref f0))) (l0 : K.lookup f0 = some ⟨oc0, od0, .func (PySem.W.fnOf "is_integer" "is_integer" (defArgs (topS 2)) (defBody (topS 2)) (defScope (topS 2)) .none kV0 dc0 pm0 an0 cd0 ct0), sl0⟩) (c0 : PySem.W.codeIn K cd0 "is_integer" = true) (k0 : PySem.W.keepIn K (.ref f0) = true)
    {f1 : Addr} {od1 an1 : Option Addr} {sl1 : Array (Option Value)} {oc1 kV1 dc1 pm1 cd1 ct1 : Value}
    (a1 : PySem.W.nsIn K mainGlobals "is_within" = some (some (.ref f1))) (l1 : K.lookup f1 = some ⟨oc1, od1, .func (PySem.W.fnOf "is_within" "is_within" (defArgs (topS 3)) (defBody (topS 3)) (defScope (topS 3)) .none kV1 dc1 pm1 an1 cd1 ct1), sl1⟩) (c1 : PySem.W.codeIn K cd1 "is_within" = true) (k1 : PySem.W.keepIn K (.ref f1) = true)
    {f2 : Addr} {od2 an2 : Option Addr} {sl2 : Array (Option Value)} {oc2 kV2 dc2 pm2 cd2 ct2 : Value}
    (a2 : PySem.W.nsIn K mainGlobals "is_listed" = some (some (.ref f2))) (l2 : K.lookup f2 = some ⟨oc2, od2, .func (PySem.W.fnOf "is_listed" "is_listed" (defArgs (topS 4)) (defBody (topS 4)) (defScope (topS 4)) .none kV2 dc2 pm2 an2 cd2 ct2), sl2⟩) (c2 : PySem.W.codeIn K cd2 "is_listed" = true) (k2 : PySem.W.keepIn K (.ref f2) = true)
    {f3 : Addr} {od3 an3 : Option Addr} {sl3 : Array (Option Value)} {oc3 kV3 dc3 pm3 cd3 ct3 : Value}
    (a3 : PySem.W.nsIn K mainGlobals "is_row" = some (some (.ref f3))) (l3 : K.lookup f3 = some ⟨oc3, od3, .func (PySem.W.fnOf "is_row" "is_row" (defArgs (topS 5)) (defBody (topS 5)) (defScope (topS 5)) .none kV3 dc3 pm3 an3 cd3 ct3), sl3⟩) (c3 : PySem.W.codeIn K cd3 "is_row" = true) (k3 : PySem.W.keepIn K (.ref f3) = true)
    {f4 : Addr} {od4 an4 : Option Addr} {sl4 : Array (Option Value)} {oc4 kV4 dc4 pm4 cd4 ct4 : Value}
    (a4 : PySem.W.nsIn K mainGlobals "is_numbers" = some (some (.ref f4))) (l4 : K.lookup f4 = some ⟨oc4, od4, .func (PySem.W.fnOf "is_numbers" "is_numbers" (defArgs (topS 6)) (defBody (topS 6)) (defScope (topS 6)) .none kV4 dc4 pm4 an4 cd4 ct4), sl4⟩) (c4 : PySem.W.codeIn K cd4 "is_numbers" = true) (k4 : PySem.W.keepIn K (.ref f4) = true)
    {f5 : Addr} {od5 an5 : Option Addr} {sl5 : Array (Option Value)} {oc5 kV5 dc5 pm5 cd5 ct5 : Value}
    (a5 : PySem.W.nsIn K mainGlobals "rank_of" = some (some (.ref f5))) (l5 : K.lookup f5 = some ⟨oc5, od5, .func (PySem.W.fnOf "rank_of" "rank_of" (defArgs (topS 14)) (defBody (topS 14)) (defScope (topS 14)) .none kV5 dc5 pm5 an5 cd5 ct5), sl5⟩) (c5 : PySem.W.codeIn K cd5 "rank_of" = true) (k5 : PySem.W.keepIn K (.ref f5) = true)
    {f6 : Addr} {od6 an6 : Option Addr} {sl6 : Array (Option Value)} {oc6 kV6 dc6 pm6 cd6 ct6 : Value}
    (a6 : PySem.W.nsIn K mainGlobals "is_powers" = some (some (.ref f6))) (l6 : K.lookup f6 = some ⟨oc6, od6, .func (PySem.W.fnOf "is_powers" "is_powers" (defArgs (topS 15)) (defBody (topS 15)) (defScope (topS 15)) .none kV6 dc6 pm6 an6 cd6 ct6), sl6⟩) (c6 : PySem.W.codeIn K cd6 "is_powers" = true) (k6 : PySem.W.keepIn K (.ref f6) = true)
    {f7 : Addr} {od7 an7 : Option Addr} {sl7 : Array (Option Value)} {oc7 kV7 dc7 pm7 cd7 ct7 : Value}
    (a7 : PySem.W.nsIn K mainGlobals "is_term" = some (some (.ref f7))) (l7 : K.lookup f7 = some ⟨oc7, od7, .func (PySem.W.fnOf "is_term" "is_term" (defArgs (topS 16)) (defBody (topS 16)) (defScope (topS 16)) .none kV7 dc7 pm7 an7 cd7 ct7), sl7⟩) (c7 : PySem.W.codeIn K cd7 "is_term" = true) (k7 : PySem.W.keepIn K (.ref f7) = true)
    {f8 : Addr} {od8 an8 : Option Addr} {sl8 : Array (Option Value)} {oc8 kV8 dc8 pm8 cd8 ct8 : Value}
    (a8 : PySem.W.nsIn K mainGlobals "is_poly" = some (some (.ref f8))) (l8 : K.lookup f8 = some ⟨oc8, od8, .func (PySem.W.fnOf "is_poly" "is_poly" (defArgs (topS 17)) (defBody (topS 17)) (defScope (topS 17)) .none kV8 dc8 pm8 an8 cd8 ct8), sl8⟩) (c8 : PySem.W.codeIn K cd8 "is_poly" = true) (k8 : PySem.W.keepIn K (.ref f8) = true)
    {f9 : Addr} {od9 an9 : Option Addr} {sl9 : Array (Option Value)} {oc9 kV9 dc9 pm9 cd9 ct9 : Value}
    (a9 : PySem.W.nsIn K mainGlobals "as_poly" = some (some (.ref f9))) (l9 : K.lookup f9 = some ⟨oc9, od9, .func (PySem.W.fnOf "as_poly" "as_poly" (defArgs (topS 18)) (defBody (topS 18)) (defScope (topS 18)) .none kV9 dc9 pm9 an9 cd9 ct9), sl9⟩) (c9 : PySem.W.codeIn K cd9 "as_poly" = true) (k9 : PySem.W.keepIn K (.ref f9) = true)
    {f10 : Addr} {od10 an10 : Option Addr} {sl10 : Array (Option Value)} {oc10 kV10 dc10 pm10 cd10 ct10 : Value}
    (a10 : PySem.W.nsIn K mainGlobals "need_poly" = some (some (.ref f10))) (l10 : K.lookup f10 = some ⟨oc10, od10, .func (PySem.W.fnOf "need_poly" "need_poly" (defArgs (topS 19)) (defBody (topS 19)) (defScope (topS 19)) .none kV10 dc10 pm10 an10 cd10 ct10), sl10⟩) (c10 : PySem.W.codeIn K cd10 "need_poly" = true) (k10 : PySem.W.keepIn K (.ref f10) = true)
    {f11 : Addr} {od11 an11 : Option Addr} {sl11 : Array (Option Value)} {oc11 kV11 dc11 pm11 cd11 ct11 : Value}
    (a11 : PySem.W.nsIn K mainGlobals "need_polys" = some (some (.ref f11))) (l11 : K.lookup f11 = some ⟨oc11, od11, .func (PySem.W.fnOf "need_polys" "need_polys" (defArgs (topS 20)) (defBody (topS 20)) (defScope (topS 20)) .none kV11 dc11 pm11 an11 cd11 ct11), sl11⟩) (c11 : PySem.W.codeIn K cd11 "need_polys" = true) (k11 : PySem.W.keepIn K (.ref f11) = true)
    {f12 : Addr} {od12 an12 : Option Addr} {sl12 : Array (Option Value)} {oc12 kV12 dc12 pm12 cd12 ct12 : Value}
    (a12 : PySem.W.nsIn K mainGlobals "as_dict" = some (some (.ref f12))) (l12 : K.lookup f12 = some ⟨oc12, od12, .func (PySem.W.fnOf "as_dict" "as_dict" (defArgs (topS 21)) (defBody (topS 21)) (defScope (topS 21)) .none kV12 dc12 pm12 an12 cd12 ct12), sl12⟩) (c12 : PySem.W.codeIn K cd12 "as_dict" = true) (k12 : PySem.W.keepIn K (.ref f12) = true)
    {f13 : Addr} {od13 an13 : Option Addr} {sl13 : Array (Option Value)} {oc13 kV13 dc13 pm13 cd13 ct13 : Value}
    (a13 : PySem.W.nsIn K mainGlobals "of_dict" = some (some (.ref f13))) (l13 : K.lookup f13 = some ⟨oc13, od13, .func (PySem.W.fnOf "of_dict" "of_dict" (defArgs (topS 22)) (defBody (topS 22)) (defScope (topS 22)) .none kV13 dc13 pm13 an13 cd13 ct13), sl13⟩) (c13 : PySem.W.codeIn K cd13 "of_dict" = true) (k13 : PySem.W.keepIn K (.ref f13) = true)
    {f14 : Addr} {od14 an14 : Option Addr} {sl14 : Array (Option Value)} {oc14 kV14 dc14 pm14 cd14 ct14 : Value}
    (a14 : PySem.W.nsIn K mainGlobals "put_to" = some (some (.ref f14))) (l14 : K.lookup f14 = some ⟨oc14, od14, .func (PySem.W.fnOf "put_to" "put_to" (defArgs (topS 23)) (defBody (topS 23)) (defScope (topS 23)) .none kV14 dc14 pm14 an14 cd14 ct14), sl14⟩) (c14 : PySem.W.codeIn K cd14 "put_to" = true) (k14 : PySem.W.keepIn K (.ref f14) = true)
    {f15 : Addr} {od15 an15 : Option Addr} {sl15 : Array (Option Value)} {oc15 kV15 dc15 pm15 cd15 ct15 : Value}
    (a15 : PySem.W.nsIn K mainGlobals "sum_of" = some (some (.ref f15))) (l15 : K.lookup f15 = some ⟨oc15, od15, .func (PySem.W.fnOf "sum_of" "sum_of" (defArgs (topS 24)) (defBody (topS 24)) (defScope (topS 24)) .none kV15 dc15 pm15 an15 cd15 ct15), sl15⟩) (c15 : PySem.W.codeIn K cd15 "sum_of" = true) (k15 : PySem.W.keepIn K (.ref f15) = true)
    {f16 : Addr} {od16 an16 : Option Addr} {sl16 : Array (Option Value)} {oc16 kV16 dc16 pm16 cd16 ct16 : Value}
    (a16 : PySem.W.nsIn K mainGlobals "less_of" = some (some (.ref f16))) (l16 : K.lookup f16 = some ⟨oc16, od16, .func (PySem.W.fnOf "less_of" "less_of" (defArgs (topS 25)) (defBody (topS 25)) (defScope (topS 25)) .none kV16 dc16 pm16 an16 cd16 ct16), sl16⟩) (c16 : PySem.W.codeIn K cd16 "less_of" = true) (k16 : PySem.W.keepIn K (.ref f16) = true)
    {f17 : Addr} {od17 an17 : Option Addr} {sl17 : Array (Option Value)} {oc17 kV17 dc17 pm17 cd17 ct17 : Value}
    (a17 : PySem.W.nsIn K mainGlobals "product_of" = some (some (.ref f17))) (l17 : K.lookup f17 = some ⟨oc17, od17, .func (PySem.W.fnOf "product_of" "product_of" (defArgs (topS 26)) (defBody (topS 26)) (defScope (topS 26)) .none kV17 dc17 pm17 an17 cd17 ct17), sl17⟩) (c17 : PySem.W.codeIn K cd17 "product_of" = true) (k17 : PySem.W.keepIn K (.ref f17) = true)
    {f18 : Addr} {od18 an18 : Option Addr} {sl18 : Array (Option Value)} {oc18 kV18 dc18 pm18 cd18 ct18 : Value}
    (a18 : PySem.W.nsIn K mainGlobals "constant_of" = some (some (.ref f18))) (l18 : K.lookup f18 = some ⟨oc18, od18, .func (PySem.W.fnOf "constant_of" "constant_of" (defArgs (topS 27)) (defBody (topS 27)) (defScope (topS 27)) .none kV18 dc18 pm18 an18 cd18 ct18), sl18⟩) (c18 : PySem.W.codeIn K cd18 "constant_of" = true) (k18 : PySem.W.keepIn K (.ref f18) = true)
    {f19 : Addr} {od19 an19 : Option Addr} {sl19 : Array (Option Value)} {oc19 kV19 dc19 pm19 cd19 ct19 : Value}
    (a19 : PySem.W.nsIn K mainGlobals "power_of" = some (some (.ref f19))) (l19 : K.lookup f19 = some ⟨oc19, od19, .func (PySem.W.fnOf "power_of" "power_of" (defArgs (topS 28)) (defBody (topS 28)) (defScope (topS 28)) .none kV19 dc19 pm19 an19 cd19 ct19), sl19⟩) (c19 : PySem.W.codeIn K cd19 "power_of" = true) (k19 : PySem.W.keepIn K (.ref f19) = true)
    {f20 : Addr} {od20 an20 : Option Addr} {sl20 : Array (Option Value)} {oc20 kV20 dc20 pm20 cd20 ct20 : Value}
    (a20 : PySem.W.nsIn K mainGlobals "put_into" = some (some (.ref f20))) (l20 : K.lookup f20 = some ⟨oc20, od20, .func (PySem.W.fnOf "put_into" "put_into" (defArgs (topS 29)) (defBody (topS 29)) (defScope (topS 29)) .none kV20 dc20 pm20 an20 cd20 ct20), sl20⟩) (c20 : PySem.W.codeIn K cd20 "put_into" = true) (k20 : PySem.W.keepIn K (.ref f20) = true)
    {f21 : Addr} {od21 an21 : Option Addr} {sl21 : Array (Option Value)} {oc21 kV21 dc21 pm21 cd21 ct21 : Value}
    (a21 : PySem.W.nsIn K mainGlobals "need_width" = some (some (.ref f21))) (l21 : K.lookup f21 = some ⟨oc21, od21, .func (PySem.W.fnOf "need_width" "need_width" (defArgs (topS 30)) (defBody (topS 30)) (defScope (topS 30)) .none kV21 dc21 pm21 an21 cd21 ct21), sl21⟩) (c21 : PySem.W.codeIn K cd21 "need_width" = true) (k21 : PySem.W.keepIn K (.ref f21) = true)
    {f22 : Addr} {od22 an22 : Option Addr} {sl22 : Array (Option Value)} {oc22 kV22 dc22 pm22 cd22 ct22 : Value}
    (a22 : PySem.W.nsIn K mainGlobals "added" = some (some (.ref f22))) (l22 : K.lookup f22 = some ⟨oc22, od22, .func (PySem.W.fnOf "added" "added" (defArgs (topS 31)) (defBody (topS 31)) (defScope (topS 31)) .none kV22 dc22 pm22 an22 cd22 ct22), sl22⟩) (c22 : PySem.W.codeIn K cd22 "added" = true) (k22 : PySem.W.keepIn K (.ref f22) = true)
    {f23 : Addr} {od23 an23 : Option Addr} {sl23 : Array (Option Value)} {oc23 kV23 dc23 pm23 cd23 ct23 : Value}
    (a23 : PySem.W.nsIn K mainGlobals "lessened" = some (some (.ref f23))) (l23 : K.lookup f23 = some ⟨oc23, od23, .func (PySem.W.fnOf "lessened" "lessened" (defArgs (topS 32)) (defBody (topS 32)) (defScope (topS 32)) .none kV23 dc23 pm23 an23 cd23 ct23), sl23⟩) (c23 : PySem.W.codeIn K cd23 "lessened" = true) (k23 : PySem.W.keepIn K (.ref f23) = true)
    {f24 : Addr} {od24 an24 : Option Addr} {sl24 : Array (Option Value)} {oc24 kV24 dc24 pm24 cd24 ct24 : Value}
    (a24 : PySem.W.nsIn K mainGlobals "multiplied" = some (some (.ref f24))) (l24 : K.lookup f24 = some ⟨oc24, od24, .func (PySem.W.fnOf "multiplied" "multiplied" (defArgs (topS 33)) (defBody (topS 33)) (defScope (topS 33)) .none kV24 dc24 pm24 an24 cd24 ct24), sl24⟩) (c24 : PySem.W.codeIn K cd24 "multiplied" = true) (k24 : PySem.W.keepIn K (.ref f24) = true)
    {f25 : Addr} {od25 an25 : Option Addr} {sl25 : Array (Option Value)} {oc25 kV25 dc25 pm25 cd25 ct25 : Value}
    (a25 : PySem.W.nsIn K mainGlobals "inserted" = some (some (.ref f25))) (l25 : K.lookup f25 = some ⟨oc25, od25, .func (PySem.W.fnOf "inserted" "inserted" (defArgs (topS 34)) (defBody (topS 34)) (defScope (topS 34)) .none kV25 dc25 pm25 an25 cd25 ct25), sl25⟩) (c25 : PySem.W.codeIn K cd25 "inserted" = true) (k25 : PySem.W.keepIn K (.ref f25) = true)
    {f26 : Addr} {od26 an26 : Option Addr} {sl26 : Array (Option Value)} {oc26 kV26 dc26 pm26 cd26 ct26 : Value}
    (a26 : PySem.W.nsIn K mainGlobals "told_poly" = some (some (.ref f26))) (l26 : K.lookup f26 = some ⟨oc26, od26, .func (PySem.W.fnOf "told_poly" "told_poly" (defArgs (topS 35)) (defBody (topS 35)) (defScope (topS 35)) .none kV26 dc26 pm26 an26 cd26 ct26), sl26⟩) (c26 : PySem.W.codeIn K cd26 "told_poly" = true) (k26 : PySem.W.keepIn K (.ref f26) = true)
    {f27 : Addr} {od27 an27 : Option Addr} {sl27 : Array (Option Value)} {oc27 kV27 dc27 pm27 cd27 ct27 : Value}
    (a27 : PySem.W.nsIn K mainGlobals "whole_worth" = some (some (.ref f27))) (l27 : K.lookup f27 = some ⟨oc27, od27, .func (PySem.W.fnOf "whole_worth" "whole_worth" (defArgs (topS 37)) (defBody (topS 37)) (defScope (topS 37)) .none kV27 dc27 pm27 an27 cd27 ct27), sl27⟩) (c27 : PySem.W.codeIn K cd27 "whole_worth" = true) (k27 : PySem.W.keepIn K (.ref f27) = true)
    {f28 : Addr} {od28 an28 : Option Addr} {sl28 : Array (Option Value)} {oc28 kV28 dc28 pm28 cd28 ct28 : Value}
    (a28 : PySem.W.nsIn K mainGlobals "worth_at" = some (some (.ref f28))) (l28 : K.lookup f28 = some ⟨oc28, od28, .func (PySem.W.fnOf "worth_at" "worth_at" (defArgs (topS 38)) (defBody (topS 38)) (defScope (topS 38)) .none kV28 dc28 pm28 an28 cd28 ct28), sl28⟩) (c28 : PySem.W.codeIn K cd28 "worth_at" = true) (k28 : PySem.W.keepIn K (.ref f28) = true)
    {f29 : Addr} {od29 an29 : Option Addr} {sl29 : Array (Option Value)} {oc29 kV29 dc29 pm29 cd29 ct29 : Value}
    (a29 : PySem.W.nsIn K mainGlobals "_law_pen" = some (some (.ref f29))) (l29 : K.lookup f29 = some ⟨oc29, od29, .func (PySem.W.fnOf "_law_pen" "_law_pen" (defArgs (topS 40)) (defBody (topS 40)) (defScope (topS 40)) .none kV29 dc29 pm29 an29 cd29 ct29), sl29⟩) (c29 : PySem.W.codeIn K cd29 "_law_pen" = true) (k29 : PySem.W.keepIn K (.ref f29) = true)
    {f30 : Addr} {od30 an30 : Option Addr} {sl30 : Array (Option Value)} {oc30 kV30 dc30 pm30 cd30 ct30 : Value}
    (a30 : PySem.W.nsIn K mainGlobals "_law_draw" = some (some (.ref f30))) (l30 : K.lookup f30 = some ⟨oc30, od30, .func (PySem.W.fnOf "_law_draw" "_law_draw" (defArgs (topS 41)) (defBody (topS 41)) (defScope (topS 41)) .none kV30 dc30 pm30 an30 cd30 ct30), sl30⟩) (c30 : PySem.W.codeIn K cd30 "_law_draw" = true) (k30 : PySem.W.keepIn K (.ref f30) = true)
    {f31 : Addr} {od31 an31 : Option Addr} {sl31 : Array (Option Value)} {oc31 kV31 dc31 pm31 cd31 ct31 : Value}
    (a31 : PySem.W.nsIn K mainGlobals "_law_pick" = some (some (.ref f31))) (l31 : K.lookup f31 = some ⟨oc31, od31, .func (PySem.W.fnOf "_law_pick" "_law_pick" (defArgs (topS 42)) (defBody (topS 42)) (defScope (topS 42)) .none kV31 dc31 pm31 an31 cd31 ct31), sl31⟩) (c31 : PySem.W.codeIn K cd31 "_law_pick" = true) (k31 : PySem.W.keepIn K (.ref f31) = true)
    {f32 : Addr} {od32 an32 : Option Addr} {sl32 : Array (Option Value)} {oc32 kV32 dc32 pm32 cd32 ct32 : Value}
    (a32 : PySem.W.nsIn K mainGlobals "_law_mixed" = some (some (.ref f32))) (l32 : K.lookup f32 = some ⟨oc32, od32, .func (PySem.W.fnOf "_law_mixed" "_law_mixed" (defArgs (topS 43)) (defBody (topS 43)) (defScope (topS 43)) .none kV32 dc32 pm32 an32 cd32 ct32), sl32⟩) (c32 : PySem.W.codeIn K cd32 "_law_mixed" = true) (k32 : PySem.W.keepIn K (.ref f32) = true)
    {f33 : Addr} {od33 an33 : Option Addr} {sl33 : Array (Option Value)} {oc33 kV33 dc33 pm33 cd33 ct33 : Value}
    (a33 : PySem.W.nsIn K mainGlobals "_law_dict" = some (some (.ref f33))) (l33 : K.lookup f33 = some ⟨oc33, od33, .func (PySem.W.fnOf "_law_dict" "_law_dict" (defArgs (topS 44)) (defBody (topS 44)) (defScope (topS 44)) .none kV33 dc33 pm33 an33 cd33 ct33), sl33⟩) (c33 : PySem.W.codeIn K cd33 "_law_dict" = true) (k33 : PySem.W.keepIn K (.ref f33) = true)
    {f34 : Addr} {od34 an34 : Option Addr} {sl34 : Array (Option Value)} {oc34 kV34 dc34 pm34 cd34 ct34 : Value}
    (a34 : PySem.W.nsIn K mainGlobals "_law_poly" = some (some (.ref f34))) (l34 : K.lookup f34 = some ⟨oc34, od34, .func (PySem.W.fnOf "_law_poly" "_law_poly" (defArgs (topS 45)) (defBody (topS 45)) (defScope (topS 45)) .none kV34 dc34 pm34 an34 cd34 ct34), sl34⟩) (c34 : PySem.W.codeIn K cd34 "_law_poly" = true) (k34 : PySem.W.keepIn K (.ref f34) = true)
    {f35 : Addr} {od35 an35 : Option Addr} {sl35 : Array (Option Value)} {oc35 kV35 dc35 pm35 cd35 ct35 : Value}
    (a35 : PySem.W.nsIn K mainGlobals "_law_plus" = some (some (.ref f35))) (l35 : K.lookup f35 = some ⟨oc35, od35, .func (PySem.W.fnOf "_law_plus" "_law_plus" (defArgs (topS 46)) (defBody (topS 46)) (defScope (topS 46)) .none kV35 dc35 pm35 an35 cd35 ct35), sl35⟩) (c35 : PySem.W.codeIn K cd35 "_law_plus" = true) (k35 : PySem.W.keepIn K (.ref f35) = true)
    {f36 : Addr} {od36 an36 : Option Addr} {sl36 : Array (Option Value)} {oc36 kV36 dc36 pm36 cd36 ct36 : Value}
    (a36 : PySem.W.nsIn K mainGlobals "_law_times" = some (some (.ref f36))) (l36 : K.lookup f36 = some ⟨oc36, od36, .func (PySem.W.fnOf "_law_times" "_law_times" (defArgs (topS 47)) (defBody (topS 47)) (defScope (topS 47)) .none kV36 dc36 pm36 an36 cd36 ct36), sl36⟩) (c36 : PySem.W.codeIn K cd36 "_law_times" = true) (k36 : PySem.W.keepIn K (.ref f36) = true)
    {f37 : Addr} {od37 an37 : Option Addr} {sl37 : Array (Option Value)} {oc37 kV37 dc37 pm37 cd37 ct37 : Value}
    (a37 : PySem.W.nsIn K mainGlobals "_law_constant" = some (some (.ref f37))) (l37 : K.lookup f37 = some ⟨oc37, od37, .func (PySem.W.fnOf "_law_constant" "_law_constant" (defArgs (topS 48)) (defBody (topS 48)) (defScope (topS 48)) .none kV37 dc37 pm37 an37 cd37 ct37), sl37⟩) (c37 : PySem.W.codeIn K cd37 "_law_constant" = true) (k37 : PySem.W.keepIn K (.ref f37) = true)
    {f38 : Addr} {od38 an38 : Option Addr} {sl38 : Array (Option Value)} {oc38 kV38 dc38 pm38 cd38 ct38 : Value}
    (a38 : PySem.W.nsIn K mainGlobals "_law_unknown" = some (some (.ref f38))) (l38 : K.lookup f38 = some ⟨oc38, od38, .func (PySem.W.fnOf "_law_unknown" "_law_unknown" (defArgs (topS 49)) (defBody (topS 49)) (defScope (topS 49)) .none kV38 dc38 pm38 an38 cd38 ct38), sl38⟩) (c38 : PySem.W.codeIn K cd38 "_law_unknown" = true) (k38 : PySem.W.keepIn K (.ref f38) = true)
    {f39 : Addr} {od39 an39 : Option Addr} {sl39 : Array (Option Value)} {oc39 kV39 dc39 pm39 cd39 ct39 : Value}
    (a39 : PySem.W.nsIn K mainGlobals "_law_put" = some (some (.ref f39))) (l39 : K.lookup f39 = some ⟨oc39, od39, .func (PySem.W.fnOf "_law_put" "_law_put" (defArgs (topS 50)) (defBody (topS 50)) (defScope (topS 50)) .none kV39 dc39 pm39 an39 cd39 ct39), sl39⟩) (c39 : PySem.W.codeIn K cd39 "_law_put" = true) (k39 : PySem.W.keepIn K (.ref f39) = true)
    {f40 : Addr} {od40 an40 : Option Addr} {sl40 : Array (Option Value)} {oc40 kV40 dc40 pm40 cd40 ct40 : Value}
    (a40 : PySem.W.nsIn K mainGlobals "_law_worth" = some (some (.ref f40))) (l40 : K.lookup f40 = some ⟨oc40, od40, .func (PySem.W.fnOf "_law_worth" "_law_worth" (defArgs (topS 51)) (defBody (topS 51)) (defScope (topS 51)) .none kV40 dc40 pm40 an40 cd40 ct40), sl40⟩) (c40 : PySem.W.codeIn K cd40 "_law_worth" = true) (k40 : PySem.W.keepIn K (.ref f40) = true)
    {f41 : Addr} {od41 an41 : Option Addr} {sl41 : Array (Option Value)} {oc41 kV41 dc41 pm41 cd41 ct41 : Value}
    (a41 : PySem.W.nsIn K mainGlobals "_law_number" = some (some (.ref f41))) (l41 : K.lookup f41 = some ⟨oc41, od41, .func (PySem.W.fnOf "_law_number" "_law_number" (defArgs (topS 52)) (defBody (topS 52)) (defScope (topS 52)) .none kV41 dc41 pm41 an41 cd41 ct41), sl41⟩) (c41 : PySem.W.codeIn K cd41 "_law_number" = true) (k41 : PySem.W.keepIn K (.ref f41) = true)
    {f42 : Addr} {od42 an42 : Option Addr} {sl42 : Array (Option Value)} {oc42 kV42 dc42 pm42 cd42 ct42 : Value}
    (a42 : PySem.W.nsIn K mainGlobals "_law_small" = some (some (.ref f42))) (l42 : K.lookup f42 = some ⟨oc42, od42, .func (PySem.W.fnOf "_law_small" "_law_small" (defArgs (topS 53)) (defBody (topS 53)) (defScope (topS 53)) .none kV42 dc42 pm42 an42 cd42 ct42), sl42⟩) (c42 : PySem.W.codeIn K cd42 "_law_small" = true) (k42 : PySem.W.keepIn K (.ref f42) = true)
    {f43 : Addr} {od43 an43 : Option Addr} {sl43 : Array (Option Value)} {oc43 kV43 dc43 pm43 cd43 ct43 : Value}
    (a43 : PySem.W.nsIn K mainGlobals "_law_drawn" = some (some (.ref f43))) (l43 : K.lookup f43 = some ⟨oc43, od43, .func (PySem.W.fnOf "_law_drawn" "_law_drawn" (defArgs (topS 54)) (defBody (topS 54)) (defScope (topS 54)) .none kV43 dc43 pm43 an43 cd43 ct43), sl43⟩) (c43 : PySem.W.codeIn K cd43 "_law_drawn" = true) (k43 : PySem.W.keepIn K (.ref f43) = true)
    {f44 : Addr} {od44 an44 : Option Addr} {sl44 : Array (Option Value)} {oc44 kV44 dc44 pm44 cd44 ct44 : Value}
    (a44 : PySem.W.nsIn K mainGlobals "_law_told_otherwise" = some (some (.ref f44))) (l44 : K.lookup f44 = some ⟨oc44, od44, .func (PySem.W.fnOf "_law_told_otherwise" "_law_told_otherwise" (defArgs (topS 55)) (defBody (topS 55)) (defScope (topS 55)) .none kV44 dc44 pm44 an44 cd44 ct44), sl44⟩) (c44 : PySem.W.codeIn K cd44 "_law_told_otherwise" = true) (k44 : PySem.W.keepIn K (.ref f44) = true)
    {f45 : Addr} {od45 an45 : Option Addr} {sl45 : Array (Option Value)} {oc45 kV45 dc45 pm45 cd45 ct45 : Value}
    (a45 : PySem.W.nsIn K mainGlobals "law" = some (some (.ref f45))) (l45 : K.lookup f45 = some ⟨oc45, od45, .func (PySem.W.fnOf "law" "law" (defArgs (topS 56)) (defBody (topS 56)) (defScope (topS 56)) .none kV45 dc45 pm45 an45 cd45 ct45), sl45⟩) (c45 : PySem.W.codeIn K cd45 "law" = true) (k45 : PySem.W.keepIn K (.ref f45) = true)
    {u0 : Tok} (m0 : PySem.W.nsIn K mainGlobals "MOST_NUMBER" = some (some (.int (10 ^ 60) u0)))
    {u1 : Tok} (m1 : PySem.W.nsIn K mainGlobals "MOST_WIDTH" = some (some (.int (16) u1)))
    {u2 : Tok} (m2 : PySem.W.nsIn K mainGlobals "MOST_POWER" = some (some (.int (1000) u2)))
    (z0 : PySem.W.nsIn K mainGlobals "isinstance" = some none)
    (z1 : PySem.W.nsIn K mainGlobals "int" = some none)
    (z2 : PySem.W.nsIn K mainGlobals "bool" = some none)
    (z3 : PySem.W.nsIn K mainGlobals "list" = some none)
    (z4 : PySem.W.nsIn K mainGlobals "tuple" = some none)
    (z5 : PySem.W.nsIn K mainGlobals "len" = some none)
    (z6 : PySem.W.nsIn K mainGlobals "all" = some none)
    (z7 : PySem.W.nsIn K mainGlobals "zip" = some none)
    (z8 : PySem.W.nsIn K mainGlobals "sum" = some none)
    (z9 : PySem.W.nsIn K mainGlobals "sorted" = some none)
    (z10 : PySem.W.nsIn K mainGlobals "range" = some none)
    (z11 : PySem.W.nsIn K mainGlobals "enumerate" = some none)
    (z12 : PySem.W.nsIn K mainGlobals "dict" = some none)
    (z13 : PySem.W.nsIn K mainGlobals "abs" = some none)
    : ∃ fd : FuncData, (∀ (s : Shared) (v : Value), BindsTo s fd ⟨[v], []⟩ [("script", v)]) ∧ ∀ base : Heap, K.In base → base.Ns mainGlobals mg → FnOk l.prog w K mg base CX0 9 fa fd ["script"] (spLaw K) := by
  have e := hfa.symm.trans (PySem.W.mg_of X G a45)
  cases e
  refine ⟨PySem.W.fnOf "law" "law" (defArgs (topS 56)) (defBody (topS 56)) (defScope (topS 56)) .none kV45 dc45 pm45 an45 cd45 ct45, fun s v => .of_eq rfl, fun base _ _ => ?_⟩
  have D_is_integer := dfn_of (st := topS 2) X G a0 l0 c0 k0
  have D_is_within := dfn_of (st := topS 3) X G a1 l1 c1 k1
  have D_is_listed := dfn_of (st := topS 4) X G a2 l2 c2 k2
  have D_is_row := dfn_of (st := topS 5) X G a3 l3 c3 k3
  have D_is_numbers := dfn_of (st := topS 6) X G a4 l4 c4 k4
  have D_rank_of := dfn_of (st := topS 14) X G a5 l5 c5 k5
  have D_is_powers := dfn_of (st := topS 15) X G a6 l6 c6 k6
  have D_is_term := dfn_of (st := topS 16) X G a7 l7 c7 k7
  have D_is_poly := dfn_of (st := topS 17) X G a8 l8 c8 k8
  have D_as_poly := dfn_of (st := topS 18) X G a9 l9 c9 k9
  have D_need_poly := dfn_of (st := topS 19) X G a10 l10 c10 k10
  have D_need_polys := dfn_of (st := topS 20) X G a11 l11 c11 k11
  have D_as_dict := dfn_of (st := topS 21) X G a12 l12 c12 k12
  have D_of_dict := dfn_of (st := topS 22) X G a13 l13 c13 k13
  have D_put_to := dfn_of (st := topS 23) X G a14 l14 c14 k14
  have D_sum_of := dfn_of (st := topS 24) X G a15 l15 c15 k15
  have D_less_of := dfn_of (st := topS 25) X G a16 l16 c16 k16
  have D_product_of := dfn_of (st := topS 26) X G a17 l17 c17 k17
  have D_constant_of := dfn_of (st := topS 27) X G a18 l18 c18 k18
  have D_power_of := dfn_of (st := topS 28) X G a19 l19 c19 k19
  have D_put_into := dfn_of (st := topS 29) X G a20 l20 c20 k20
  have D_need_width := dfn_of (st := topS 30) X G a21 l21 c21 k21
  have D_added := dfn_of (st := topS 31) X G a22 l22 c22 k22
  have D_lessened := dfn_of (st := topS 32) X G a23 l23 c23 k23
  have D_multiplied := dfn_of (st := topS 33) X G a24 l24 c24 k24
  have D_inserted := dfn_of (st := topS 34) X G a25 l25 c25 k25
  have D_told_poly := dfn_of (st := topS 35) X G a26 l26 c26 k26
  have D_whole_worth := dfn_of (st := topS 37) X G a27 l27 c27 k27
  have D_worth_at := dfn_of (st := topS 38) X G a28 l28 c28 k28
  have D__law_pen := dfn_of (st := topS 40) X G a29 l29 c29 k29
  have D__law_draw := dfn_of (st := topS 41) X G a30 l30 c30 k30
  have D__law_pick := dfn_of (st := topS 42) X G a31 l31 c31 k31
  have D__law_mixed := dfn_of (st := topS 43) X G a32 l32 c32 k32
  have D__law_dict := dfn_of (st := topS 44) X G a33 l33 c33 k33
  have D__law_poly := dfn_of (st := topS 45) X G a34 l34 c34 k34
  have D__law_plus := dfn_of (st := topS 46) X G a35 l35 c35 k35
  have D__law_times := dfn_of (st := topS 47) X G a36 l36 c36 k36
  have D__law_constant := dfn_of (st := topS 48) X G a37 l37 c37 k37
  have D__law_unknown := dfn_of (st := topS 49) X G a38 l38 c38 k38
  have D__law_put := dfn_of (st := topS 50) X G a39 l39 c39 k39
  have D__law_worth := dfn_of (st := topS 51) X G a40 l40 c40 k40
  have D__law_number := dfn_of (st := topS 52) X G a41 l41 c41 k41
  have D__law_small := dfn_of (st := topS 53) X G a42 l42 c42 k42
  have D__law_drawn := dfn_of (st := topS 54) X G a43 l43 c43 k43
  have D__law_told_otherwise := dfn_of (st := topS 55) X G a44 l44 c44 k44
  have D_law := dfn_of (st := topS 56) X G a45 l45 c45 k45
  have c_MOST_NUMBER := PySem.W.mg_of X G m0
  have c_MOST_WIDTH := PySem.W.mg_of X G m1
  have c_MOST_POWER := PySem.W.mg_of X G m2
  have z_isinstance := PySem.W.mg_none_of X G z0
  have z_int := PySem.W.mg_none_of X G z1
  have z_bool := PySem.W.mg_none_of X G z2
  have z_list := PySem.W.mg_none_of X G z3
  have z_tuple := PySem.W.mg_none_of X G z4
  have z_len := PySem.W.mg_none_of X G z5
  have z_all := PySem.W.mg_none_of X G z6
  have z_zip := PySem.W.mg_none_of X G z7
  have z_sum := PySem.W.mg_none_of X G z8
  have z_sorted := PySem.W.mg_none_of X G z9
  have z_range := PySem.W.mg_none_of X G z10
  have z_enumerate := PySem.W.mg_none_of X G z11
  have z_dict := PySem.W.mg_none_of X G z12
  have z_abs := PySem.W.mg_none_of X G z13
  have F_is_integer := fn_int (P := l.prog) (w := w) (base := base) D_is_integer z_isinstance z_int z_bool
  have F_is_within := fn_within (P := l.prog) (w := w) (base := base) D_is_within F_is_integer
  have F_is_listed := fn_listed (P := l.prog) (w := w) (base := base) D_is_listed z_isinstance z_list z_tuple
  have F_is_row := fn_row (P := l.prog) (w := w) (base := base) D_is_row z_len F_is_listed
  have F_is_numbers := fn_nums (P := l.prog) (w := w) (base := base) D_is_numbers z_all c_MOST_NUMBER F_is_row F_is_within
  have F_rank_of := fn_rank (P := l.prog) (w := w) (base := base) D_rank_of z_sum
  have F_is_powers := fn_powers (P := l.prog) (w := w) (base := base) D_is_powers z_all z_len c_MOST_POWER F_is_listed F_is_within
  have F_is_term := fn_term (P := l.prog) (w := w) (base := base) D_is_term z_len F_is_listed F_is_integer F_is_powers
  have F_is_polyB := fn_polyB (P := l.prog) (w := w) (base := base) D_is_poly z_all z_zip z_tuple F_is_listed F_rank_of F_is_term
  have F_is_poly := fn_imp (P := l.prog) (w := w) (base := base) F_is_polyB poly_imp
  have F_as_poly := fn_as (P := l.prog) (w := w) (base := base) D_as_poly z_tuple
  have F_need_poly := fn_need (P := l.prog) (w := w) (base := base) D_need_poly F_is_poly F_as_poly
  have F_need_polys := fn_needsM (P := l.prog) (w := w) (base := base) D_need_polys z_all z_tuple F_is_listed F_is_poly F_as_poly
  have F_need_width := fn_width (P := l.prog) (w := w) (base := base) D_need_width c_MOST_WIDTH F_is_within
  have F_as_dict := fn_asD (P := l.prog) (w := w) (base := base) D_as_dict
  have F_of_dict := fn_ofD (P := l.prog) (w := w) (base := base) D_of_dict z_sorted z_tuple F_rank_of
  have F_put_to := fn_putTo (P := l.prog) (w := w) (base := base) D_put_to z_tuple z_zip
  have F_sum_of := fn_sum (P := l.prog) (w := w) (base := base) D_sum_of F_as_dict F_of_dict
  have F_less_of := fn_less (P := l.prog) (w := w) (base := base) D_less_of F_as_dict F_of_dict
  have F_product_of := fn_prod (P := l.prog) (w := w) (base := base) D_product_of F_put_to F_of_dict
  have F_constant_of := fn_con (P := l.prog) (w := w) (base := base) D_constant_of
  have F_power_of := fn_powOf (P := l.prog) (w := w) (base := base) D_power_of F_constant_of F_product_of
  have F_put_into := fn_into (P := l.prog) (w := w) (base := base) D_put_into z_enumerate F_constant_of F_put_to F_of_dict F_product_of F_power_of
  have F_added := fn_added (P := l.prog) (w := w) (base := base) D_added F_need_width F_need_poly F_sum_of
  have F_lessened := fn_lessened (P := l.prog) (w := w) (base := base) D_lessened F_need_width F_need_poly F_less_of
  have F_multiplied := fn_multiplied (P := l.prog) (w := w) (base := base) D_multiplied F_need_width F_need_poly F_product_of
  have F_inserted := fn_ins (P := l.prog) (w := w) (base := base) D_inserted z_len c_MOST_WIDTH F_need_width F_need_poly F_need_polys F_is_within F_put_into
  have F_told_poly := fn_tol (P := l.prog) (w := w) (base := base) D_told_poly z_len z_tuple F_need_width F_is_listed F_is_integer F_is_powers F_of_dict
  have F_worth_at := fn_worthAtX (P := l.prog) (w := w) (base := base) D_worth_at z_zip z_range
  have F_whole_worth := fn_wholeX (P := l.prog) (w := w) (base := base) D_whole_worth F_need_width F_need_polys F_is_numbers F_worth_at
  have F__law_pen := fn_pen (P := l.prog) (w := w) (base := base) D__law_pen z_int
  have F__law_draw := fn_drawn0 (P := l.prog) (w := w) (base := base) D__law_draw z_int z_len z_abs
  have F__law_pick := fn_pick (P := l.prog) (w := w) (base := base) D__law_pick z_len F__law_draw
  have F__law_mixed := fn_mixed (P := l.prog) (w := w) (base := base) D__law_mixed z_len z_list F__law_draw
  have F__law_dict := fn_ldict (P := l.prog) (w := w) (base := base) D__law_dict z_dict z_tuple
  have F__law_poly := fn_polOf (P := l.prog) (w := w) (base := base) D__law_poly z_sorted z_sum z_tuple
  have F__law_plus := fn_plus (P := l.prog) (w := w) (base := base) D__law_plus F__law_dict F__law_poly
  have F__law_times := fn_times (P := l.prog) (w := w) (base := base) D__law_times z_tuple z_zip F__law_poly
  have F__law_constant := fn_lcon (P := l.prog) (w := w) (base := base) D__law_constant
  have F__law_unknown := fn_unk (P := l.prog) (w := w) (base := base) D__law_unknown z_tuple z_range z_int
  have F__law_put := fn_lput (P := l.prog) (w := w) (base := base) D__law_put z_zip z_range F__law_constant F__law_times F__law_plus
  have F__law_worth := fn_lawWorthX (P := l.prog) (w := w) (base := base) D__law_worth z_zip z_range
  have F__law_number := fn_number (P := l.prog) (w := w) (base := base) D__law_number F__law_draw F__law_pick
  have F__law_small := fn_small (P := l.prog) (w := w) (base := base) D__law_small F__law_pick
  have F__law_drawn := fn_drawnP (P := l.prog) (w := w) (base := base) D__law_drawn z_range z_tuple F__law_draw F__law_small F__law_poly
  have F__law_told_otherwise := fn_told (P := l.prog) (w := w) (base := base) D__law_told_otherwise z_list F__law_draw
  have LF : LawFns l.prog w K mg base := ⟨F__law_pen, F__law_draw, F__law_pick, F__law_mixed, F__law_number, F__law_drawn, F__law_told_otherwise, F__law_poly, F__law_plus, F__law_times, F__law_constant, F__law_unknown, F__law_put, F__law_worth, F_added, F_lessened, F_multiplied, D_multiplied, F_told_poly, D_told_poly, F_inserted, F_whole_worth, F_is_polyB⟩
  have LB : LawBlt mg := ⟨z_range, z_sum, z_sorted, z_tuple, z_list, z_dict, z_int, z_zip⟩
  obtain ⟨f, fd, q, st, hm, hF, hb, ok⟩ := fn_law (P := l.prog) (w := w) (base := base) D_law LF LB
  rw [hfa] at hm
  cases hm
  have hfd := fun_same hF (fun_mk (st := topS 56) l45 c45 k45)
  subst hfd
  exact ok
end R1
open PySem PySem.W PyProof.Rows
set_option maxHeartbeats 0 in
theorem PySem.Challenge.cw_anyring_k00_polynomials_by_own_sums_holds : PySem.Challenge.rw_anyring_k00_polynomials_by_own_sums.Holds := by
  w_on; o_law; k_head; (case hw => w_witness2)
  k_fill
  refine L2.walk_of (l := PySem.Challenge.rw_anyring_k00_polynomials_by_own_sums) (n := 63) (k := 9) (x := "script") (CX := fun _ => L2.CX0) (sp := fun w => R1.spLaw _) rfl (by decide) rfl ⟨rfl, by decide, by decide⟩ (fun w h Y => PySem.W.kIn_of Y) ?F (fun _ _ a ns hl _ hS => ⟨a, ns, rfl, hS, hl, fun _ => rfl⟩) (fun _ _ _ _ _ h => h)
  case F =>
    intro w mg fa h KX G hmg
    refine' R1.all_defs KX G hmg ?a0 ?l0 ?c0 ?k0 ?a1 ?l1 ?c1 ?k1 ?a2 ?l2 ?c2 ?k2 ?a3 ?l3 ?c3 ?k3 ?a4 ?l4 ?c4 ?k4 ?a5 ?l5 ?c5 ?k5 ?a6 ?l6 ?c6 ?k6 ?a7 ?l7 ?c7 ?k7 ?a8 ?l8 ?c8 ?k8 ?a9 ?l9 ?c9 ?k9 ?a10 ?l10 ?c10 ?k10 ?a11 ?l11 ?c11 ?k11 ?a12 ?l12 ?c12 ?k12 ?a13 ?l13 ?c13 ?k13 ?a14 ?l14 ?c14 ?k14 ?a15 ?l15 ?c15 ?k15 ?a16 ?l16 ?c16 ?k16 ?a17 ?l17 ?c17 ?k17 ?a18 ?l18 ?c18 ?k18 ?a19 ?l19 ?c19 ?k19 ?a20 ?l20 ?c20 ?k20 ?a21 ?l21 ?c21 ?k21 ?a22 ?l22 ?c22 ?k22 ?a23 ?l23 ?c23 ?k23 ?a24 ?l24 ?c24 ?k24 ?a25 ?l25 ?c25 ?k25 ?a26 ?l26 ?c26 ?k26 ?a27 ?l27 ?c27 ?k27 ?a28 ?l28 ?c28 ?k28 ?a29 ?l29 ?c29 ?k29 ?a30 ?l30 ?c30 ?k30 ?a31 ?l31 ?c31 ?k31 ?a32 ?l32 ?c32 ?k32 ?a33 ?l33 ?c33 ?k33 ?a34 ?l34 ?c34 ?k34 ?a35 ?l35 ?c35 ?k35 ?a36 ?l36 ?c36 ?k36 ?a37 ?l37 ?c37 ?k37 ?a38 ?l38 ?c38 ?k38 ?a39 ?l39 ?c39 ?k39 ?a40 ?l40 ?c40 ?k40 ?a41 ?l41 ?c41 ?k41 ?a42 ?l42 ?c42 ?k42 ?a43 ?l43 ?c43 ?k43 ?a44 ?l44 ?c44 ?k44 ?a45 ?l45 ?c45 ?k45 ?m0 ?m1 ?m2 ?z0 ?z1 ?z2 ?z3 ?z4 ?z5 ?z6 ?z7 ?z8 ?z9 ?z10 ?z11 ?z12 ?z13
    (case a0 => k_is); (case l0 => k_is); (case c0 => k_is); (case k0 => k_is); (case a1 => k_is); (case l1 => k_is); (case c1 => k_is); (case k1 => k_is); (case a2 => k_is); (case l2 => k_is); (case c2 => k_is); (case k2 => k_is); (case a3 => k_is); (case l3 => k_is); (case c3 => k_is); (case k3 => k_is); (case a4 => k_is); (case l4 => k_is); (case c4 => k_is); (case k4 => k_is); (case a5 => k_is); (case l5 => k_is); (case c5 => k_is); (case k5 => k_is); (case a6 => k_is); (case l6 => k_is); (case c6 => k_is); (case k6 => k_is); (case a7 => k_is); (case l7 => k_is); (case c7 => k_is); (case k7 => k_is); (case a8 => k_is); (case l8 => k_is); (case c8 => k_is); (case k8 => k_is); (case a9 => k_is); (case l9 => k_is); (case c9 => k_is); (case k9 => k_is); (case a10 => k_is); (case l10 => k_is); (case c10 => k_is); (case k10 => k_is); (case a11 => k_is); (case l11 => k_is); (case c11 => k_is); (case k11 => k_is); (case a12 => k_is); (case l12 => k_is); (case c12 => k_is); (case k12 => k_is); (case a13 => k_is); (case l13 => k_is); (case c13 => k_is); (case k13 => k_is); (case a14 => k_is); (case l14 => k_is); (case c14 => k_is); (case k14 => k_is); (case a15 => k_is); (case l15 => k_is); (case c15 => k_is); (case k15 => k_is); (case a16 => k_is); (case l16 => k_is); (case c16 => k_is); (case k16 => k_is); (case a17 => k_is); (case l17 => k_is); (case c17 => k_is); (case k17 => k_is); (case a18 => k_is); (case l18 => k_is); (case c18 => k_is); (case k18 => k_is); (case a19 => k_is); (case l19 => k_is); (case c19 => k_is); (case k19 => k_is); (case a20 => k_is); (case l20 => k_is); (case c20 => k_is); (case k20 => k_is); (case a21 => k_is); (case l21 => k_is); (case c21 => k_is); (case k21 => k_is); (case a22 => k_is); (case l22 => k_is); (case c22 => k_is); (case k22 => k_is); (case a23 => k_is); (case l23 => k_is); (case c23 => k_is); (case k23 => k_is); (case a24 => k_is); (case l24 => k_is); (case c24 => k_is); (case k24 => k_is); (case a25 => k_is); (case l25 => k_is); (case c25 => k_is); (case k25 => k_is); (case a26 => k_is); (case l26 => k_is); (case c26 => k_is); (case k26 => k_is); (case a27 => k_is); (case l27 => k_is); (case c27 => k_is); (case k27 => k_is); (case a28 => k_is); (case l28 => k_is); (case c28 => k_is); (case k28 => k_is); (case a29 => k_is); (case l29 => k_is); (case c29 => k_is); (case k29 => k_is); (case a30 => k_is); (case l30 => k_is); (case c30 => k_is); (case k30 => k_is); (case a31 => k_is); (case l31 => k_is); (case c31 => k_is); (case k31 => k_is); (case a32 => k_is); (case l32 => k_is); (case c32 => k_is); (case k32 => k_is); (case a33 => k_is); (case l33 => k_is); (case c33 => k_is); (case k33 => k_is); (case a34 => k_is); (case l34 => k_is); (case c34 => k_is); (case k34 => k_is); (case a35 => k_is); (case l35 => k_is); (case c35 => k_is); (case k35 => k_is); (case a36 => k_is); (case l36 => k_is); (case c36 => k_is); (case k36 => k_is); (case a37 => k_is); (case l37 => k_is); (case c37 => k_is); (case k37 => k_is); (case a38 => k_is); (case l38 => k_is); (case c38 => k_is); (case k38 => k_is); (case a39 => k_is); (case l39 => k_is); (case c39 => k_is); (case k39 => k_is); (case a40 => k_is); (case l40 => k_is); (case c40 => k_is); (case k40 => k_is); (case a41 => k_is); (case l41 => k_is); (case c41 => k_is); (case k41 => k_is); (case a42 => k_is); (case l42 => k_is); (case c42 => k_is); (case k42 => k_is); (case a43 => k_is); (case l43 => k_is); (case c43 => k_is); (case k43 => k_is); (case a44 => k_is); (case l44 => k_is); (case c44 => k_is); (case k44 => k_is); (case a45 => k_is); (case l45 => k_is); (case c45 => k_is); (case k45 => k_is); (case m0 => k_is); (case m1 => k_is); (case m2 => k_is); (case z0 => k_is); (case z1 => k_is); (case z2 => k_is); (case z3 => k_is); (case z4 => k_is); (case z5 => k_is); (case z6 => k_is); (case z7 => k_is); (case z8 => k_is); (case z9 => k_is); (case z10 => k_is); (case z11 => k_is); (case z12 => k_is); (case z13 => k_is)

