import PyProof.Rows.All
import Wide.All
import OpenK.AllK
import Wide.FinOn
import KE.KStateDown
import HandS.ForMost
import HandS.Exc
import HandS.TryOnly
import HandS.ExcOwn
import HandS.WordsExc
import HandS.IsInst
import HandS.Wide
import HandS.WideBits
import HandS.Defaults
import HandS.Codes
import HandS.Style
import HandS.Flow
import HandS.Deep
import HandS.Lambda
import HandS.EndTab
import HandS.HeadWalk
import HandS.ExcIs
import HandS.ExcField
import HandS.ExcInit
import HandS.SortOrd
import HandS.Conv
import HandS.Head0
import HandS.Head1
import HandS.Head2
import HandS.HeadHook1
import HandS.HeadHook2
import HandS.HeadHook3
import HandS.HeadHook4
import KE.KDictZip
import KE.KDictPairs
import HandS.Star
import HandS.Gcd
import KE.GoesMore
import KE.GoesEnum
import HandS.RaiseMore
import PyProof.ReprRoads
import PyProof.ReprBulk
import KE.KExcIs
import HandS.Ends
import HandS.More
import HandS.Words
import HandS.Head3
import HandS.HeadEnd
import PySem.Challenge.RW_typedcurve_k50_whole_cells_bar_what_is_o
set_option Elab.async false
set_option linter.all false
set_option maxRecDepth 100000
set_option maxHeartbeats 2000000
/-! The data layer: expressions that give data (PyData), over the hand layer. -/
namespace Cv
open PySem PySem.Spec PyProof.Rows L2

/-! ### the heap without what is hidden -/
def del (zs : List Addr) (H : Hp) : Hp := fun b => if b ∈ zs then none else H b
theorem del_out {zs : List Addr} {H : Hp} {b : Addr} (h : b ∉ zs) : del zs H b = H b := if_neg h
theorem del_some {zs : List Addr} {H : Hp} {b : Addr} {o : HO} (e : del zs H b = some o) : b ∉ zs ∧ H b = some o := by
  unfold del at e
  by_cases h : b ∈ zs
  · rw [if_pos h] at e
    cases e
  · rw [if_neg h] at e
    exact ⟨h, e⟩
def Alc (zs : List Addr) (H : Hp) : Prop := ∀ z ∈ zs, ∃ o, H z = some o
def Kp (zs : List Addr) (H H' : Hp) : Prop := Same (del zs H) (del zs H')
theorem Kp.of_same {zs : List Addr} {H H' : Hp} (s : Same H H') : Kp zs H H' := fun b o e => by
  obtain ⟨h1, h2⟩ := del_some e
  rw [del_out h1]
  exact s b o h2
theorem Alc.same {zs : List Addr} {H H' : Hp} (a : Alc zs H) (s : Same H H') : Alc zs H' := fun z hz => let ⟨o, e⟩ := a z hz; ⟨o, s z o e⟩
theorem Alc.ne {zs : List Addr} {H : Hp} {p : Addr} (a : Alc zs H) (h : H p = none) : p ∉ zs := fun hz => by
  obtain ⟨o, e⟩ := a p hz
  rw [h] at e
  cases e
theorem same_new {H : Hp} {p : Addr} {o : HO} (h : H p = none) : Same H (upd H p o) := fun b u e => by
  rw [upd_ne (ne_of_none e h)]
  exact e
theorem del_upd {zs : List Addr} {H : Hp} {p : Addr} {o : HO} (h : p ∈ zs) : del zs (upd H p o) = del zs H := by
  funext b
  unfold del
  by_cases hb : b ∈ zs
  · rw [if_pos hb, if_pos hb]
  · rw [if_neg hb, if_neg hb, upd_ne (fun e => hb (by rw [e]; exact h))]
theorem del_new {zs : List Addr} {H : Hp} {p : Addr} {o : HO} (h : H p = none) : del (p :: zs) (upd H p o) = del zs H := by
  funext b
  unfold del
  by_cases hb : b ∈ zs
  · rw [if_pos hb, if_pos (List.mem_cons_of_mem _ hb)]
  · rw [if_neg hb]
    by_cases hp : b = p
    · rw [hp, if_pos List.mem_cons_self, h]
    · rw [if_neg (fun hm => (List.mem_cons.mp hm).elim hp hb), upd_ne hp]
theorem del_same (zs : List Addr) (H : Hp) : Same (del zs H) H := fun b o e => (del_some e).2
theorem del_cons_same (p : Addr) (zs : List Addr) (H : Hp) : Same (del (p :: zs) H) (del zs H) := fun b o e => by
  obtain ⟨h1, h2⟩ := del_some e
  rw [del_out (fun h => h1 (List.mem_cons_of_mem _ h))]
  exact h2

/-! ### data -/
theorem rd_mono {H H' : Hp} {a : Addr} {u : HO} (s : Same H H') (h : Rd H a u) : Rd H' a u := h.elim (fun e => .inl (s _ _ e)) fun ⟨o, e⟩ => .inr ⟨o, s _ _ e⟩
theorem sqT_mono {K : PySem.W.Frag} {H H' : Hp} {a : Addr} {xs : List V} (s : Same H H') (h : SqT K H a xs) : SqT K H' a xs := h.elim (fun e => .inl (rd_mono s e)) .inr
theorem sqL_mono {K : PySem.W.Frag} {H H' : Hp} {a : Addr} {xs : List V} (s : Same H H') (h : SqL K H a xs) : SqL K H' a xs := h.elim (fun e => .inl (rd_mono s e)) .inr
mutual
theorem dp_mono {K : PySem.W.Frag} {H H' : Hp} (s : Same H H') : ∀ (d : PyData) (v : V), Dp K H v d → Dp K H' v d
  | .none, _, h => by cases h; exact .non
  | .bool b, _, h => by cases h; exact .bl b
  | .int i, _, h => by cases h; exact .int i
  | .str x, _, h => by cases h; exact .str x
  | .list ds, _, h => by
    cases h with
    | lst hs ha => exact .lst (sqL_mono s hs) (dps_mono s ds _ ha)
  | .tuple ds, _, h => by
    cases h with
    | tup hs ha => exact .tup (sqT_mono s hs) (dps_mono s ds _ ha)
  | .dict _, _, h => by cases h
theorem dps_mono {K : PySem.W.Frag} {H H' : Hp} (s : Same H H') : ∀ (ds : List PyData) (vs : List V), DpAll K H vs ds → DpAll K H' vs ds
  | [], _, h => by cases h; exact .nil
  | d :: ds, _, h => by
    cases h with
    | cons h1 h2 => exact .cons (dp_mono s d _ h1) (dps_mono s ds _ h2)
end
theorem dps_len {K : PySem.W.Frag} {H : Hp} : ∀ {vs : List V} {ds : List PyData}, DpAll K H vs ds → vs.length = ds.length
  | _, _, .nil => rfl
  | _, _, .cons _ t => congrArg (· + 1) (dps_len t)
theorem dps_get {K : PySem.W.Frag} {H : Hp} : ∀ {vs : List V} {ds : List PyData} {i : Nat} {d : PyData}, DpAll K H vs ds → ds[i]? = some d → ∃ v, vs[i]? = some v ∧ Dp K H v d
  | _, _, i, d, .nil, e => by simp at e
  | _, _, 0, d, .cons h _, e => ⟨_, rfl, by cases e; exact h⟩
  | _, _, i + 1, d, .cons _ t, e => dps_get (i := i) t e
theorem dps_get2 {K : PySem.W.Frag} {H : Hp} : ∀ {vs : List V} {ds : List PyData} {i : Nat} {v : V}, DpAll K H vs ds → vs[i]? = some v → ∃ d, ds[i]? = some d ∧ Dp K H v d
  | _, _, i, d, .nil, e => by simp at e
  | _, _, 0, d, .cons h _, e => ⟨_, rfl, by cases e; exact h⟩
  | _, _, i + 1, d, .cons _ t, e => dps_get2 (i := i) t e
theorem dps_app {K : PySem.W.Frag} {H : Hp} : ∀ {vs ws : List V} {ds es : List PyData}, DpAll K H vs ds → DpAll K H ws es → DpAll K H (vs ++ ws) (ds ++ es)
  | _, _, _, _, .nil, s => s
  | _, _, _, _, .cons r t, s => .cons r (dps_app t s)
theorem dp_int {K : PySem.W.Frag} {H : Hp} {v : V} {i : Int} (h : Dp K H v (.int i)) : v = .int i := by cases h; rfl
theorem dp_bool {K : PySem.W.Frag} {H : Hp} {v : V} {i : Bool} (h : Dp K H v (.bool i)) : v = .bl i := by cases h; rfl
theorem dp_str {K : PySem.W.Frag} {H : Hp} {v : V} {i : Str} (h : Dp K H v (.str i)) : v = .str i := by cases h; rfl
theorem dp_none {K : PySem.W.Frag} {H : Hp} {v : V} (h : Dp K H v .none) : v = .non := by cases h; rfl
theorem dp_tup {K : PySem.W.Frag} {H : Hp} {v : V} {ds : List PyData} (h : Dp K H v (.tuple ds)) : ∃ a xs, v = .ref a ∧ SqT K H a xs ∧ DpAll K H xs ds := by
  cases h with
  | tup hs ha => exact ⟨_, _, rfl, hs, ha⟩
theorem dp_lst {K : PySem.W.Frag} {H : Hp} {v : V} {ds : List PyData} (h : Dp K H v (.list ds)) : ∃ a xs, v = .ref a ∧ SqL K H a xs ∧ DpAll K H xs ds := by
  cases h with
  | lst hs ha => exact ⟨_, _, rfl, hs, ha⟩

/-! ### slots -/
inductive Sl where
  | no | v (x : V) | d (d : PyData)
def SlOk (K : PySem.W.Frag) (H : Hp) : Sl → Option V → Prop
  | .no, _ => True
  | .v x, o => o = some x
  | .d d, o => ∃ v, o = some v ∧ Dp K H v d
def RepS (K : PySem.W.Frag) (H : Hp) : List Sl → L2.St → Prop
  | [], [] => True
  | s :: ss, o :: os => SlOk K H s o ∧ RepS K H ss os
  | _, _ => False
theorem slOk_mono {K : PySem.W.Frag} {H H' : Hp} (s : Same H H') : ∀ {x : Sl} {o : Option V}, SlOk K H x o → SlOk K H' x o
  | .no, _, _ => trivial
  | .v _, _, h => h
  | .d d, _, ⟨v, e, h⟩ => ⟨v, e, dp_mono s d v h⟩
theorem repS_mono {K : PySem.W.Frag} {H H' : Hp} (s : Same H H') : ∀ {g : List Sl} {σ : L2.St}, RepS K H g σ → RepS K H' g σ
  | [], [], _ => trivial
  | _ :: _, _ :: _, ⟨h1, h2⟩ => ⟨slOk_mono s h1, repS_mono s h2⟩
  | [], _ :: _, h => h.elim
  | _ :: _, [], h => h.elim
theorem repS_get {K : PySem.W.Frag} {H : Hp} : ∀ {g : List Sl} {σ : L2.St} {i : Nat} {x : Sl}, RepS K H g σ → g[i]? = some x → ∃ o, σ[i]? = some o ∧ SlOk K H x o
  | [], _, i, x, _, e => by simp at e
  | _ :: _, [], _, _, h, _ => h.elim
  | s :: ss, o :: os, 0, x, ⟨h1, _⟩, e => ⟨o, rfl, by cases e; exact h1⟩
  | s :: ss, o :: os, i + 1, x, ⟨_, h2⟩, e => repS_get (i := i) h2 e
theorem repS_set {K : PySem.W.Frag} {H : Hp} {x : Sl} {o : Option V} (k : SlOk K H x o) : ∀ {g : List Sl} {σ : L2.St} (i : Nat), RepS K H g σ → RepS K H (g.set i x) (σ.set i o)
  | [], [], _, _ => trivial
  | _ :: _, _ :: _, 0, ⟨_, h2⟩ => ⟨k, h2⟩
  | _ :: _, _ :: _, i + 1, ⟨h1, h2⟩ => ⟨h1, repS_set k i h2⟩
  | [], _ :: _, _, h => h.elim
  | _ :: _, [], _, h => h.elim
/-- forgetting -/
inductive Fgt : List Sl → List Sl → Prop where
  | nil : Fgt [] []
  | no {s : Sl} {a b : List Sl} : Fgt a b → Fgt (s :: a) (.no :: b)
  | same {s : Sl} {a b : List Sl} : Fgt a b → Fgt (s :: a) (s :: b)
theorem repS_fgt {K : PySem.W.Frag} {H : Hp} : ∀ {g g' : List Sl} {σ : L2.St}, Fgt g g' → RepS K H g σ → RepS K H g' σ
  | _, _, [], .nil, h => h
  | _, _, _ :: _, .nil, h => h.elim
  | _, _, [], .no _, h => h.elim
  | _, _, [], .same _, h => h.elim
  | _, _, _ :: _, .no f, ⟨_, h2⟩ => ⟨trivial, repS_fgt f h2⟩
  | _, _, _ :: _, .same f, ⟨h1, h2⟩ => ⟨h1, repS_fgt f h2⟩
theorem fgt_refl : ∀ g : List Sl, Fgt g g
  | [] => .nil
  | _ :: g => .same (fgt_refl g)

/-! ### a mode: what is hidden, what holds of it -/
structure Md where
  zs : List Addr
  W : Hp → Prop
  mono : ∀ H H', Same H H' → W H → W H'
structure Okk (K : PySem.W.Frag) (m : Md) (g : List Sl) (σ : L2.St) (H : Hp) : Prop where
  al : Alc m.zs H
  w : m.W H
  rp : RepS K (del m.zs H) g σ
structure Nxt (m : Md) (H H' : Hp) : Prop where
  kp : Kp m.zs H H'
  al : Alc m.zs H'
  w : m.W H'
section
variable {K : PySem.W.Frag} {m : Md} {g g' : List Sl} {σ : L2.St} {H H' H2 : Hp}
theorem Nxt.trans (a : Nxt m H H') (b : Nxt m H' H2) : Nxt m H H2 := ⟨a.kp.trans b.kp, b.al, b.w⟩
theorem Okk.step (o : Okk K m g σ H) (n : Nxt m H H') : Okk K m g σ H' := ⟨n.al, n.w, repS_mono n.kp o.rp⟩
theorem Okk.rfl' (o : Okk K m g σ H) : Nxt m H H := ⟨Same.refl _, o.al, o.w⟩
theorem Okk.same (o : Okk K m g σ H) (s : Same H H') : Nxt m H H' := ⟨Kp.of_same s, o.al.same s, m.mono _ _ s o.w⟩
theorem Nxt.same (o : Nxt m H H') (s : Same H' H2) : Nxt m H H2 := ⟨o.kp.trans (Kp.of_same s), o.al.same s, m.mono _ _ s o.w⟩
theorem Okk.set {x : Sl} {o : Option V} (k : Okk K m g σ H) (i : Nat) (h : SlOk K (del m.zs H) x o) : Okk K m (g.set i x) (σ.set i o) H := ⟨k.al, k.w, repS_set h i k.rp⟩
theorem Okk.fgt (k : Okk K m g σ H) (f : Fgt g g') : Okk K m g' σ H := ⟨k.al, k.w, repS_fgt f k.rp⟩
theorem Nxt.dp {v : V} {d : PyData} (n : Nxt m H H') (h : Dp K (del m.zs H) v d) : Dp K (del m.zs H') v d := dp_mono n.kp d v h
theorem Nxt.dps {v : List V} {d : List PyData} (n : Nxt m H H') (h : DpAll K (del m.zs H) v d) : DpAll K (del m.zs H') v d := dps_mono n.kp d v h
end

/-! ### the readings -/
abbrev Is {α : Type} (a : α) : α → Prop := fun x => x = a
def tI (K : PySem.W.Frag) (m : Md) (g : List Sl) (S : PyData → Prop) : TE := fun σ H Q => Okk K m g σ H ∧ ∀ v d H', Nxt m H H' → S d → Dp K (del m.zs H') v d → Q v H'
def tA (K : PySem.W.Frag) (m : Md) (g : List Sl) (S : List PyData → Prop) : TA := fun σ H Q => Okk K m g σ H ∧ ∀ vs ds H', Nxt m H H' → S ds → DpAll K (del m.zs H') vs ds → Q vs H'
def tBo (K : PySem.W.Frag) (m : Md) (g : List Sl) (B : Bool → Prop) : TT := fun σ H Q => Okk K m g σ H ∧ ∀ b H', Nxt m H H' → B b → Q b H'
def tX (K : PySem.W.Frag) (m : Md) (g : List Sl) (R : PyData → Prop) (N : List Sl → Prop) : TS := fun D σ H => Okk K m g σ H ∧ (∀ v d H', Nxt m H H' → R d → Dp K (del m.zs H') v d → D.rt v H') ∧
  ∀ g' σ' H', Nxt m H H' → N g' → Okk K m g' σ' H' → D.nx σ' H'
abbrev Nof : List Sl → Prop := fun _ => False
abbrev Rof : PyData → Prop := fun _ => False
/-- a target's: from the slots g to g' -/
def gI (K : PySem.W.Frag) (m : Md) (g : List Sl) (S : PyData → Prop) (N : List Sl → Prop) : TG := fun v σ H Q => Okk K m g σ H ∧ (∃ d, S d ∧ Dp K (del m.zs H) v d) ∧ ∀ g' σ' H', Nxt m H H' → N g' → Okk K m g' σ' H' → Q σ' H'
def gsI (K : PySem.W.Frag) (m : Md) (g : List Sl) (ds : List PyData) (g' : List Sl) : TGs := fun vs σ H Q => Okk K m g σ H ∧ DpAll K (del m.zs H) vs ds ∧ ∀ σ' H', Nxt m H H' → Okk K m g' σ' H' → Q σ' H'
theorem PE.wk {X : Cx} {e : Expr} {t t' : TE} (h : PE X e t) (w : ∀ σ H Q, t' σ H Q → t σ H Q) : PE X e t' := ⟨fun pins s σ H Q I q => h.run pins s σ H Q I (w _ _ _ q)⟩
theorem PT.wk {X : Cx} {e : Expr} {t t' : TT} (h : PT X e t) (w : ∀ σ H Q, t' σ H Q → t σ H Q) : PT X e t' := ⟨fun pins s σ H Q I q => h.run pins s σ H Q I (w _ _ _ q)⟩
theorem PA.wk {X : Cx} {e : List Expr} {t t' : TA} (h : PA X e t) (w : ∀ σ H Q, t' σ H Q → t σ H Q) : PA X e t' := ⟨fun ps pins s σ H Q I q => h.run ps pins s σ H Q I (w _ _ _ q)⟩
theorem PS.wk {X : Cx} {e : Stmt} {t t' : TS} (h : PS X e t) (w : ∀ D σ H, t' D σ H → t D σ H) : PS X e t' := ⟨fun pins s σ H D I q => h.run pins s σ H D I (w _ _ _ q)⟩
theorem PSs.wk {X : Cx} {e : List Stmt} {t t' : TS} (h : PSs X e t) (w : ∀ D σ H, t' D σ H → t D σ H) : PSs X e t' := ⟨fun pins s σ H D I q => h.run pins s σ H D I (w _ _ _ q)⟩
theorem PG.wk {X : Cx} {e : Expr} {t t' : TG} (h : PG X e t) (w : ∀ v σ H Q, t' v σ H Q → t v σ H Q) : PG X e t' := ⟨fun pins s σ H v u Q I r q => h.run pins s σ H v u Q I r (w _ _ _ _ q)⟩
theorem PGs.wk {X : Cx} {e : List Expr} {t t' : TGs} (h : PGs X e t) (w : ∀ v σ H Q, t' v σ H Q → t v σ H Q) : PGs X e t' := ⟨fun pins s σ H v u Q I r q => h.run pins s σ H v u Q I r (w _ _ _ _ q)⟩
theorem PSs.ex {α : Sort _} {X : Cx} {e : List Stmt} {t : α → TS} (h : ∀ a, PSs X e (t a)) : PSs X e (fun D σ H => ∃ a, t a D σ H) := ⟨fun pins s σ H D I ⟨a, q⟩ => (h a).run pins s σ H D I q⟩
theorem PSs.imp {P : Prop} {X : Cx} {e : List Stmt} {t : TS} (h : P → PSs X e t) : PSs X e (fun D σ H => P ∧ t D σ H) := ⟨fun pins s σ H D I ⟨a, q⟩ => (h a).run pins s σ H D I q⟩
theorem PE.ex {α : Sort _} {X : Cx} {e : Expr} {t : α → TE} (h : ∀ a, PE X e (t a)) : PE X e (fun σ H Q => ∃ a, t a σ H Q) := ⟨fun pins s σ H D I ⟨a, q⟩ => (h a).run pins s σ H D I q⟩
theorem PE.imp {P : Prop} {X : Cx} {e : Expr} {t : TE} (h : P → PE X e t) : PE X e (fun σ H Q => P ∧ t σ H Q) := ⟨fun pins s σ H D I ⟨a, q⟩ => (h a).run pins s σ H D I q⟩
theorem PT.imp {P : Prop} {X : Cx} {e : Expr} {t : TT} (h : P → PT X e t) : PT X e (fun σ H Q => P ∧ t σ H Q) := ⟨fun pins s σ H D I ⟨a, q⟩ => (h a).run pins s σ H D I q⟩
theorem PT.ex {α : Sort _} {X : Cx} {e : Expr} {t : α → TT} (h : ∀ a, PT X e (t a)) : PT X e (fun σ H Q => ∃ a, t a σ H Q) := ⟨fun pins s σ H D I ⟨a, q⟩ => (h a).run pins s σ H D I q⟩
theorem PG.ex {α : Sort _} {X : Cx} {e : Expr} {t : α → TG} (h : ∀ a, PG X e (t a)) : PG X e (fun v σ H Q => ∃ a, t a v σ H Q) := ⟨fun pins s σ H v u D I r ⟨a, q⟩ => (h a).run pins s σ H v u D I r q⟩

section
variable {X : Cx} {m : Md} {g : List Sl} {S Sa Sb : PyData → Prop} {a b e : Expr} {es : List Expr} {pos : Pos}
abbrev PD (X : Cx) (m : Md) (g : List Sl) (e : Expr) (S : PyData → Prop) : Prop := PE X e (tI X.K m g S)
abbrev PL (X : Cx) (m : Md) (g : List Sl) (es : List Expr) (S : List PyData → Prop) : Prop := PA X es (tA X.K m g S)
abbrev PB (X : Cx) (m : Md) (g : List Sl) (e : Expr) (B : Bool → Prop) : Prop := PT X e (tBo X.K m g B)
abbrev PQ (X : Cx) (m : Md) (g : List Sl) (st : List Stmt) (R : PyData → Prop) (N : List Sl → Prop) : Prop := PSs X st (tX X.K m g R N)

theorem pd_le (h : PD X m g e Sa) (w : ∀ d, Sa d → S d) : PD X m g e S := PE.wk h fun σ H Q ⟨o, k⟩ => ⟨o, fun v d H' n s q => k v d H' n (w d s) q⟩
/-- a scalar that needs nothing -/
theorem pd_c {v : V} {d : PyData} (h : PE X e (tC v)) (hd : ∀ H, Dp X.K H v d) : PD X m g e (Is d) := PE.wk h fun σ H Q ⟨o, k⟩ => k v d H o.rfl' rfl (hd _)
theorem pd_int {i : Int} {j : Nat} : PD X m g (.Constant (.int i) j pos) (Is (.int i)) := pd_c pe_int fun _ => .int i
theorem pd_bl {i : Bool} {j : Nat} : PD X m g (.Constant (.bool i) j pos) (Is (.bool i)) := pd_c pe_bl fun _ => .bl i
theorem pd_non {j : Nat} : PD X m g (.Constant .none j pos) (Is .none) := pd_c pe_non fun _ => .non
theorem pd_str {x : Str} {j : Nat} : PD X m g (.Constant (.str x) j pos) (Is (.str x)) := pd_c pe_str fun _ => .str x
theorem pd_glob {x : Str} {d : PyData} (hg : Gl X x) (h : ∃ (v : V) (u : Value), X.mg x = some u ∧ RelV v u ∧ ∀ H, Dp X.K H v d) (hd : (x == ("__debug__" : Str)) = false := by decide) : PD X m g (.Name x pos) (Is d) := by
  obtain ⟨v, u, h1, h2, h3⟩ := h
  exact pd_c (pe_glob hg h1 h2 hd) h3
theorem pd_var (i : Nat) {x : Str} {d : PyData} (hg : g[i]? = some (.d d) := by rfl) (hN : X.N[i]? = some x := by rfl) (hv : Vis X.env.scope x := by first | exact Or.inl rfl | exact Or.inr (Or.inl rfl) | exact Or.inr (Or.inr rfl))
    (hd : (x == ("__debug__" : Str)) = false := by decide) (hcd : (x == ("__classdict__" : Str)) = false := by decide) : PD X m g (.Name x pos) (Is d) := PE.wk (pe_var hN hv hd hcd) fun σ H Q ⟨o, k⟩ => by
  obtain ⟨ov, h1, v, h2, h3⟩ := repS_get o.rp hg
  subst h2
  exact ⟨v, h1, k v d H o.rfl' rfl h3⟩
/-- the argument lists -/
theorem pl_nil : PL X m g [] (Is []) := PA.wk pa_nil fun σ H Q ⟨o, k⟩ => k [] [] H o.rfl' rfl .nil
theorem pl_cons {d : PyData} {ds : List PyData} (ha : PD X m g e (Is d)) (hr : PL X m g es (Is ds)) (hs : starEach (e :: es) X.env = (false, eval e X.env) :: starEach es X.env := by rfl) : PL X m g (e :: es) (Is (d :: ds)) :=
  PA.wk (pa_cons ha hr hs) fun σ H Q ⟨o, k⟩ => ⟨o, fun v d1 H1 n1 s1 q1 => ⟨o.step n1, fun vs ds1 H2 n2 s2 q2 => by
    cases s1
    cases s2
    exact k _ _ H2 (n1.trans n2) rfl (.cons (n2.dp q1) q2)⟩⟩
theorem pl_consS {SS : List PyData → Prop} (ha : PD X m g e Sa) (hr : PL X m g es SS) (hs : starEach (e :: es) X.env = (false, eval e X.env) :: starEach es X.env := by rfl) : PL X m g (e :: es) (fun l => ∃ d ds, l = d :: ds ∧ Sa d ∧ SS ds) :=
  PA.wk (pa_cons ha hr hs) fun σ H Q ⟨o, k⟩ => ⟨o, fun v d1 H1 n1 s1 q1 => ⟨o.step n1, fun vs ds1 H2 n2 s2 q2 => k _ _ H2 (n1.trans n2) ⟨d1, ds1, rfl, s1, s2⟩ (.cons (n2.dp q1) q2)⟩⟩
theorem pl_le {SS TT' : List PyData → Prop} (h : PL X m g es SS) (w : ∀ d, SS d → TT' d) : PL X m g es TT' := PA.wk h fun σ H Q ⟨o, k⟩ => ⟨o, fun v d H' n s q => k v d H' n (w d s) q⟩
theorem dp_newT {K : PySem.W.Frag} {zs : List Addr} {H : Hp} {p : Addr} {xs : List V} {ds : List PyData} (al : Alc zs H) (hp : H p = none) (h : DpAll K (del zs H) xs ds) : Dp K (del zs (upd H p (.tup xs))) (.ref p) (.tuple ds) :=
  .tup (SqT.of (by rw [del_out (al.ne hp), upd_same])) (dps_mono (Kp.of_same (same_new hp)) ds xs h)
theorem dp_newL {K : PySem.W.Frag} {zs : List Addr} {H : Hp} {p : Addr} {xs : List V} {ds : List PyData} (al : Alc zs H) (hp : H p = none) (h : DpAll K (del zs H) xs ds) : Dp K (del zs (upd H p (.lst xs))) (.ref p) (.list ds) :=
  .lst (SqL.of (by rw [del_out (al.ne hp), upd_same])) (dps_mono (Kp.of_same (same_new hp)) ds xs h)
theorem sz1000 {n : Nat} (h : n ≤ 1000) : n ≤ sizeLine := Nat.le_trans h (by decide)
theorem pd_tup {k : Nat} {ds : List PyData} (h : PL X m g es (Is ds)) (hl : ds.length ≤ 1000 := by exact Nat.le_of_ble_eq_true rfl) : PD X m g (.Tuple es k pos) (Is (.tuple ds)) := PE.wk (pe_tup h) fun σ H Q ⟨o, k⟩ => ⟨o, fun vs ds1 H1 n1 s1 q1 => by
  cases s1
  exact ⟨sz1000 (by rw [dps_len q1]; exact hl), fun p hp => k _ _ _ (n1.same (same_new hp)) rfl (dp_newT n1.al hp q1)⟩⟩
theorem pd_lst {ds : List PyData} (h : PL X m g es (Is ds)) (hl : ds.length ≤ 1000 := by exact Nat.le_of_ble_eq_true rfl) : PD X m g (.List es pos) (Is (.list ds)) := PE.wk (pe_lst h) fun σ H Q ⟨o, k⟩ => ⟨o, fun vs ds1 H1 n1 s1 q1 => by
  cases s1
  exact ⟨sz1000 (by rw [dps_len q1]; exact hl), fun p hp => k _ _ _ (n1.same (same_new hp)) rfl (dp_newL n1.al hp q1)⟩⟩
theorem pd_lstS {SS : List PyData → Prop} (h : PL X m g es SS) (hl : ∀ ds, SS ds → ds.length ≤ 1000) : PD X m g (.List es pos) (fun d => ∃ ds, d = .list ds ∧ SS ds) := PE.wk (pe_lst h) fun σ H Q ⟨o, k⟩ => ⟨o, fun vs ds1 H1 n1 s1 q1 =>
  ⟨sz1000 (by rw [dps_len q1]; exact hl _ s1), fun p hp => k _ _ _ (n1.same (same_new hp)) ⟨ds1, rfl, s1⟩ (dp_newL n1.al hp q1)⟩⟩
theorem pd_tupS {k : Nat} {SS : List PyData → Prop} (h : PL X m g es SS) (hl : ∀ ds, SS ds → ds.length ≤ 1000) : PD X m g (.Tuple es k pos) (fun d => ∃ ds, d = .tuple ds ∧ SS ds) := PE.wk (pe_tup h) fun σ H Q ⟨o, k⟩ => ⟨o, fun vs ds1 H1 n1 s1 q1 =>
  ⟨sz1000 (by rw [dps_len q1]; exact hl _ s1), fun p hp => k _ _ _ (n1.same (same_new hp)) ⟨ds1, rfl, s1⟩ (dp_newT n1.al hp q1)⟩⟩

/-! ### operators -/
/-- two operands, a rule r on values that keeps the heap -/
theorem pd_bin2 {r : R2} {Qo : PyData → PyData → PyData → Prop} (h : PE X e (tOp r (tI X.K m g Sa) (tI X.K m g Sb)))
    (hr : ∀ (x y : PyData) (u v : V) (H : Hp) (Q : VK), Sa x → Sb y → Dp X.K (del m.zs H) u x → Dp X.K (del m.zs H) v y → (∀ w d, S d → (∀ H, Dp X.K H w d) → Q w H) → r u v H Q) : PD X m g e S := PE.wk h fun σ H Q ⟨o, k⟩ =>
  ⟨o, fun u x H1 n1 s1 q1 => ⟨o.step n1, fun v y H2 n2 s2 q2 => hr x y u v H2 Q s1 s2 (n2.dp q1) q2 fun w d sd hd => k w d H2 (n1.trans n2) sd (hd _)⟩⟩
theorem pd_I {C : Int → Int → Prop} {f : Int → Int → V} {fd : Int → Int → PyData} (h : PE X e (tOp (rI C f) (tI X.K m g Sa) (tI X.K m g Sb))) (hf : ∀ i j H, Dp X.K H (f i j) (fd i j)) (hs : ∀ x y, Sa x → Sb y → ∃ i j, x = .int i ∧ y = .int j ∧ C i j ∧ S (fd i j)) : PD X m g e S :=
  pd_bin2 (Qo := fun _ _ _ => True) h fun x y u v H Q sx sy qx qy k => by
    obtain ⟨i, j, rfl, rfl, c, s⟩ := hs x y sx sy
    cases dp_int qx
    cases dp_int qy
    exact ⟨i, j, rfl, rfl, c, k _ _ s (hf i j)⟩
theorem pd_I0 {f : Int → Int → V} {fd : Int → Int → PyData} (h : PE X e (tOp (rI0 f) (tI X.K m g Sa) (tI X.K m g Sb))) (hf : ∀ i j H, Dp X.K H (f i j) (fd i j)) (hs : ∀ x y, Sa x → Sb y → ∃ i j, x = .int i ∧ y = .int j ∧ S (fd i j)) : PD X m g e S :=
  pd_bin2 (Qo := fun _ _ _ => True) h fun x y u v H Q sx sy qx qy k => by
    obtain ⟨i, j, rfl, rfl, s⟩ := hs x y sx sy
    cases dp_int qx
    cases dp_int qy
    exact ⟨i, j, rfl, rfl, k _ _ s (hf i j)⟩
theorem is2 {i j : Int} {S : Int → Int → Prop} (h : S i j) : ∀ x y, (Is (PyData.int i)) x → (Is (PyData.int j)) y → ∃ i j, x = .int i ∧ y = .int j ∧ S i j := fun _ _ e1 e2 => ⟨i, j, e1, e2, h⟩
variable {i j : Int}
theorem pd_add (ha : PD X m g a (Is (.int i))) (hb : PD X m g b (Is (.int j))) : PD X m g (.BinOp a .Add b pos) (Is (.int (i + j))) := pd_I0 (pe_op op_add ha hb) (fun _ _ _ => .int _) (is2 rfl)
theorem pd_sub (ha : PD X m g a (Is (.int i))) (hb : PD X m g b (Is (.int j))) : PD X m g (.BinOp a .Sub b pos) (Is (.int (i - j))) := pd_I0 (pe_op op_sub ha hb) (fun _ _ _ => .int _) (is2 rfl)
theorem pd_mul (ha : PD X m g a (Is (.int i))) (hb : PD X m g b (Is (.int j))) (h : CMulX i j) : PD X m g (.BinOp a .Mult b pos) (Is (.int (i * j))) := pd_I (pe_op op_mulX ha hb) (fun _ _ _ => .int _) (is2 ⟨h, rfl⟩)
theorem pd_div (ha : PD X m g a (Is (.int i))) (hb : PD X m g b (Is (.int j))) (h : CDivW i j) : PD X m g (.BinOp a .FloorDiv b pos) (Is (.int (i / j))) := pd_I (pe_op op_fdivW ha hb) (fun _ _ _ => .int _) (is2 ⟨h, rfl⟩)
theorem pd_mod (ha : PD X m g a (Is (.int i))) (hb : PD X m g b (Is (.int j))) (h : 0 < j) : PD X m g (.BinOp a .Mod b pos) (Is (.int (i % j))) := pd_I (pe_op op_mod ha hb) (fun _ _ _ => .int _) (is2 ⟨h, rfl⟩)
theorem pd_lt (ha : PD X m g a (Is (.int i))) (hb : PD X m g b (Is (.int j))) : PD X m g (.Compare a [.Lt] [b] pos) (Is (.bool (decide (i < j)))) := pd_I0 (pe_cmpR op_lt ha hb (nomark _)) (fun _ _ _ => .bl _) (is2 rfl)
theorem pd_le' (ha : PD X m g a (Is (.int i))) (hb : PD X m g b (Is (.int j))) : PD X m g (.Compare a [.LtE] [b] pos) (Is (.bool (decide (i ≤ j)))) := pd_I0 (pe_cmpR op_le ha hb (nomark _)) (fun _ _ _ => .bl _) (is2 rfl)
theorem pd_gt (ha : PD X m g a (Is (.int i))) (hb : PD X m g b (Is (.int j))) : PD X m g (.Compare a [.Gt] [b] pos) (Is (.bool (decide (j < i)))) := pd_I0 (pe_cmpR op_gt ha hb (nomark _)) (fun _ _ _ => .bl _) (is2 rfl)
theorem pd_ge (ha : PD X m g a (Is (.int i))) (hb : PD X m g b (Is (.int j))) : PD X m g (.Compare a [.GtE] [b] pos) (Is (.bool (decide (j ≤ i)))) := pd_I0 (pe_cmpR op_ge ha hb (nomark _)) (fun _ _ _ => .bl _) (is2 rfl)
theorem pd_neg (ha : PD X m g a (Is (.int i))) : PD X m g (.UnaryOp .USub a pos) (Is (.int (-i))) := PE.wk (pe_un un_neg ha) fun σ H Q ⟨o, k⟩ => ⟨o, fun u x H1 n1 s1 q1 => by
  cases s1
  cases dp_int q1
  exact ⟨i, rfl, k _ _ H1 n1 rfl (.int _)⟩⟩
/-! == and != of data -/
theorem pd_eqS {op : CmpOp} {neg : Bool} {r : R2} (h : PE X e (tOp r (tI X.K m g Sa) (tI X.K m g Sb))) (hr : ∀ x y H Q, (∃ d e, Dp X.K H x d ∧ Dp X.K H y e ∧ SeqAt.shaped d = true ∧ SeqAt.shaped e = true ∧ Q (.bl (if neg then !PyData.eqv d e else PyData.eqv d e)) H) → r x y H Q)
    (hs : ∀ x y, Sa x → Sb y → SeqAt.shaped x = true ∧ SeqAt.shaped y = true ∧ S (.bool (if neg then !PyData.eqv x y else PyData.eqv x y))) : PD X m g e S :=
  pd_bin2 (Qo := fun _ _ _ => True) h fun x y u v H Q sx sy qx qy k => by
    obtain ⟨h1, h2, h3⟩ := hs x y sx sy
    exact hr _ _ _ _ ⟨x, y, dp_mono (del_same _ _) _ _ qx, dp_mono (del_same _ _) _ _ qy, h1, h2, k _ _ h3 fun _ => .bl _⟩
theorem pd_eq {x y : PyData} (hu : X.A.units + 64 < cLine) (ha : PD X m g a (Is x)) (hb : PD X m g b (Is y)) (h1 : SeqAt.shaped x = true) (h2 : SeqAt.shaped y = true) : PD X m g (.Compare a [.Eq] [b] pos) (Is (.bool (PyData.eqv x y))) :=
  pd_eqS (op := .Eq) (neg := false) (pe_cmpR (op_eqD hu) ha hb (nomark _)) (fun _ _ _ _ h => h) fun _ _ e1 e2 => by cases e1; cases e2; exact ⟨h1, h2, rfl⟩
theorem pd_ne {x y : PyData} (hu : X.A.units + 64 < cLine) (ha : PD X m g a (Is x)) (hb : PD X m g b (Is y)) (h1 : SeqAt.shaped x = true) (h2 : SeqAt.shaped y = true) : PD X m g (.Compare a [.NotEq] [b] pos) (Is (.bool (!PyData.eqv x y))) :=
  pd_eqS (op := .NotEq) (neg := true) (pe_cmpR (op_neD hu) ha hb (nomark _)) (fun _ _ _ _ h => h) fun _ _ e1 e2 => by cases e1; cases e2; exact ⟨h1, h2, rfl⟩
/-- is None, is not None -/
def isNoneD : PyData → Bool
  | .none => true
  | _ => false
theorem pd_isN {x : PyData} {j : Nat} {pos' : Pos} (ha : PD X m g a (Is x)) : PD X m g (.Compare a [.Is] [.Constant .none j pos'] pos) (Is (.bool (isNoneD x))) :=
  PE.wk (pe_cmp (pc_isN ha) rfl) fun σ H Q ⟨o, k⟩ => ⟨o, fun u y H1 n1 s1 q1 => by
    cases s1
    refine k _ _ H1 n1 rfl ?_
    cases q1 <;> exact .bl _⟩
theorem pd_notN {x : PyData} {j : Nat} {pos' : Pos} (ha : PD X m g a (Is x)) : PD X m g (.Compare a [.IsNot] [.Constant .none j pos'] pos) (Is (.bool (!isNoneD x))) :=
  PE.wk (pe_cmp (pc_notN ha) rfl) fun σ H Q ⟨o, k⟩ => ⟨o, fun u y H1 n1 s1 q1 => by
    cases s1
    refine k _ _ H1 n1 rfl ?_
    cases q1 <;> exact .bl _⟩

/-! ### tests -/
variable {B B1 B2 : Bool → Prop} {x y z : Bool}
theorem pb_val (h : PD X m g e (Is (.bool x))) (he : ∀ whole, isTrue e X.env whole = (do let v ← whole; standAt e.pos; holding [v] (truthy v)) := by intro _; rfl) : PB X m g e (Is x) := PT.wk (pt_val h he) fun σ H Q ⟨o, k⟩ => ⟨o, fun u y H1 n1 s1 q1 => by
  cases s1
  cases dp_bool q1
  exact ⟨x, rfl, k x H1 n1 rfl⟩⟩
theorem pb_cmp {op : CmpOp} {t : TE} (h : PC X op a b t) (w : ∀ σ H Q, tI X.K m g (Is (.bool x)) σ H Q → t σ H Q) (h1 : behindInMarks op b = false) : PB X m g (.Compare a [op] [b] pos) (Is x) := PT.wk (pt_cmp h h1) fun σ H Q ⟨o, k⟩ => w _ _ _ ⟨o, fun u y H1 n1 s1 q1 => by
  cases s1
  cases dp_bool q1
  exact ⟨x, rfl, k x H1 n1 rfl⟩⟩
theorem pb_le (h : PB X m g e B1) (w : ∀ b, B1 b → B b) : PB X m g e B := PT.wk h fun σ H Q ⟨o, k⟩ => ⟨o, fun b H' n s => k b H' n (w b s)⟩
theorem pb_not (h : PB X m g e (Is x)) : PB X m g (.UnaryOp .Not e pos) (Is (!x)) := PT.wk (pt_not h) fun σ H Q ⟨o, k⟩ => ⟨o, fun b H' n s => by
  cases s
  exact k _ H' n rfl⟩
/-- and, or: a chain of tests; the tail is asked where the head leaves it open -/
abbrev PBw (X : Cx) (m : Md) (g : List Sl) (e : Expr) (B : Bool → Prop) : Prop := PW X e (tBo X.K m g B)
theorem PW.wk {X : Cx} {e : Expr} {t t' : TT} (h : PW X e t) (w : ∀ σ H Q, t' σ H Q → t σ H Q) : PW X e t' := ⟨fun wh pins s σ H Q I q => h.run wh pins s σ H Q I (w _ _ _ q)⟩
theorem PW.imp {P : Prop} {X : Cx} {e : Expr} {t : TT} (h : P → PW X e t) : PW X e (fun σ H Q => P ∧ t σ H Q) := ⟨fun wh pins s σ H D I ⟨a, q⟩ => (h a).run wh pins s σ H D I q⟩
variable {rest : List Expr}
theorem pbw_and1 (h : PB X m g a (Is x)) : PBw X m g (.BoolOp .And [a] pos) (Is x) := pw_and1 h
theorem pbw_or1 (h : PB X m g a (Is x)) : PBw X m g (.BoolOp .Or [a] pos) (Is x) := pw_or1 h
theorem pbw_and (h : PB X m g a (Is x)) (h2 : x = true → PBw X m g (.BoolOp .And (b :: rest) pos) (Is y)) : PBw X m g (.BoolOp .And (a :: b :: rest) pos) (Is (x && y)) := PW.wk (pw_and h (PW.imp h2)) fun σ H Q ⟨o, k⟩ => ⟨o, fun c H' n s => by
  cases s
  cases x with
  | true =>
    rw [if_pos rfl]
    exact ⟨rfl, o.step n, fun b H2 n2 s2 => by cases s2; exact k _ H2 (n.trans n2) rfl⟩
  | false =>
    rw [if_neg Bool.false_ne_true]
    exact k _ H' n rfl⟩
theorem pbw_or (h : PB X m g a (Is x)) (h2 : x = false → PBw X m g (.BoolOp .Or (b :: rest) pos) (Is y)) : PBw X m g (.BoolOp .Or (a :: b :: rest) pos) (Is (x || y)) := PW.wk (pw_or h (PW.imp h2)) fun σ H Q ⟨o, k⟩ => ⟨o, fun c H' n s => by
  cases s
  cases x with
  | false =>
    rw [if_neg Bool.false_ne_true]
    exact ⟨rfl, o.step n, fun b H2 n2 s2 => by cases s2; exact k _ H2 (n.trans n2) rfl⟩
  | true =>
    rw [if_pos rfl]
    exact k _ H' n rfl⟩
theorem pb_w (h : PBw X m g e B) : PB X m g e B := PW.pt h
/-- and, or, not as values -/
theorem pd_one {op : BoolOp} (h : PD X m g a S) : PD X m g (.BoolOp op [a] pos) S := pe_one h
theorem pd_and (h : PD X m g a (Is (.bool x))) (h2 : x = true → PD X m g (.BoolOp .And (b :: rest) pos) (Is (.bool y))) : PD X m g (.BoolOp .And (a :: b :: rest) pos) (Is (.bool (x && y))) := PE.wk (pe_and h (PE.imp h2)) fun σ H Q ⟨o, k⟩ => ⟨o, fun c d H' n s q => by
  cases s
  cases dp_bool q
  refine ⟨x, rfl, ?_⟩
  cases x with
  | true =>
    rw [if_pos rfl]
    exact ⟨rfl, o.step n, fun b d H2 n2 s2 q2 => by cases s2; exact k _ _ H2 (n.trans n2) rfl q2⟩
  | false =>
    rw [if_neg Bool.false_ne_true]
    exact k _ _ H' n rfl (.bl _)⟩
theorem pd_or (h : PD X m g a (Is (.bool x))) (h2 : x = false → PD X m g (.BoolOp .Or (b :: rest) pos) (Is (.bool y))) : PD X m g (.BoolOp .Or (a :: b :: rest) pos) (Is (.bool (x || y))) := PE.wk (pe_or h (PE.imp h2)) fun σ H Q ⟨o, k⟩ => ⟨o, fun c d H' n s q => by
  cases s
  cases dp_bool q
  refine ⟨x, rfl, ?_⟩
  cases x with
  | false =>
    rw [if_neg Bool.false_ne_true]
    exact ⟨rfl, o.step n, fun b d H2 n2 s2 q2 => by cases s2; exact k _ _ H2 (n.trans n2) rfl q2⟩
  | true =>
    rw [if_pos rfl]
    exact k _ _ H' n rfl (.bl _)⟩
theorem pd_orT (h : PD X m g a (Is (.bool x))) (hx : x = true) : PD X m g (.BoolOp .Or (a :: b :: rest) pos) (Is (.bool true)) := by
  subst hx
  exact pd_or (y := true) h fun e => by cases e
theorem pd_andF (h : PD X m g a (Is (.bool x))) (hx : x = false) : PD X m g (.BoolOp .And (a :: b :: rest) pos) (Is (.bool false)) := by
  subst hx
  exact pd_and (y := false) h fun e => by cases e
theorem pbw_orT (h : PB X m g a (Is x)) (hx : x = true) : PBw X m g (.BoolOp .Or (a :: b :: rest) pos) (Is true) := by
  subst hx
  exact pbw_or (y := true) h fun e => by cases e
theorem pbw_andF (h : PB X m g a (Is x)) (hx : x = false) : PBw X m g (.BoolOp .And (a :: b :: rest) pos) (Is false) := by
  subst hx
  exact pbw_and (y := false) h fun e => by cases e
theorem pd_not (h : PD X m g a (Is (.bool x))) : PD X m g (.UnaryOp .Not a pos) (Is (.bool (!x))) := PE.wk (pe_not h) fun σ H Q ⟨o, k⟩ => ⟨o, fun c d H' n s q => by
  cases s
  cases dp_bool q
  exact ⟨x, rfl, k _ _ H' n rfl (.bl _)⟩⟩
/-- a if t else b -/
theorem pd_if {c : Expr} (hc : PB X m g c (Is x)) (ha : x = true → PD X m g a S) (hb : x = false → PD X m g b S) : PD X m g (.IfExp c a b pos) S := PE.wk (pe_ifExp hc (PE.imp ha) (PE.imp hb)) fun σ H Q ⟨o, k⟩ => ⟨o, fun c H' n s => by
  cases s
  cases x with
  | true =>
    rw [if_pos rfl]
    exact ⟨rfl, o.step n, fun v d H2 n2 s2 q2 => k v d H2 (n.trans n2) s2 q2⟩
  | false =>
    rw [if_neg Bool.false_ne_true]
    exact ⟨rfl, o.step n, fun v d H2 n2 s2 q2 => k v d H2 (n.trans n2) s2 q2⟩⟩
/-! ### comparisons as tests -/
theorem pb_test {t : TE} (h : PT X e (tTest t)) (w : ∀ σ H Q, tI X.K m g (Is (.bool x)) σ H Q → t σ H Q) : PB X m g e (Is x) := PT.wk h fun σ H Q ⟨o, k⟩ => w _ _ _ ⟨o, fun u y H1 n1 s1 q1 => by
  cases s1
  cases dp_bool q1
  exact ⟨x, rfl, k x H1 n1 rfl⟩⟩
theorem pb_testB {t : TE} (h : PT X e (tB t)) (w : ∀ σ H Q, tI X.K m g (Is (.bool x)) σ H Q → t σ H Q) : PB X m g e (Is x) := PT.wk h fun σ H Q ⟨o, k⟩ => w _ _ _ ⟨o, fun u y H1 n1 s1 q1 => by
  cases s1
  cases dp_bool q1
  exact ⟨x, rfl, k x H1 n1 rfl⟩⟩
theorem w_B0 {f : Int → Int → Bool} {i j : Int} (σ : L2.St) (H : Hp) (Q : VK) : tI X.K m g (Is (.bool (f i j))) σ H Q → tOp (rI0 fun i j => .bl (f i j)) (tI X.K m g (Is (.int i))) (tI X.K m g (Is (.int j))) σ H Q := fun ⟨o, k⟩ => ⟨o, fun u x H1 n1 s1 q1 => ⟨o.step n1, fun v y H2 n2 s2 q2 => by
  cases s1
  cases s2
  cases dp_int q1
  cases dp_int q2
  exact ⟨i, j, rfl, rfl, k _ _ H2 (n1.trans n2) rfl (.bl _)⟩⟩⟩
theorem pb_lt (ha : PD X m g a (Is (.int i))) (hb : PD X m g b (Is (.int j))) : PB X m g (.Compare a [.Lt] [b] pos) (Is (decide (i < j))) := pb_test (pt_cmpR op_lt ha hb (nomark _)) (w_B0 (f := fun i j => decide (i < j)))
theorem pb_le' (ha : PD X m g a (Is (.int i))) (hb : PD X m g b (Is (.int j))) : PB X m g (.Compare a [.LtE] [b] pos) (Is (decide (i ≤ j))) := pb_test (pt_cmpR op_le ha hb (nomark _)) (w_B0 (f := fun i j => decide (i ≤ j)))
theorem pb_gt (ha : PD X m g a (Is (.int i))) (hb : PD X m g b (Is (.int j))) : PB X m g (.Compare a [.Gt] [b] pos) (Is (decide (j < i))) := pb_test (pt_cmpR op_gt ha hb (nomark _)) (w_B0 (f := fun i j => decide (j < i)))
theorem pb_ge (ha : PD X m g a (Is (.int i))) (hb : PD X m g b (Is (.int j))) : PB X m g (.Compare a [.GtE] [b] pos) (Is (decide (j ≤ i))) := pb_test (pt_cmpR op_ge ha hb (nomark _)) (w_B0 (f := fun i j => decide (j ≤ i)))
theorem w_eq {x y : PyData} (h1 : SeqAt.shaped x = true) (h2 : SeqAt.shaped y = true) (σ : L2.St) (H : Hp) (Q : VK) : tI X.K m g (Is (.bool (PyData.eqv x y))) σ H Q → tOp (rEqD X.K) (tI X.K m g (Is x)) (tI X.K m g (Is y)) σ H Q := fun ⟨o, k⟩ => ⟨o, fun u x H1 n1 s1 q1 => ⟨o.step n1, fun v y H2 n2 s2 q2 => by
  cases s1
  cases s2
  exact ⟨_, _, dp_mono (del_same _ _) _ _ (n2.dp q1), dp_mono (del_same _ _) _ _ q2, h1, h2, k _ _ H2 (n1.trans n2) rfl (.bl _)⟩⟩⟩
theorem w_ne {x y : PyData} (h1 : SeqAt.shaped x = true) (h2 : SeqAt.shaped y = true) (σ : L2.St) (H : Hp) (Q : VK) : tI X.K m g (Is (.bool (!PyData.eqv x y))) σ H Q → tOp (rNeD X.K) (tI X.K m g (Is x)) (tI X.K m g (Is y)) σ H Q := fun ⟨o, k⟩ => ⟨o, fun u x H1 n1 s1 q1 => ⟨o.step n1, fun v y H2 n2 s2 q2 => by
  cases s1
  cases s2
  exact ⟨_, _, dp_mono (del_same _ _) _ _ (n2.dp q1), dp_mono (del_same _ _) _ _ q2, h1, h2, k _ _ H2 (n1.trans n2) rfl (.bl _)⟩⟩⟩
theorem pb_eq {x y : PyData} (hu : X.A.units + 64 < cLine) (ha : PD X m g a (Is x)) (hb : PD X m g b (Is y)) (h1 : SeqAt.shaped x = true) (h2 : SeqAt.shaped y = true) : PB X m g (.Compare a [.Eq] [b] pos) (Is (PyData.eqv x y)) := pb_test (pt_cmpR (op_eqD hu) ha hb (nomark _)) (w_eq h1 h2)
theorem pb_ne {x y : PyData} (hu : X.A.units + 64 < cLine) (ha : PD X m g a (Is x)) (hb : PD X m g b (Is y)) (h1 : SeqAt.shaped x = true) (h2 : SeqAt.shaped y = true) : PB X m g (.Compare a [.NotEq] [b] pos) (Is (!PyData.eqv x y)) := pb_test (pt_cmpR (op_neD hu) ha hb (nomark _)) (w_ne h1 h2)
theorem pb_isN {x : PyData} {j : Nat} {pos' : Pos} (ha : PD X m g a (Is x)) : PB X m g (.Compare a [.Is] [.Constant .none j pos'] pos) (Is (isNoneD x)) :=
  pb_testB (pt_cmp (pc_isN ha) rfl) fun σ H Q ⟨o, k⟩ => ⟨o, fun u y H1 n1 s1 q1 => by
    cases s1
    refine k _ _ H1 n1 rfl ?_
    cases q1 <;> exact .bl _⟩
theorem pb_notN {x : PyData} {j : Nat} {pos' : Pos} (ha : PD X m g a (Is x)) : PB X m g (.Compare a [.IsNot] [.Constant .none j pos'] pos) (Is (!isNoneD x)) :=
  pb_testB (pt_cmp (pc_notN ha) rfl) fun σ H Q ⟨o, k⟩ => ⟨o, fun u y H1 n1 s1 q1 => by
    cases s1
    refine k _ _ H1 n1 rfl ?_
    cases q1 <;> exact .bl _⟩
theorem shp {d : PyData} (h1 : d.canLay0 = true) (h2 : d.depth ≤ 64) : SeqAt.shaped d = true := by
  show (d.canLay0 && decide (d.depth ≤ 64)) = true
  rw [h1, decide_eq_true h2]
  rfl
theorem shp_int (i : Int) : SeqAt.shaped (.int i) = true := shp (by simp [PyData.canLay0]) (by simp [PyData.depth])
theorem shp_none : SeqAt.shaped .none = true := shp (by simp [PyData.canLay0]) (by simp [PyData.depth])
theorem shp_int2 (i j : Int) : SeqAt.shaped (.tuple [.int i, .int j]) = true := shp (by simp [PyData.canLay0, PyData.canLayAll0]) (by simp [PyData.depth, PyData.depthAll])
end
end Cv

set_option Elab.async false
set_option linter.all false
set_option maxRecDepth 100000
set_option maxHeartbeats 2000000
namespace Cv
open PySem PySem.Spec PyProof.Rows L2

section
variable {X : Cx} {m : Md} {g : List Sl} {S Sa Sb : PyData → Prop} {a b e : Expr} {es : List Expr} {pos : Pos} {x y : Bool}
theorem pd_binH {r : R2} (h : PE X e (tOp r (tI X.K m g Sa) (tI X.K m g Sb)))
    (hr : ∀ (x y : PyData) (u v : V) (H : Hp) (Q : VK), Alc m.zs H → Sa x → Sb y → Dp X.K (del m.zs H) u x → Dp X.K (del m.zs H) v y → (∀ w d H', Same H H' → S d → Dp X.K (del m.zs H') w d → Q w H') → r u v H Q) : PD X m g e S := PE.wk h fun σ H Q ⟨o, k⟩ =>
  ⟨o, fun u x H1 n1 s1 q1 => ⟨o.step n1, fun v y H2 n2 s2 q2 => hr x y u v H2 Q n2.al s1 s2 (n2.dp q1) q2 fun w d H3 sm sd hd => k w d H3 ((n1.trans n2).same sm) sd hd⟩⟩

/-! ### items -/
theorem atI_lt {α : Type} {xs : List α} {i : Int} {v : α} (h : atI xs i = some v) : ∃ j, ixN xs.length i = some j ∧ xs[j]? = some v := by
  unfold atI at h
  cases e : ixN xs.length i with
  | none => rw [e] at h; cases h
  | some j => rw [e] at h; exact ⟨j, rfl, h⟩
theorem dps_at {K : PySem.W.Frag} {H : Hp} {xs : List V} {ds : List PyData} {i : Int} {d : PyData} (h : DpAll K H xs ds) (e : atI ds i = some d) : ∃ v, atI xs i = some v ∧ Dp K H v d := by
  obtain ⟨j, h1, h2⟩ := atI_lt e
  obtain ⟨v, h3, h4⟩ := dps_get h h2
  refine ⟨v, ?_, h4⟩
  unfold atI
  rw [dps_len h, h1]
  exact h3
/-- s[i] of a tuple, of a list, the index an int -/
theorem pd_ixT {ds : List PyData} {i : Int} {d : PyData} (ha : PD X m g a (Is (.tuple ds))) (hb : PD X m g b (Is (.int i))) (h : atI ds i = some d := by rfl) (hs : PlainIx b := by intro _ _; rfl) : PD X m g (.Subscript a b pos) (Is d) :=
  pd_binH (pe_ix ix_tup ha hb hs) fun x y u v H Q al sx sy qx qy k => by
    cases sx
    cases sy
    cases dp_int qy
    obtain ⟨p, xs, rfl, h1, h2⟩ := dp_tup qx
    obtain ⟨w, h3, h4⟩ := dps_at h2 h
    exact ⟨p, xs, i, w, rfl, rfl, sqT_mono (del_same _ _) h1, h3, k w d H (Same.refl H) rfl h4⟩
theorem pd_ixL {ds : List PyData} {i : Int} {d : PyData} (ha : PD X m g a (Is (.list ds))) (hb : PD X m g b (Is (.int i))) (h : atI ds i = some d := by rfl) (hs : PlainIx b := by intro _ _; rfl) : PD X m g (.Subscript a b pos) (Is d) :=
  pd_binH (pe_ix ix_list ha hb hs) fun x y u v H Q al sx sy qx qy k => by
    cases sx
    cases sy
    cases dp_int qy
    obtain ⟨p, xs, rfl, h1, h2⟩ := dp_lst qx
    obtain ⟨w, h3, h4⟩ := dps_at h2 h
    exact ⟨p, xs, i, w, rfl, rfl, sqL_mono (del_same _ _) h1, h3, k w d H (Same.refl H) rfl h4⟩
/-- .. of open sets: an item of one of several lists -/
theorem pd_ixLS {Sl' : List PyData → Prop} {Si : Int → Prop} (ha : PD X m g a (fun d => ∃ ds, d = .list ds ∧ Sl' ds)) (hb : PD X m g b (fun d => ∃ i, d = .int i ∧ Si i)) (h : ∀ ds i, Sl' ds → Si i → ∃ d, atI ds i = some d ∧ S d) (hs : PlainIx b := by intro _ _; rfl) : PD X m g (.Subscript a b pos) S :=
  pd_binH (pe_ix ix_list ha hb hs) fun x y u v H Q al sx sy qx qy k => by
    obtain ⟨ds, rfl, s1⟩ := sx
    obtain ⟨i, rfl, s2⟩ := sy
    cases dp_int qy
    obtain ⟨p, xs, rfl, h1, h2⟩ := dp_lst qx
    obtain ⟨d, h5, h6⟩ := h ds i s1 s2
    obtain ⟨w, h3, h4⟩ := dps_at h2 h5
    exact ⟨p, xs, i, w, rfl, rfl, sqL_mono (del_same _ _) h1, h3, k w d H (Same.refl H) h6 h4⟩
/-- (*s, ..) of a tuple, of a list -/
theorem pl_starT {ds es' : List PyData} {p : Pos} (ha : PD X m g e (Is (.tuple ds))) (hr : PL X m g es (Is es')) (hs : starEach (.Starred e p :: es) X.env = (true, eval e X.env) :: starEach es X.env := by rfl) : PL X m g (.Starred e p :: es) (Is (ds ++ es')) :=
  PA.wk (StX.pa_star ha hr hs) fun σ H Q ⟨o, k⟩ => ⟨o, fun v d1 H1 n1 s1 q1 => by
    cases s1
    obtain ⟨q, xs, rfl, h1, h2⟩ := dp_tup q1
    exact ⟨q, xs, rfl, .inl (sqT_mono (del_same _ _) h1), o.step n1, fun vs ds1 H2 n2 s2 q2 => by
      cases s2
      exact k _ _ H2 (n1.trans n2) rfl (dps_app (n2.dps h2) q2)⟩⟩
theorem pl_starL {ds es' : List PyData} {p : Pos} (ha : PD X m g e (Is (.list ds))) (hr : PL X m g es (Is es')) (hs : starEach (.Starred e p :: es) X.env = (true, eval e X.env) :: starEach es X.env := by rfl) : PL X m g (.Starred e p :: es) (Is (ds ++ es')) :=
  PA.wk (StX.pa_star ha hr hs) fun σ H Q ⟨o, k⟩ => ⟨o, fun v d1 H1 n1 s1 q1 => by
    cases s1
    obtain ⟨q, xs, rfl, h1, h2⟩ := dp_lst q1
    exact ⟨q, xs, rfl, .inr (sqL_mono (del_same _ _) h1), o.step n1, fun vs ds1 H2 n2 s2 q2 => by
      cases s2
      exact k _ _ H2 (n1.trans n2) rfl (dps_app (n2.dps h2) q2)⟩⟩

/-! ### calls of built-ins -/
theorem pd_cb {f : Value} {r : List V → Hp → VK → Prop} {SS : List PyData → Prop} (h : PE X e (tCB r (tA X.K m g SS)))
    (hr : ∀ ds us H Q, Alc m.zs H → SS ds → DpAll X.K (del m.zs H) us ds → (∀ w d H', Same H H' → S d → Dp X.K (del m.zs H') w d → Q w H') → r us H Q) : PD X m g e S := PE.wk h fun σ H Q ⟨o, k⟩ => ⟨o, fun us ds H1 n1 s1 q1 =>
  hr ds us H1 Q n1.al s1 q1 fun w d H' sm sd hd => k w d H' (n1.same sm) sd hd⟩
theorem dps1 {K : PySem.W.Frag} {H : Hp} {us : List V} {d : PyData} (h : DpAll K H us [d]) : ∃ u, us = [u] ∧ Dp K H u d := by
  cases h with
  | cons h1 h2 => cases h2; exact ⟨_, rfl, h1⟩
theorem dps2 {K : PySem.W.Frag} {H : Hp} {us : List V} {d d' : PyData} (h : DpAll K H us [d, d']) : ∃ u u', us = [u, u'] ∧ Dp K H u d ∧ Dp K H u' d' := by
  cases h with
  | cons h1 h2 =>
    obtain ⟨u, e, h3⟩ := dps1 h2
    exact ⟨_, u, by rw [e], h1, h3⟩
/-- abs -/
theorem pd_abs {i : Int} {p : Pos} (ha : PD X m g a (Is (.int i))) (hg : Gl X "abs") (hm : X.mg "abs" = none) (hs : starEach [a] X.env = (false, eval a X.env) :: starEach [] X.env := by rfl) (hpl : (backTo pos (starEach [] X.env)).any (·.1) = false := by rfl) : PD X m g (.Call (.Name "abs" p) [a] [] pos) (Is (.int (i.natAbs : Int))) :=
  pd_cb (f := .none) (pe_callB call_abs hg hm (by decide +kernel) (pl_cons ha pl_nil hs) (he := hs) (hpl := by rfl)) fun ds us H Q al s q k => by
    cases s
    obtain ⟨u, rfl, q0⟩ := dps1 q
    cases dp_int q0
    refine ⟨i, rfl, ?_⟩
    have e : (if i < 0 then -i else i) = (i.natAbs : Int) := by split <;> omega
    rw [e]
    exact k _ _ H (Same.refl H) rfl (.int _)
/-- int(n), int(b) -/
theorem pd_toInt {i : Int} {p : Pos} (ha : PD X m g a (Is (.int i))) (hg : Gl X "int") (hm : X.mg "int" = none) (hs : starEach [a] X.env = (false, eval a X.env) :: starEach [] X.env := by rfl) : PD X m g (.Call (.Name "int" p) [a] [] pos) (Is (.int i)) :=
  pd_cb (f := .none) (pe_callTy call_int1 hg hm (by decide +kernel) (pl_cons ha pl_nil hs) (he := hs) (hpl := by rfl)) fun ds us H Q al s q k => by
    cases s
    obtain ⟨u, rfl, q0⟩ := dps1 q
    cases dp_int q0
    exact .inl ⟨i, rfl, k _ _ H (Same.refl H) rfl (.int _)⟩
theorem pd_toIntB {i : Bool} {p : Pos} (ha : PD X m g a (Is (.bool i))) (hg : Gl X "int") (hm : X.mg "int" = none) (hs : starEach [a] X.env = (false, eval a X.env) :: starEach [] X.env := by rfl) : PD X m g (.Call (.Name "int" p) [a] [] pos) (Is (.int (if i then 1 else 0))) :=
  pd_cb (f := .none) (pe_callTy call_int1 hg hm (by decide +kernel) (pl_cons ha pl_nil hs) (he := hs) (hpl := by rfl)) fun ds us H Q al s q k => by
    cases s
    obtain ⟨u, rfl, q0⟩ := dps1 q
    cases dp_bool q0
    exact .inr ⟨i, rfl, k _ _ H (Same.refl H) rfl (.int _)⟩
/-- tuple(a list), tuple(a tuple) -/
theorem pd_tupL {ds : List PyData} {p : Pos} (ha : PD X m g a (Is (.list ds))) (hg : Gl X "tuple") (hm : X.mg "tuple" = none) (hs : starEach [a] X.env = (false, eval a X.env) :: starEach [] X.env := by rfl) : PD X m g (.Call (.Name "tuple" p) [a] [] pos) (Is (.tuple ds)) :=
  pd_cb (f := .none) (pe_callTy call_tuple_of hg hm (by decide +kernel) (pl_cons ha pl_nil hs) (he := hs) (hpl := by rfl)) fun es us H Q al s q k => by
    cases s
    obtain ⟨u, rfl, q0⟩ := dps1 q
    obtain ⟨p, xs, rfl, h1, h2⟩ := dp_lst q0
    exact ⟨p, xs, rfl, .inl ⟨sqL_mono (del_same _ _) h1, fun l hl => k _ _ _ (same_new hl) rfl (dp_newT al hl h2)⟩⟩
theorem pd_tupT {ds : List PyData} {p : Pos} (ha : PD X m g a (Is (.tuple ds))) (hg : Gl X "tuple") (hm : X.mg "tuple" = none) (hs : starEach [a] X.env = (false, eval a X.env) :: starEach [] X.env := by rfl) : PD X m g (.Call (.Name "tuple" p) [a] [] pos) (Is (.tuple ds)) :=
  pd_cb (f := .none) (pe_callTy call_tuple_of hg hm (by decide +kernel) (pl_cons ha pl_nil hs) (he := hs) (hpl := by rfl)) fun es us H Q al s q k => by
    cases s
    obtain ⟨u, rfl, q0⟩ := dps1 q
    obtain ⟨p, xs, rfl, h1, h2⟩ := dp_tup q0
    exact ⟨p, xs, rfl, .inr ⟨sqT_mono (del_same _ _) h1, k _ _ _ (Same.refl H) rfl q0⟩⟩
/-- len -/
theorem pd_lenL {ds : List PyData} {p : Pos} (ha : PD X m g a (Is (.list ds))) (hg : Gl X "len") (hm : X.mg "len" = none) (hs : starEach [a] X.env = (false, eval a X.env) :: starEach [] X.env := by rfl) : PD X m g (.Call (.Name "len" p) [a] [] pos) (Is (.int (ds.length : Nat))) :=
  pd_cb (f := .none) (pe_callB call_len hg hm boot_len (pl_cons ha pl_nil hs) (he := hs) (hpl := by rfl)) fun es us H Q al s q k => by
    cases s
    obtain ⟨u, rfl, q0⟩ := dps1 q
    obtain ⟨p, xs, rfl, h1, h2⟩ := dp_lst q0
    exact ⟨_, ds.length, rfl, .inl ⟨xs, sqL_mono (del_same _ _) h1, (dps_len h2).symm⟩, k _ _ H (Same.refl H) rfl (.int _)⟩
theorem pd_lenT {ds : List PyData} {p : Pos} (ha : PD X m g a (Is (.tuple ds))) (hg : Gl X "len") (hm : X.mg "len" = none) (hs : starEach [a] X.env = (false, eval a X.env) :: starEach [] X.env := by rfl) : PD X m g (.Call (.Name "len" p) [a] [] pos) (Is (.int (ds.length : Nat))) :=
  pd_cb (f := .none) (pe_callB call_len hg hm boot_len (pl_cons ha pl_nil hs) (he := hs) (hpl := by rfl)) fun es us H Q al s q k => by
    cases s
    obtain ⟨u, rfl, q0⟩ := dps1 q
    obtain ⟨p, xs, rfl, h1, h2⟩ := dp_tup q0
    exact ⟨_, ds.length, rfl, .inr ⟨xs, sqT_mono (del_same _ _) h1, (dps_len h2).symm⟩, k _ _ H (Same.refl H) rfl (.int _)⟩
/-- all(a list of bools) -/
theorem dps_bools {K : PySem.W.Frag} {H : Hp} : ∀ {bs : List Bool} {xs : List V}, DpAll K H xs (bs.map PyData.bool) → xs = bs.map V.bl
  | [], _, h => by cases h; rfl
  | b :: bs, _, h => by
    cases h with
    | cons h1 h2 => rw [dp_bool h1, dps_bools h2]; rfl
theorem pd_all {bs : List Bool} {p : Pos} (hc : X.calm = true) (ha : PD X m g a (Is (.list (bs.map PyData.bool)))) (hg : Gl X "all") (hm : X.mg "all" = none) (hs : starEach [a] X.env = (false, eval a X.env) :: starEach [] X.env := by rfl) : PD X m g (.Call (.Name "all" p) [a] [] pos) (Is (.bool (bs.all id))) :=
  pd_cb (f := .none) (pe_callB (cr_all hc) hg hm (by decide +kernel) (pl_cons ha pl_nil hs) (he := hs) (hpl := by rfl)) fun es us H Q al s q k => by
    cases s
    obtain ⟨u, rfl, q0⟩ := dps1 q
    obtain ⟨p, xs, rfl, h1, h2⟩ := dp_lst q0
    rw [dps_bools h2] at h1
    exact ⟨p, bs, rfl, sqL_mono (del_same _ _) h1, k _ _ H (Same.refl H) rfl (.bl _)⟩
/-- min, max of two ints -/
theorem pd_min {i j : Int} {p : Pos} (hc : X.calm = true) (ha : PD X m g a (Is (.int i))) (hb : PD X m g b (Is (.int j))) (hg : Gl X "min") (hm : X.mg "min" = none) (hs : starEach [a, b] X.env = (false, eval a X.env) :: starEach [b] X.env := by rfl) (hs2 : starEach [b] X.env = (false, eval b X.env) :: starEach [] X.env := by rfl)
    (hpl : (backTo pos (starEach [b] X.env)).any (·.1) = false := by rfl) : PD X m g (.Call (.Name "min" p) [a, b] [] pos) (Is (.int (if j < i then j else i))) :=
  pd_cb (f := .none) (pe_callB (call_min2 hc) hg hm (by decide +kernel) (pl_cons ha (pl_cons hb pl_nil hs2) hs) (he := hs) (hpl := hpl)) fun es us H Q al s q k => by
    cases s
    obtain ⟨u, v, rfl, q1, q2⟩ := dps2 q
    cases dp_int q1
    cases dp_int q2
    exact ⟨i, j, rfl, k _ _ H (Same.refl H) rfl (.int _)⟩
theorem pd_max {i j : Int} {p : Pos} (hc : X.calm = true) (ha : PD X m g a (Is (.int i))) (hb : PD X m g b (Is (.int j))) (hg : Gl X "max") (hm : X.mg "max" = none) (hs : starEach [a, b] X.env = (false, eval a X.env) :: starEach [b] X.env := by rfl) (hs2 : starEach [b] X.env = (false, eval b X.env) :: starEach [] X.env := by rfl)
    (hpl : (backTo pos (starEach [b] X.env)).any (·.1) = false := by rfl) : PD X m g (.Call (.Name "max" p) [a, b] [] pos) (Is (.int (if j > i then j else i))) :=
  pd_cb (f := .none) (pe_callB (call_max2 hc) hg hm (by decide +kernel) (pl_cons ha (pl_cons hb pl_nil hs2) hs) (he := hs) (hpl := hpl)) fun es us H Q al s q k => by
    cases s
    obtain ⟨u, v, rfl, q1, q2⟩ := dps2 q
    cases dp_int q1
    cases dp_int q2
    exact ⟨i, j, rfl, k _ _ H (Same.refl H) rfl (.int _)⟩
/-! isinstance -/
def tyD : PyData → String
  | .none => "NoneType"
  | .bool _ => "bool"
  | .int _ => "int"
  | .str _ => "str"
  | .list _ => "list"
  | .tuple _ => "tuple"
  | .dict _ => "dict"
theorem tyx {K : PySem.W.Frag} {H : Hp} {v : V} {d : PyData} (h : Dp K H v d) : TyX K H v (.type (tyD d)) := by
  cases h with
  | non => exact .base .non
  | bl b => exact .base (.bl b)
  | int i => exact .base (.int i)
  | str x => exact .base (.str x)
  | lst hs _ =>
    rcases hs with (h | ⟨o, h⟩) | ⟨o, its, n, h1, h2, _⟩
    · exact .base (.lst h)
    · exact .base (.frz h)
    · exact .kList h1 h2
  | tup hs _ =>
    rcases hs with (h | ⟨o, h⟩) | ⟨o, its, n, h1, h2, _⟩
    · exact .base (.tup h)
    · exact .fTuple h
    · exact .kTuple h1 h2
theorem tyx_del {K : PySem.W.Frag} {zs : List Addr} {H : Hp} {v : V} {d : PyData} (h : Dp K (del zs H) v d) : TyX K H v (.type (tyD d)) := tyx (dp_mono (del_same _ _) _ _ h)
/-- isinstance(x, T), T a built-in type's name -/
theorem pd_isi {d : PyData} {r : Bool} {p p2 : Pos} {T : String} {c : Str} (ha : PD X m g a (Is d)) (hg : Gl X "isinstance") (hm : X.mg "isinstance" = none) (hgT : Gl X c) (hmT : X.mg c = none) (hT : bootBuiltins c = some (.type T)) (hk : kitB (tyD d) T = some r)
    (hn : c ≠ "__name__" := by decide) (hdb : (c == ("__debug__" : Str)) = false := by decide)
    (hs : starEach [a, .Name c p2] X.env = (false, eval a X.env) :: starEach [.Name c p2] X.env := by rfl) (hs2 : starEach [.Name c p2] X.env = (false, eval (.Name c p2) X.env) :: starEach [] X.env := by rfl)
    (hpl : (backTo pos (starEach [.Name c p2] X.env)).any (·.1) = false := by rfl) : PD X m g (.Call (.Name "isinstance" p) [a, .Name c p2] [] pos) (Is (.bool r)) :=
  PE.wk (pe_callB call_isi hg hm (by decide +kernel) (pa_cons ha (pa_cons (pe_bltn (v := .ty T) hgT hmT hT rfl hn hdb) pa_nil hs2) hs) (he := hs) (hpl := hpl)) fun σ H Q ⟨o, k⟩ => ⟨o, fun v d1 H1 n1 s1 q1 => by
    cases s1
    exact ⟨v, .ty T, .type (tyD d), .type T, r, rfl, .ty T, tyx_del q1, kit_ty hk, k _ _ H1 n1 rfl (.bl _)⟩⟩
/-- isinstance(x, (T1, T2)) -/
theorem pd_isi2 {d : PyData} {r1 r2 : Bool} {p p2 p3 p4 : Pos} {kx : Nat} {T1 T2 : String} {c1 c2 : Str} (ha : PD X m g a (Is d)) (hg : Gl X "isinstance") (hm : X.mg "isinstance" = none) (hg1 : Gl X c1) (hm1 : X.mg c1 = none) (hT1 : bootBuiltins c1 = some (.type T1)) (hk1 : kitB (tyD d) T1 = some r1)
    (hg2 : Gl X c2) (hm2 : X.mg c2 = none) (hT2 : bootBuiltins c2 = some (.type T2)) (hk2 : kitB (tyD d) T2 = some r2)
    (hn1 : c1 ≠ "__name__" := by decide) (hdb1 : (c1 == ("__debug__" : Str)) = false := by decide) (hn2 : c2 ≠ "__name__" := by decide) (hdb2 : (c2 == ("__debug__" : Str)) = false := by decide)
    (hs : starEach [a, .Tuple [.Name c1 p2, .Name c2 p3] kx p4] X.env = (false, eval a X.env) :: starEach [.Tuple [.Name c1 p2, .Name c2 p3] kx p4] X.env := by rfl) (hs2 : starEach [.Tuple [.Name c1 p2, .Name c2 p3] kx p4] X.env = (false, eval (.Tuple [.Name c1 p2, .Name c2 p3] kx p4) X.env) :: starEach [] X.env := by rfl)
    (hs3 : starEach [.Name c1 p2, .Name c2 p3] X.env = (false, eval (.Name c1 p2) X.env) :: starEach [.Name c2 p3] X.env := by rfl) (hs4 : starEach [.Name c2 p3] X.env = (false, eval (.Name c2 p3) X.env) :: starEach [] X.env := by rfl)
    (hpl : (backTo pos (starEach [.Tuple [.Name c1 p2, .Name c2 p3] kx p4] X.env)).any (·.1) = false := by rfl) : PD X m g (.Call (.Name "isinstance" p) [a, .Tuple [.Name c1 p2, .Name c2 p3] kx p4] [] pos) (Is (.bool (r1 || r2))) :=
  PE.wk (pe_callB call_isiT hg hm (by decide +kernel) (pa_cons ha (pa_cons (pe_tup (pa_cons (pe_bltn (v := .ty T1) hg1 hm1 hT1 rfl hn1 hdb1) (pa_cons (pe_bltn (v := .ty T2) hg2 hm2 hT2 rfl hn2 hdb2) pa_nil hs4) hs3)) pa_nil hs2) hs) (he := hs) (hpl := hpl)) fun σ H Q ⟨o, k⟩ => ⟨o, fun v d1 H1 n1 s1 q1 => by
    cases s1
    refine ⟨(by show 2 ≤ sizeLine; decide), fun tp hp => ?_⟩
    refine ⟨v, tp, [.ty T1, .ty T2], .type (tyD d), [.type T1, .type T2], r1 || r2, rfl, upd_same, .cons (.ty _) (.cons (.ty _) .nil), tyx_del (dp_mono (Kp.of_same (zs := m.zs) (same_new hp)) _ _ q1), ?_, k _ _ _ (n1.same (same_new hp)) rfl (.bl _)⟩
    refine kitAny_cons (b := r1) (kit_ty hk1) (fun e => ?_) fun e => by rw [e]; rfl
    rw [e, Bool.false_or]
    refine kitAny_cons (b := r2) (kit_ty hk2) (fun e => by rw [e]; exact kitAny_nil) fun e => e⟩

/-! ### calls of the text's own defs -/
/-- a pure def: R tells of its arguments and its answer -/
def spP (K : PySem.W.Frag) (R : List PyData → PyData → Prop) : Sp := fun vs H Q _ => ∃ zs ds d, Alc zs H ∧ DpAll K (del zs H) vs ds ∧ R ds d ∧ ∀ v H', Same H H' → Dp K (del zs H') v d → Q v H'
theorem pd_call {R : List PyData → PyData → Prop} {k j : Nat} {f : Str} {p : Pos} {ds : List PyData} {d : PyData} (c : C8.Cal X.prog X.w X.K X.mg X.base k f (spP X.K R) []) (hr : Room j X.A) (hk : k ≤ j) (hg : Gl X f) (ha : PL X m g (e :: es) (Is ds)) (h : R ds d)
    (hdb : (f == ("__debug__" : Str)) = false := by decide) (he : starEach (e :: es) X.env = (false, eval e X.env) :: starEach es X.env := by rfl) (hpl : (backTo pos (starEach es X.env)).any (·.1) = false := by rfl) : PD X m g (.Call (.Name f p) (e :: es) [] pos) (Is d) :=
  PE.wk (C8.pe_c c hr hk hg ha hdb he hpl) fun σ H Q ⟨o, kk⟩ => ⟨o, fun vs ds1 H1 n1 s1 q1 => by
    cases s1
    exact ⟨m.zs, ds, d, n1.al, by rw [List.append_nil]; exact q1, h, fun v H' sm q => kk v d H' (n1.same sm) rfl q⟩⟩
theorem pd_callS {R : List PyData → PyData → Prop} {k j : Nat} {f : Str} {p : Pos} {SS : List PyData → Prop} (c : C8.Cal X.prog X.w X.K X.mg X.base k f (spP X.K R) []) (hr : Room j X.A) (hk : k ≤ j) (hg : Gl X f) (ha : PL X m g (e :: es) SS) (h : ∀ ds, SS ds → ∃ d, R ds d ∧ S d)
    (hdb : (f == ("__debug__" : Str)) = false := by decide) (he : starEach (e :: es) X.env = (false, eval e X.env) :: starEach es X.env := by rfl) (hpl : (backTo pos (starEach es X.env)).any (·.1) = false := by rfl) : PD X m g (.Call (.Name f p) (e :: es) [] pos) S :=
  PE.wk (C8.pe_c c hr hk hg ha hdb he hpl) fun σ H Q ⟨o, kk⟩ => ⟨o, fun vs ds1 H1 n1 s1 q1 => by
    obtain ⟨d, h1, h2⟩ := h ds1 s1
    exact ⟨m.zs, ds1, d, n1.al, by rw [List.append_nil]; exact q1, h1, fun v H' sm q => kk v d H' (n1.same sm) h2 q⟩⟩

/-! ### statements -/
variable {R : PyData → Prop} {N N1 : List Sl → Prop} {rest sa sb : List Stmt}
theorem ss_ret (h : PD X m g e S) (w : ∀ d, S d → R d) : PQ X m g [.Return (some e) pos] R N := PSs.wk (pss_one (ps_ret h)) fun D σ H ⟨o, k, _⟩ => ⟨o, fun v d H' n s q => k v d H' n (w d s) q⟩
theorem ss_ret1 {d : PyData} (h : PD X m g e (Is d)) : PQ X m g [.Return (some e) pos] (Is d) N := ss_ret h fun _ s => s
theorem ss_nil (h : N g) : PQ X m g [] R N := PSs.wk pss_nil fun D σ H ⟨o, _, k⟩ => k g σ H o.rfl' h o
theorem slOk_d {K : PySem.W.Frag} {H : Hp} {v : V} {d : PyData} (h : Dp K H v d) : SlOk K H (.d d) (some v) := ⟨v, rfl, h⟩
theorem ss_set (i : Nat) {n : Str} {pos' : Pos} (h : PD X m g e S) (hr : ∀ d, S d → PQ X m (g.set i (.d d)) rest R N) (hN : X.N.Nodup) (hi : X.N[i]? = some n := by rfl) (hx : Loc X.env.scope n := by first | exact Or.inl rfl | exact Or.inr rfl)
    (hs : swapsWith e (some (.Name n pos')) pos.line X.env = pure false := by rfl) (hf : X.fn n = true ∨ X.env.scope.names.lookup n = some .local := by first | exact .inl rfl | exact .inr rfl) : PQ X m g (.Assign [.Name n pos'] e pos :: rest) R N :=
  PSs.wk (pss_cons (ps_set hN hi hx h hs hf) (PSs.ex fun d => PSs.imp (hr d))) fun D σ H ⟨o, k1, k2⟩ => ⟨o, fun v d H' n s q =>
    ⟨d, s, (o.step n).set i (slOk_d q), fun v' d' H2 n2 => k1 v' d' H2 (n.trans n2), fun g' σ' H2 n2 => k2 g' σ' H2 (n.trans n2)⟩⟩
theorem ss_set1 (i : Nat) {n : Str} {pos' : Pos} {d : PyData} (h : PD X m g e (Is d)) (hr : PQ X m (g.set i (.d d)) rest R N) (hN : X.N.Nodup) (hi : X.N[i]? = some n := by rfl) (hx : Loc X.env.scope n := by first | exact Or.inl rfl | exact Or.inr rfl)
    (hs : swapsWith e (some (.Name n pos')) pos.line X.env = pure false := by rfl) (hf : X.fn n = true ∨ X.env.scope.names.lookup n = some .local := by first | exact .inl rfl | exact .inr rfl) : PQ X m g (.Assign [.Name n pos'] e pos :: rest) R N :=
  ss_set i h (fun _ s => by cases s; exact hr) hN hi hx hs hf
/-- if -/
theorem ss_if {c : Expr} {B : Bool → Prop} (hc : PB X m g c B) (ha : B true → PQ X m g sa R N1) (hb : B false → PQ X m g sb R N1) (hr : ∀ g', N1 g' → PQ X m g' rest R N) : PQ X m g (.If c sa sb pos :: rest) R N :=
  PSs.wk (pss_cons (ps_if hc (PSs.imp ha) (PSs.imp hb)) (PSs.ex fun g' => PSs.imp (hr g'))) fun D σ H ⟨o, k1, k2⟩ => ⟨o, fun b H' n s => by
    have fin : ∀ (g' : List Sl) (σ' : L2.St) (H2 : Hp), Nxt m H H2 → N1 g' → Okk X.K m g' σ' H2 → ∃ a, N1 a ∧ tX X.K m a R N D σ' H2 := fun g' σ' H2 n2 s2 o2 => ⟨g', s2, o2, fun v' d' H3 n3 => k1 v' d' H3 (n2.trans n3), fun g'' σ'' H3 n3 => k2 g'' σ'' H3 (n2.trans n3)⟩
    cases b with
    | true =>
      refine iteT ?_
      exact ⟨s, o.step n, fun v d H2 n2 => k1 v d H2 (n.trans n2), fun g' σ' H2 n2 => fin g' σ' H2 (n.trans n2)⟩
    | false =>
      refine iteF ?_
      exact ⟨s, o.step n, fun v d H2 n2 => k1 v d H2 (n.trans n2), fun g' σ' H2 n2 => fin g' σ' H2 (n.trans n2)⟩⟩
/-- an if without else whose body ends the def -/
theorem ss_ifR {c : Expr} (hc : PB X m g c (Is x)) (ha : x = true → PQ X m g sa R Nof) (hr : x = false → PQ X m g rest R N) : PQ X m g (.If c sa [] pos :: rest) R N := by
  cases x with
  | true => exact ss_if (N1 := Nof) hc (fun _ => ha rfl) (fun e => by cases e) fun _ z => z.elim
  | false => exact ss_if (N1 := Is g) hc (fun e => by cases e) (fun _ => ss_nil rfl) fun _ z => by cases z; exact hr rfl
theorem ss_pass (hr : PQ X m g rest R N) : PQ X m g (.Pass pos :: rest) R N := PSs.wk (pss_cons ps_pass hr) fun D σ H h => h
/-- an expression alone -/
theorem ss_expr (h : PD X m g e S) (hr : PQ X m g rest R N) (hs : swapsWith e none pos.line X.env = pure false := by rfl) : PQ X m g (.Expr e pos :: rest) R N := PSs.wk (pss_cons (ps_expr h hs) hr) fun D σ H ⟨o, k1, k2⟩ => ⟨o, fun v d H' n s q =>
  ⟨o.step n, fun v' d' H2 n2 => k1 v' d' H2 (n.trans n2), fun g' σ' H2 n2 => k2 g' σ' H2 (n.trans n2)⟩⟩
theorem pq_le {R' : PyData → Prop} {N' : List Sl → Prop} (h : PQ X m g rest R' N') (w : ∀ d, R' d → R d) (w2 : ∀ g, N' g → N g) : PQ X m g rest R N := PSs.wk h fun D σ H ⟨o, k1, k2⟩ => ⟨o, fun v d H' n s => k1 v d H' n (w d s), fun g' σ' H' n s => k2 g' σ' H' n (w2 g' s)⟩
/-- the names of some slots forgotten -/
theorem pq_fgt {g' : List Sl} (h : PQ X m g' rest R N) (f : Fgt g g') : PQ X m g rest R N := PSs.wk h fun D σ H ⟨o, k1, k2⟩ => ⟨o.fgt f, k1, k2⟩
theorem pd_fgt {g' : List Sl} (h : PD X m g' e S) (f : Fgt g g') : PD X m g e S := PE.wk h fun σ H Q ⟨o, k⟩ => ⟨o.fgt f, k⟩

/-! ### targets -/
abbrev PGd (X : Cx) (m : Md) (g : List Sl) (t : Expr) (d : PyData) (g' : List Sl) : Prop := PG X t (gI X.K m g (Is d) (Is g'))
abbrev PGs' (X : Cx) (m : Md) (g : List Sl) (t : List Expr) (ds : List PyData) (g' : List Sl) : Prop := PGs X t (gsI X.K m g ds g')
theorem g_name (i : Nat) {n : Str} {d : PyData} (hN : X.N.Nodup) (hi : X.N[i]? = some n := by rfl) (hx : Loc X.env.scope n := by first | exact Or.inl rfl | exact Or.inr rfl) (hf : X.fn n = true ∨ X.env.scope.names.lookup n = some .local := by first | exact .inl rfl | exact .inr rfl) :
    PGd X m g (.Name n pos) d (g.set i (.d d)) := PG.wk (pg_name hN hi hx hf) fun v σ H Q ⟨o, ⟨d', e, q⟩, k⟩ => by
  cases e
  exact k _ _ H o.rfl' rfl (o.set i (slOk_d q))
theorem g_nil : PGs' X m g [] [] g := PGs.wk pgs_nil fun vs σ H Q ⟨o, q, k⟩ => by
  cases q
  exact ⟨rfl, k σ H o.rfl' o⟩
theorem g_cons {d : PyData} {ds : List PyData} {g1 g2 : List Sl} (h1 : PGd X m g e d g1) (h2 : PGs' X m g1 es ds g2) (hs : (assignEach (e :: es) X.env).map (·.2) = assign e X.env :: (assignEach es X.env).map (·.2) := by rfl) : PGs' X m g (e :: es) (d :: ds) g2 :=
  PGs.wk (pgs_cons h1 h2 hs) fun vs σ H Q ⟨o, q, k⟩ => by
    cases q with
    | cons q1 q2 => exact ⟨_, _, rfl, o, ⟨d, rfl, q1⟩, fun g' σ' H' n s o' => by cases s; exact ⟨o', n.dps q2, fun σ2 H2 n2 o2 => k σ2 H2 (n.trans n2) o2⟩⟩
theorem g_tup {k : Nat} {ds : List PyData} {g' : List Sl} (hc : X.calm = true) (h : PGs' X m g es ds g') (hn : (assignEach es X.env).length = ds.length := by rfl) (hst : (assignEach es X.env).findIdx? (·.1) = none := by rfl) : PGd X m g (.Tuple es k pos) (.tuple ds) g' :=
  PG.wk (pg_tup hc h hn hst) fun v σ H Q ⟨o, ⟨d', e, q⟩, k⟩ => by
    cases e
    obtain ⟨p, xs, rfl, h1, h2⟩ := dp_tup q
    exact ⟨p, xs, rfl, sqT_mono (del_same _ _) h1, dps_len h2, o, h2, fun σ2 H2 n2 o2 => k _ σ2 H2 n2 rfl o2⟩
theorem g_lst {k : Nat} {ds : List PyData} {g' : List Sl} (hc : X.calm = true) (h : PGs' X m g es ds g') (hn : (assignEach es X.env).length = ds.length := by rfl) (hst : (assignEach es X.env).findIdx? (·.1) = none := by rfl) : PGd X m g (.Tuple es k pos) (.list ds) g' :=
  PG.wk (pg_lst hc h hn hst) fun v σ H Q ⟨o, ⟨d', e, q⟩, k⟩ => by
    cases e
    obtain ⟨p, xs, rfl, h1, h2⟩ := dp_lst q
    exact ⟨p, xs, rfl, sqL_mono (del_same _ _) h1, dps_len h2, o, h2, fun σ2 H2 n2 o2 => k _ σ2 H2 n2 rfl o2⟩
/-- target = value -/
theorem ss_asg {tg : Expr} {d : PyData} {g' : List Sl} (h : PD X m g e (Is d)) (ht : PGd X m g tg d g') (hr : PQ X m g' rest R N) (hs : swapsWithSole [tg] e pos.line X.env = pure false := by rfl) (hw : swappedStores [tg] e X.env = pure none := by rfl)
    (h1 : (assignEach [tg] X.env).map (·.2) = [assign tg X.env] := by rfl) : PQ X m g (.Assign [tg] e pos :: rest) R N :=
  PSs.wk (pss_cons (ps_asg h ht hs hw h1) hr) fun D σ H ⟨o, k1, k2⟩ => ⟨o, fun v d' H' n s q => by
    cases s
    exact ⟨o.step n, ⟨d, rfl, q⟩, fun g2 σ2 H2 n2 s2 o2 => by cases s2; exact ⟨o2, fun v' d' H3 n3 => k1 v' d' H3 ((n.trans n2).trans n3), fun g'' σ'' H3 n3 => k2 g'' σ'' H3 ((n.trans n2).trans n3)⟩⟩⟩
/-- a, b = x, y -/
theorem ss_par (i j : Nat) {n1 n2 : Str} {px py pt pt2 : Pos} {kt k2 : Nat} {d1 d2 : PyData} (hc : X.calm = true) (hN : X.N.Nodup) (ha : PL X m g [a, b] (Is [d1, d2])) (hr : PQ X m ((g.set i (.d d1)).set j (.d d2)) rest R N) (hi : X.N[i]? = some n1 := by rfl) (hj : X.N[j]? = some n2 := by rfl) (hij : i ≠ j := by decide)
    (hx : X.env.scope.names.lookup n1 = some .local := by rfl) (hy : X.env.scope.names.lookup n2 = some .local := by rfl) (hw : swappedStores [.Tuple [.Name n1 px, .Name n2 py] kt pt] (.Tuple [a, b] k2 pt2) X.env = pure (some [n1, n2]) := by rfl)
    (hs : swapsWithSole [.Tuple [.Name n1 px, .Name n2 py] kt pt] (.Tuple [a, b] k2 pt2) pos.line X.env = pure false := by rfl) : PQ X m g (.Assign [.Tuple [.Name n1 px, .Name n2 py] kt pt] (.Tuple [a, b] k2 pt2) pos :: rest) R N :=
  PSs.wk (pss_cons (ps_par hc hN hi hj hij hx hy ha hw hs) hr) fun D σ H ⟨o, k1, k2⟩ => ⟨o, fun vs ds H' n s q => by
    cases s
    obtain ⟨u, v, rfl, q1, q2⟩ := dps2 q
    exact ⟨u, v, rfl, ((o.step n).set i (slOk_d q1)).set j (slOk_d q2), fun v' d' H2 n2 => k1 v' d' H2 (n.trans n2), fun g' σ' H2 n2 => k2 g' σ' H2 (n.trans n2)⟩⟩
/-- a, b, c = x, y, z -/
theorem ss_par3 (i j l : Nat) {c : Expr} {n1 n2 n3 : Str} {px py pz pt pt2 : Pos} {kt k2 : Nat} {d1 d2 d3 : PyData} (hc : X.calm = true) (hN : X.N.Nodup) (ha : PL X m g [a, b, c] (Is [d1, d2, d3])) (hr : PQ X m (((g.set i (.d d1)).set j (.d d2)).set l (.d d3)) rest R N) (hi : X.N[i]? = some n1 := by rfl) (hj : X.N[j]? = some n2 := by rfl) (hl : X.N[l]? = some n3 := by rfl)
    (hij : i ≠ j := by decide) (hil : i ≠ l := by decide) (hjl : j ≠ l := by decide) (hx : X.env.scope.names.lookup n1 = some .local := by rfl) (hy : X.env.scope.names.lookup n2 = some .local := by rfl) (hz : X.env.scope.names.lookup n3 = some .local := by rfl)
    (hw : swappedStores [.Tuple [.Name n1 px, .Name n2 py, .Name n3 pz] kt pt] (.Tuple [a, b, c] k2 pt2) X.env = pure (some [n1, n2, n3]) := by rfl)
    (hs : swapsWithSole [.Tuple [.Name n1 px, .Name n2 py, .Name n3 pz] kt pt] (.Tuple [a, b, c] k2 pt2) pos.line X.env = pure false := by rfl) : PQ X m g (.Assign [.Tuple [.Name n1 px, .Name n2 py, .Name n3 pz] kt pt] (.Tuple [a, b, c] k2 pt2) pos :: rest) R N :=
  PSs.wk (pss_cons (ps_par3 hc hN hi hj hl hij hil hjl hx hy hz ha hw hs) hr) fun D σ H ⟨o, k1, k2⟩ => ⟨o, fun vs ds H' n s q => by
    cases s
    cases q with
    | cons q0 q =>
      obtain ⟨u, v, rfl, q1, q2⟩ := dps2 q
      exact ⟨_, u, v, rfl, (((o.step n).set i (slOk_d q0)).set j (slOk_d q1)).set l (slOk_d q2), fun v' d' H2 n2 => k1 v' d' H2 (n.trans n2), fun g' σ' H2 n2 => k2 g' σ' H2 (n.trans n2)⟩⟩

/-! ### while: states by ι, P what holds of them -/
theorem ss_while {ι : Type} {c : Expr} {body : List Stmt} (P : ι → Prop) (inv : ι → List Sl) (t : ι → Bool) (nx : ι → ι) (μ : ι → Nat) (i0 : ι) (h0 : Fgt g (inv i0)) (hP0 : P i0) (hc : ∀ i, P i → PB X m (inv i) c (Is (t i))) (hb : ∀ i, P i → t i = true → PQ X m (inv i) body R (Is (inv (nx i))))
    (hn : ∀ i, P i → t i = true → P (nx i) ∧ μ (nx i) < μ i) (hr : ∀ i, P i → t i = false → PQ X m (inv i) rest R N) (hp : PassesOwn (model X.prog X.w) X.A X.env X.xe) : PQ X m g (.While c body [] pos :: rest) R N := by
  have hcx : PT X c (fun σ H Q => ∃ i : ι, P i ∧ tBo X.K m (inv i) (Is (t i)) σ H Q) := PT.ex fun i => PT.imp (hc i)
  have hbx : PSs X body (fun D σ H => ∃ i : ι, (P i ∧ t i = true) ∧ tX X.K m (inv i) R (Is (inv (nx i))) D σ H) := PSs.ex fun i => PSs.imp fun h => hb i h.1 h.2
  have hrx : PSs X rest (fun D σ H => ∃ i : ι, (P i ∧ t i = false) ∧ tX X.K m (inv i) R N D σ H) := PSs.ex fun i => PSs.imp fun h => hr i h.1 h.2
  refine PSs.wk (pss_cons (ps_while hp hcx hbx) hrx) fun D σ H ⟨o, k1, k2⟩ => ?_
  refine ⟨fun k σ' H' => ∃ i, k = μ i ∧ P i ∧ Nxt m H H' ∧ Okk X.K m (inv i) σ' H', ⟨_, i0, rfl, hP0, o.rfl', o.fgt h0⟩, ?_⟩
  rintro k σ' H' ⟨i, rfl, hPi, n, o'⟩
  refine ⟨i, hPi, o', fun b H2 n2 s => ?_⟩
  cases s
  cases ht : t i with
  | true =>
    refine iteT ?_
    obtain ⟨h1, h2⟩ := hn i hPi ht
    refine ⟨fun σ3 H3 => Nxt m H H3 ∧ Okk X.K m (inv (nx i)) σ3 H3, fun σ3 H3 ⟨n3, o3⟩ => ⟨μ (nx i), h2, nx i, rfl, h1, n3, o3⟩, i, ⟨hPi, ht⟩, o'.step n2, fun v d H3 n3 s q => k1 v d H3 ((n.trans n2).trans n3) s q, fun g' σ3 H3 n3 s o3 => ?_⟩
    cases s
    exact ⟨(n.trans n2).trans n3, o3⟩
  | false =>
    refine iteF ?_
    exact ⟨i, ⟨hPi, ht⟩, o'.step n2, fun v d H3 n3 s q => k1 v d H3 ((n.trans n2).trans n3) s q, fun g' σ3 H3 n3 s o3 => k2 g' σ3 H3 ((n.trans n2).trans n3) s o3⟩
end

/-! ### a pure def by its body -/
theorem repS_none {K : PySem.W.Frag} {H : Hp} : ∀ n : Nat, RepS K H (List.replicate n .no) (List.replicate n none)
  | 0 => trivial
  | n + 1 => ⟨trivial, repS_none n⟩
theorem repS_start {K : PySem.W.Frag} {H : Hp} (n : Nat) : ∀ {vs : List V} {ds : List PyData}, DpAll K H vs ds → RepS K H (ds.map Sl.d ++ List.replicate n .no) (vs.map some ++ List.replicate n none)
  | _, _, .nil => repS_none n
  | _, _, .cons h t => ⟨⟨_, rfl, h⟩, repS_start n t⟩
def g0 (N : List Str) (ds : List PyData) : List Sl := ds.map Sl.d ++ List.replicate (N.length - ds.length) .no
/-- all that is hidden stays as it was -/
def mdP (zs : List Addr) (H0 : Hp) : Md := ⟨zs, fun H => ∀ z ∈ zs, ∀ o, H0 z = some o → H z = some o, fun _ _ s w z hz o e => s z o (w z hz o e)⟩
theorem mdP_same {zs : List Addr} {H0 H : Hp} (n : Nxt (mdP zs H0) H0 H) : Same H0 H := fun b o e => by
  by_cases hb : b ∈ zs
  · exact n.w b hb o e
  · exact (del_some (n.kp b o (by rw [show del (mdP zs H0).zs H0 b = H0 b from del_out hb]; exact e))).2
section
variable {P : Program} {w : World} {K : PySem.W.Frag} {mg : Str → Option Value} {base : Heap}
/-- what the top has written of a def: its address and object -/
structure Tx (K : PySem.W.Frag) (mg : Str → Option Value) (i : Nat) (x : Str) (st : Nat → Stmt) : Prop where
  ex : ∃ f fd, FunD K x x (defArgs (st i)) (defBody (st i)) (defScope (st i)) [] [] f fd ∧ mg x = some (.ref f)
theorem okP {x : Str} {i : Nat} {st : Nat → Stmt} {N ps : List Str} {k : Nat} {R : List PyData → PyData → Prop} (F : Tx K mg i x st) (S : FnScope N ps (defScope (st i))) (hb : ∀ (kV doc pm : Value) (an : Option Addr) (cdv ct : Value) (us : List Value), us.length = ps.length → bindArgs (PySem.W.fnOf x x (defArgs (st i)) (defBody (st i)) (defScope (st i)) .none kV doc pm an cdv ct) ⟨us, []⟩ = pure (ps.zip us))
    (hR : ∀ ds d, R ds d → ds.length = ps.length)
    (body : ∀ (f : Addr) (cdv : Value) (A : Around) (outer : List Env) (s : Shared) (H : Hp) (E : XK) (m : Md) (ds : List PyData) (d : PyData), Room k (A.deeper (envOfC x (defScope (st i)) s.heap.objs.size f cdv)) → R ds d →
      PQ (cxOf CX0 P w K mg base N x (defScope (st i)) f cdv A outer s H E).nox m (g0 N ds) (defBody (st i)) (Is d) Nof) : C8.Cal P w K mg base (k + 1) x (spP K R) [] := by
  obtain ⟨f, fd, F1, hm⟩ := F.ex
  refine ⟨f, fd, ps, [], ?_, hm, F1.kp, F1.bindsN hb, .nil⟩
  refine F1.ok S (fun vs H Q E h => ?_) (fun cdv A outer s H vs Q E hr h => ?_)
  · obtain ⟨zs, ds, d, _, h1, h2, _⟩ := h
    rw [dps_len h1, hR ds d h2]
  · obtain ⟨zs, ds, d, al, h1, h2, h3⟩ := h
    have hl := dps_len h1
    refine ⟨_, PSs.nox (body f cdv A outer s H E (mdP zs H) ds d hr h2), ?_⟩
    have o : Okk K (mdP zs H) (g0 N ds) (L2.start N vs) H := ⟨al, fun _ _ _ e => e, by
      show RepS K (del zs H) (ds.map Sl.d ++ List.replicate (N.length - ds.length) .no) (vs.map some ++ List.replicate (N.length - vs.length) none)
      rw [hl]
      exact repS_start _ h1⟩
    exact ⟨o, fun v d' H' n s q => by cases s; exact h3 v H' (mdP_same n) q, fun _ _ _ _ z => z.elim⟩
end
end Cv

set_option Elab.async false
set_option linter.all false
set_option maxRecDepth 100000
set_option maxHeartbeats 2000000
/-! Numbers: rationals, as the program writes them. -/
namespace Cv
open PySem
/-- the data of a number -/
def num (r : Rat) : PyData := if r.den = 1 then .int r.num else .tuple [.int r.num, .int (r.den : Int)]
theorem frac_eq (p q : Int) (hq : 0 < q) : (p : Rat) / (q : Rat) = mkRat p q.toNat := by
  rw [Rat.mkRat_eq_div]
  have : ((q.toNat : Nat) : Rat) = (q : Rat) := by
    have h : ((q.toNat : Nat) : Int) = q := Int.toNat_of_nonneg (by omega)
    rw [← Rat.intCast_natCast, h]
  rw [this]
theorem frac_num (p q : Int) (hq : 0 < q) : ((p : Rat) / (q : Rat)).num = p / (Int.gcd p q : Int) := by
  rw [frac_eq p q hq, Rat.num_mkRat]
  have h : q.toNat ≠ 0 := by omega
  rw [if_neg h]
  have e : q.toNat = q.natAbs := by omega
  rw [e, Nat.gcd_comm]; rfl
theorem frac_den (p q : Int) (hq : 0 < q) : ((((p : Rat) / (q : Rat)).den : Nat) : Int) = q / (Int.gcd p q : Int) := by
  rw [frac_eq p q hq, Rat.den_mkRat]
  have h : q.toNat ≠ 0 := by omega
  rw [if_neg h]
  have e : q.toNat = q.natAbs := by omega
  have e2 : q = (q.natAbs : Int) := by omega
  rw [e]
  conv => rhs; rw [e2]
  have e3 : Int.gcd p (q.natAbs : Int) = Nat.gcd p.natAbs q.natAbs := by
    simp [Int.gcd]
  rw [e3, Nat.gcd_comm]
  simp
theorem num_frac (p q : Int) (hq : 0 < q) : num ((p : Rat) / (q : Rat)) = if q / (Int.gcd p q : Int) = 1 then .int (p / (Int.gcd p q : Int)) else .tuple [.int (p / (Int.gcd p q : Int)), .int (q / (Int.gcd p q : Int))] := by
  unfold num
  rw [frac_num p q hq, frac_den p q hq]
  have h := frac_den p q hq
  by_cases c : ((p : Rat) / (q : Rat)).den = 1
  · rw [if_pos c]
    rw [c] at h
    have h' : q / (Int.gcd p q : Int) = 1 := h.symm
    rw [if_pos h']
  · rw [if_neg c]
    have : ¬ q / (Int.gcd p q : Int) = 1 := fun e => c (by rw [e] at h; exact Int.ofNat.inj h)
    rw [if_neg this]
theorem rat_nd (x : Rat) : (x.num : Rat) / ((x.den : Int) : Rat) = x := by
  have h := Rat.mkRat_self x
  rw [Rat.mkRat_eq_div] at h
  rw [Rat.intCast_natCast]
  exact h
theorem den_ne (x : Rat) : ((x.den : Int) : Rat) ≠ 0 := by
  have := x.den_nz
  intro h
  have h2 : (x.den : Int) = 0 := Rat.intCast_inj.mp (by rw [h]; rfl)
  omega
theorem den_pos (x : Rat) : (0 : Int) < (x.den : Int) := by
  have := x.den_nz
  omega
theorem add_frac (x y : Rat) : ((x.num * (y.den : Int) + y.num * (x.den : Int) : Int) : Rat) / (((x.den : Int) * (y.den : Int) : Int) : Rat) = x + y := by
  have hx := rat_nd x
  have hy := rat_nd y
  have h1 := den_ne x
  have h2 := den_ne y
  rw [Rat.intCast_add, Rat.intCast_mul, Rat.intCast_mul, Rat.intCast_mul]
  generalize ((x.den : Int) : Rat) = a at *
  generalize ((y.den : Int) : Rat) = b at *
  generalize (x.num : Rat) = c at *
  generalize (y.num : Rat) = d at *
  subst hx hy
  grind
theorem mul_frac (x y : Rat) : ((x.num * y.num : Int) : Rat) / (((x.den : Int) * (y.den : Int) : Int) : Rat) = x * y := by
  have hx := rat_nd x
  have hy := rat_nd y
  have h1 := den_ne x
  have h2 := den_ne y
  rw [Rat.intCast_mul, Rat.intCast_mul]
  generalize ((x.den : Int) : Rat) = a at *
  generalize ((y.den : Int) : Rat) = b at *
  generalize (x.num : Rat) = c at *
  generalize (y.num : Rat) = d at *
  subst hx hy
  grind
theorem div_frac (x y : Rat) (h : y ≠ 0) : ((x.num * (y.den : Int) : Int) : Rat) / (((x.den : Int) * y.num : Int) : Rat) = x / y := by
  have hx := rat_nd x
  have hy := rat_nd y
  have h1 := den_ne x
  have h2 := den_ne y
  rw [Rat.intCast_mul, Rat.intCast_mul]
  generalize ((x.den : Int) : Rat) = a at *
  generalize ((y.den : Int) : Rat) = b at *
  generalize (x.num : Rat) = c at *
  generalize (y.num : Rat) = d at *
  subst hx hy
  have h3 : d ≠ 0 := by
    intro e
    rw [e] at h
    apply h
    grind
  grind
theorem neg_nd (x : Rat) : (-x).num = -x.num ∧ (-x).den = x.den := ⟨Rat.neg_num x, Rat.neg_den x⟩
theorem num_neg (x : Rat) : num (-x) = if x.den = 1 then .int (-x.num) else .tuple [.int (-x.num), .int (x.den : Int)] := by
  unfold num
  rw [(neg_nd x).1, (neg_nd x).2]
theorem num_pos {y : Rat} (h : 0 < y) : 0 < y.num := by have := (Rat.lt_iff 0 y).mp h; simpa using this

/-! ### how great they are -/
class Bd (x : Rat) (n : outParam Nat) : Prop where
  up : x.num.natAbs < 2 ^ n
  dn : x.den < 2 ^ n
theorem frac_le (p q : Int) (hq : 0 < q) : ((p : Rat) / (q : Rat)).num.natAbs ≤ p.natAbs ∧ ((p : Rat) / (q : Rat)).den ≤ q.natAbs := by
  have h2 := frac_den p q hq
  constructor
  · rw [frac_num p q hq]
    exact Int.natAbs_ediv_le_natAbs _ _
  · have h3 : q / (Int.gcd p q : Int) ≤ q := Int.ediv_le_self _ (by omega)
    omega
theorem bd_frac {p q : Int} {n : Nat} (hq : 0 < q) (h1 : p.natAbs < 2 ^ n) (h2 : q.natAbs < 2 ^ n) : Bd ((p : Rat) / (q : Rat)) n :=
  ⟨Nat.lt_of_le_of_lt (frac_le p q hq).1 h1, Nat.lt_of_le_of_lt (frac_le p q hq).2 h2⟩
theorem mul_bd {i j : Int} {n m : Nat} (h1 : i.natAbs < 2 ^ n) (h2 : j.natAbs < 2 ^ m) : (i * j).natAbs < 2 ^ (n + m) := by
  rw [Int.natAbs_mul, Nat.pow_add]
  exact Nat.mul_lt_mul'' h1 h2
theorem nd_bd {x : Rat} {n : Nat} (h : x.den < 2 ^ n) : ((x.den : Int)).natAbs < 2 ^ n := by simpa using h
theorem add_bd {i j : Int} {n : Nat} (h1 : i.natAbs < 2 ^ n) (h2 : j.natAbs < 2 ^ n) : (i + j).natAbs < 2 ^ (n + 1) := by
  rw [Nat.pow_succ]
  omega
theorem bd_mono {i : Int} {n m : Nat} (h : i.natAbs < 2 ^ n) (k : n ≤ m) : i.natAbs < 2 ^ m := Nat.lt_of_lt_of_le h (Nat.pow_le_pow_right (by decide) k)
instance bdAdd {x y : Rat} {n m : Nat} [a : Bd x n] [b : Bd y m] : Bd (x + y) (n + m + 1) := by
  rw [← add_frac x y]
  refine bd_frac (Int.mul_pos (den_pos x) (den_pos y)) ?_ (bd_mono (mul_bd (nd_bd a.dn) (nd_bd b.dn)) (by omega))
  refine add_bd (mul_bd a.up (nd_bd b.dn)) ?_
  rw [Nat.add_comm]
  exact mul_bd b.up (nd_bd a.dn)
instance bdMul {x y : Rat} {n m : Nat} [a : Bd x n] [b : Bd y m] : Bd (x * y) (n + m) := by
  rw [← mul_frac x y]
  exact bd_frac (Int.mul_pos (den_pos x) (den_pos y)) (mul_bd a.up b.up) (mul_bd (nd_bd a.dn) (nd_bd b.dn))
instance bdNeg {x : Rat} {n : Nat} [a : Bd x n] : Bd (-x) n := ⟨by rw [(neg_nd x).1, Int.natAbs_neg]; exact a.up, by rw [(neg_nd x).2]; exact a.dn⟩
instance bdSub {x y : Rat} {n m : Nat} [a : Bd x n] [b : Bd y m] : Bd (x - y) (n + m + 1) := by
  rw [Rat.sub_eq_add_neg]
  exact bdAdd
theorem bdInt {i : Int} {n : Nat} (h : i.natAbs < 2 ^ n) (hn : 0 < n) : Bd (i : Rat) n := ⟨h, by rw [Rat.den_intCast]; exact Nat.one_lt_two_pow (by omega)⟩
theorem inv_nd (y : Rat) (h : y ≠ 0) : y⁻¹.num.natAbs ≤ y.den ∧ y⁻¹.den ≤ y.num.natAbs := by
  by_cases hp : 0 < y.num
  · have e : y⁻¹ = ((y.den : Int) : Rat) / (y.num : Rat) := by
      have hy := rat_nd y
      have h2 := den_ne y
      have h3 : (y.num : Rat) ≠ 0 := fun e => by
        have := Rat.intCast_inj.mp (show ((y.num : Int) : Rat) = ((0 : Int) : Rat) by rw [e]; rfl)
        omega
      generalize ((y.den : Int) : Rat) = a at *
      generalize (y.num : Rat) = b at *
      subst hy
      grind
    rw [e]
    have := frac_le (y.den : Int) y.num hp
    constructor <;> omega
  · have h0 : y.num ≠ 0 := fun e => h (Rat.num_eq_zero.mp e)
    have e : y⁻¹ = ((-(y.den : Int) : Int) : Rat) / ((-y.num : Int) : Rat) := by
      have hy := rat_nd y
      have h2 := den_ne y
      have h3 : (y.num : Rat) ≠ 0 := fun e => by
        have := Rat.intCast_inj.mp (show ((y.num : Int) : Rat) = ((0 : Int) : Rat) by rw [e]; rfl)
        omega
      rw [Rat.intCast_neg, Rat.intCast_neg]
      generalize ((y.den : Int) : Rat) = a at *
      generalize (y.num : Rat) = b at *
      subst hy
      grind
    rw [e]
    have := frac_le (-(y.den : Int)) (-y.num) (by omega)
    constructor <;> omega
instance bdInv {y : Rat} {m : Nat} [b : Bd y m] : Bd y⁻¹ m := by
  by_cases h : y = 0
  · subst h
    rw [Rat.inv_zero]
    exact b
  · have := inv_nd y h
    exact ⟨Nat.lt_of_le_of_lt this.1 b.dn, Nat.lt_of_le_of_lt this.2 b.up⟩
instance bdDiv {x y : Rat} {n m : Nat} [a : Bd x n] [b : Bd y m] : Bd (x / y) (n + m) := by
  rw [Rat.div_def]
  exact bdMul
end Cv
namespace Cv
open PySem
/-! ### data that are numbers -/
class IsNum (d : PyData) (x : outParam Rat) : Prop where
  eq : d = num x
instance isNumN {x : Rat} : IsNum (num x) x := ⟨rfl⟩
theorem num_int (i : Int) : num (i : Rat) = .int i := by
  unfold num
  rw [Rat.den_intCast, if_pos rfl, Rat.num_intCast]
instance (priority := 100) isNumI {i : Int} : IsNum (.int i) (i : Rat) := ⟨(num_int i).symm⟩
instance isNum0 : IsNum (.int 0) 0 := ⟨(num_int 0).symm⟩
instance isNum1 : IsNum (.int 1) 1 := ⟨(num_int 1).symm⟩
instance isNum2 : IsNum (.int 2) 2 := ⟨(num_int 2).symm⟩
instance isNum3 : IsNum (.int 3) 3 := ⟨(num_int 3).symm⟩
instance isNumM1 : IsNum (.int (-1)) (-1) := ⟨(num_int (-1)).symm⟩
theorem num_pair {p q : Int} (h : 2 ≤ q) (hg : Int.gcd p q = 1) : num ((p : Rat) / (q : Rat)) = .tuple [.int p, .int q] := by
  rw [num_frac p q (by omega), hg]
  have e : q / ((1 : Nat) : Int) = q := Int.ediv_one q
  have e2 : p / ((1 : Nat) : Int) = p := Int.ediv_one p
  rw [e, e2, if_neg (by omega)]
instance isHalf : IsNum (.tuple [.int 1, .int 2]) (1/2) := ⟨(num_pair (by decide) (by decide)).symm⟩
instance isHalfM : IsNum (.tuple [.int (-1), .int 2]) (-1/2) := ⟨(num_pair (by decide) (by decide)).symm⟩
instance is32 : IsNum (.tuple [.int 3, .int 2]) (3/2) := ⟨(num_pair (by decide) (by decide)).symm⟩
instance is52 : IsNum (.tuple [.int 5, .int 2]) (5/2) := ⟨(num_pair (by decide) (by decide)).symm⟩
instance is178 : IsNum (.tuple [.int 17, .int 8]) (17/8) := ⟨(num_pair (by decide) (by decide)).symm⟩
instance is158 : IsNum (.tuple [.int 15, .int 8]) (15/8) := ⟨(num_pair (by decide) (by decide)).symm⟩
instance is2516 : IsNum (.tuple [.int 25, .int 16]) (25/16) := ⟨(num_pair (by decide) (by decide)).symm⟩
instance is28964 : IsNum (.tuple [.int 289, .int 64]) (289/64) := ⟨(num_pair (by decide) (by decide)).symm⟩
instance is14 : IsNum (.tuple [.int 1, .int 4]) (1/4) := ⟨(num_pair (by decide) (by decide)).symm⟩
instance is54 : IsNum (.tuple [.int 5, .int 4]) (5/4) := ⟨(num_pair (by decide) (by decide)).symm⟩
instance is19 : IsNum (.tuple [.int 1, .int 9]) (1/9) := ⟨(num_pair (by decide) (by decide)).symm⟩
instance is17 : IsNum (.tuple [.int (-1), .int 7]) (-1/7) := ⟨(num_pair (by decide) (by decide)).symm⟩
instance is13 : IsNum (.tuple [.int (-1), .int 3]) (-1/3) := ⟨(num_pair (by decide) (by decide)).symm⟩
instance is1b : IsNum (.tuple [.int (-1), .int 1000000000]) (-1/1000000000) := ⟨(num_pair (by decide) (by decide)).symm⟩
instance bd0 : Bd 0 1 := ⟨by decide, by decide⟩
instance bd1 : Bd 1 1 := ⟨by decide, by decide⟩
instance bd2 : Bd 2 2 := ⟨by decide, by decide⟩
instance bd3 : Bd 3 2 := ⟨by decide, by decide⟩
instance bd4 : Bd 4 3 := ⟨by decide, by decide⟩
instance bd5 : Bd 5 3 := ⟨by decide, by decide⟩
instance bd7 : Bd 7 3 := ⟨by decide, by decide⟩
instance bd8 : Bd 8 4 := ⟨by decide, by decide⟩
instance bd9 : Bd 9 4 := ⟨by decide, by decide⟩
instance bd15 : Bd 15 4 := ⟨by decide, by decide⟩
instance bd16 : Bd 16 5 := ⟨by decide, by decide⟩
instance bd17 : Bd 17 5 := ⟨by decide, by decide⟩
instance bd25 : Bd 25 5 := ⟨by decide, by decide⟩
instance bd64 : Bd 64 7 := ⟨by decide, by decide⟩
instance bd289 : Bd 289 9 := ⟨by decide, by decide⟩
instance bd1b : Bd 1000000000 30 := ⟨by decide, by decide⟩
theorem num_eqv (x y : Rat) : PyData.eqv (num x) (num y) = decide (x = y) := by
  have key : x = y ↔ x.num = y.num ∧ x.den = y.den := ⟨fun e => by rw [e]; exact ⟨rfl, rfl⟩, fun ⟨a, b⟩ => Rat.ext a b⟩
  unfold num
  by_cases h1 : x.den = 1 <;> by_cases h2 : y.den = 1
  · rw [if_pos h1, if_pos h2]
    simp only [PyData.eqv]
    rw [Bool.beq_eq_decide_eq]
    exact decide_eq_decide.mpr ⟨fun e => key.mpr ⟨e, h1.trans h2.symm⟩, fun e => (key.mp e).1⟩
  · rw [if_pos h1, if_neg h2]
    simp only [PyData.eqv]
    exact (decide_eq_false fun e => h2 (by rw [← (key.mp e).2]; exact h1)).symm
  · rw [if_neg h1, if_pos h2]
    simp only [PyData.eqv]
    exact (decide_eq_false fun e => h1 (by rw [(key.mp e).2]; exact h2)).symm
  · rw [if_neg h1, if_neg h2]
    simp only [PyData.eqv, PyData.eqvAll, Bool.and_true]
    rw [Bool.beq_eq_decide_eq, Bool.beq_eq_decide_eq, ← Bool.decide_and]
    exact decide_eq_decide.mpr ⟨fun e => key.mpr ⟨e.1, by omega⟩, fun e => ⟨(key.mp e).1, by rw [(key.mp e).2]⟩⟩
theorem num_lay (x : Rat) : (num x).canLay0 = true := by
  unfold num
  split <;> simp [PyData.canLay0, PyData.canLayAll0]
theorem num_depth (x : Rat) : (num x).depth ≤ 1 := by
  unfold num
  split <;> simp [PyData.depth, PyData.depthAll]
theorem num_shaped (x : Rat) : SeqAt.shaped (num x) = true := by
  have h := num_depth x
  show ((num x).canLay0 && decide ((num x).depth ≤ 64)) = true
  rw [Bool.and_eq_true]
  exact ⟨num_lay x, decide_eq_true (by omega)⟩
end Cv

set_option Elab.async false
set_option linter.all false
set_option maxRecDepth 100000
set_option maxHeartbeats 2000000
/-! Comprehensions and loops over data. -/
namespace Cv
open PySem PySem.Spec PyProof.Rows L2

/-! ### the slots of a block -/
def wipeG (g : List Sl) : List Nat → List Sl
  | [] => g
  | v :: vs => (wipeG g vs).set v .no
theorem repS_wipe {K : PySem.W.Frag} {H : Hp} {g : List Sl} {σ : L2.St} (h : RepS K H g σ) : ∀ vs : List Nat, RepS K H (wipeG g vs) (wipe σ vs)
  | [] => h
  | v :: vs => repS_set (x := .no) (o := none) trivial v (repS_wipe h vs)
theorem wipe_set {σ : L2.St} {i : Nat} {o : Option V} : ∀ {vs : List Nat}, i ∈ vs → wipe (σ.set i o) vs = wipe σ vs
  | [], h => by cases h
  | v :: vs, h => by
    show (wipe (σ.set i o) vs).set v none = (wipe σ vs).set v none
    by_cases hv : i ∈ vs
    · rw [wipe_set hv]
    · have e : i = v := (List.mem_cons.mp h).elim id fun z => absurd z hv
      subst e
      refine List.ext_getElem? fun j => ?_
      by_cases hj : i = j
      · subst hj
        by_cases hl : i < σ.length
        · rw [List.getElem?_set_self (by rw [wipe_length, List.length_set]; exact hl), List.getElem?_set_self (by rw [wipe_length]; exact hl)]
        · rw [List.getElem?_eq_none (by rw [List.length_set, wipe_length, List.length_set]; omega), List.getElem?_eq_none (by rw [List.length_set, wipe_length]; omega)]
      · rw [List.getElem?_set_ne hj, List.getElem?_set_ne hj]
        have key : ∀ ws : List Nat, (wipe (σ.set i o) ws)[j]? = (wipe σ ws)[j]? := by
          intro ws
          induction ws with
          | nil => exact List.getElem?_set_ne hj
          | cons w ws ih =>
            show ((wipe (σ.set i o) ws).set w none)[j]? = ((wipe σ ws).set w none)[j]?
            rw [List.getElem?_set, List.getElem?_set, ih, wipe_length, wipe_length, List.length_set]
        exact key vs
theorem wipe_wipe {σ : L2.St} : ∀ (ws vs : List Nat), (∀ i ∈ ws, i ∈ vs) → wipe (wipe σ ws) vs = wipe σ vs
  | [], _, _ => rfl
  | w :: ws, vs, h => by
    show wipe ((wipe σ ws).set w none) vs = wipe σ vs
    rw [wipe_set (h w List.mem_cons_self), wipe_wipe ws vs fun i hi => h i (List.mem_cons_of_mem _ hi)]
/-- names of a target, by slots -/
def setV : L2.St → List Nat → List V → L2.St
  | σ, i :: is, v :: vs => setV (σ.set i (some v)) is vs
  | σ, _, _ => σ
def setD : List Sl → List Nat → List PyData → List Sl
  | g, i :: is, d :: ds => setD (g.set i (.d d)) is ds
  | g, _, _ => g
theorem repS_setV {K : PySem.W.Frag} {H : Hp} : ∀ {ix : List Nat} {vs : List V} {ds : List PyData} {g : List Sl} {σ : L2.St}, DpAll K H vs ds → RepS K H g σ → RepS K H (setD g ix ds) (setV σ ix vs)
  | [], _, _, _, _, h, r => by cases h <;> exact r
  | _ :: _, _, _, _, _, .nil, r => r
  | i :: is, _, _, _, _, .cons h t, r => repS_setV (ix := is) t (repS_set (slOk_d h) i r)
theorem wipe_setV : ∀ {ix : List Nat} {vs : List V} {σ : L2.St} {own : List Nat}, (∀ i ∈ ix, i ∈ own) → wipe (setV σ ix vs) own = wipe σ own
  | [], _, _, _, _ => by unfold setV; rfl
  | _ :: _, [], _, _, _ => rfl
  | i :: is, v :: vs, σ, own, h => by
    show wipe (setV (σ.set i (some v)) is vs) own = wipe σ own
    rw [wipe_setV (ix := is) fun j hj => h j (List.mem_cons_of_mem _ hj), wipe_set (h i List.mem_cons_self)]
def gNames : List Nat → TGs
  | [] => gNil
  | i :: r => gCons (gName i) (gNames r)
theorem gNames_run : ∀ {ix : List Nat} {vs : List V} {σ : L2.St} {H : Hp} {Q : L2.St → Hp → Prop}, vs.length = ix.length → Q (setV σ ix vs) H → gNames ix vs σ H Q
  | [], [], _, _, _, _, q => ⟨rfl, q⟩
  | [], _ :: _, _, _, _, h, _ => by cases h
  | _ :: _, [], _, _, _, h, _ => by cases h
  | i :: is, v :: vs, _, _, _, h, q => ⟨v, vs, rfl, gNames_run (ix := is) (Nat.succ.inj h) q⟩

/-! ### a list that grows, hidden -/
theorem same_del {zs : List Addr} {H H' : Hp} (s : Same H H') : Same (del zs H) (del zs H') := Kp.of_same s
theorem del1_new {H : Hp} {D : Addr} {o : HO} (h : H D = none) : del [D] (upd H D o) = H := by
  rw [del_new h]
  funext b
  exact del_out (fun z => by cases z)
def Md.lst (m : Md) (D : Addr) (acc : List V) : Md := ⟨D :: m.zs, fun H => m.W (del [D] H) ∧ H D = some (.lst acc), fun H H' s h => ⟨m.mono _ _ (same_del s) h.1, s D _ h.2⟩⟩
theorem kp_new {zs : List Addr} {H H' : Hp} {D : Addr} {o : HO} (hD : H D = none) (al : Alc zs H) (k : Kp (D :: zs) (upd H D o) H') : Kp zs H H' := fun b u e => by
  obtain ⟨h1, h2⟩ := del_some e
  have nb : b ≠ D := ne_of_none h2 hD
  have e2 : del (D :: zs) (upd H D o) b = some u := by rw [del_new hD]; exact e
  have e3 := k b u e2
  obtain ⟨_, h4⟩ := del_some e3
  rw [del_out h1]
  exact h4
/-- the target's way to store one item: a name, or a tuple of names -/
inductive TgK where
  | one (i : Nat) | tup (ix : List Nat)
def TgK.g (K : PySem.W.Frag) : TgK → TG
  | .one i => gName i
  | .tup ix => gTup K ix.length (gNames ix)
def TgK.set (t : TgK) (g : List Sl) (d : PyData) : List Sl := match t with
  | .one i => g.set i (.d d)
  | .tup ix => match d with
    | .tuple ds => setD g ix ds
    | _ => g
def TgK.ok (t : TgK) (d : PyData) : Prop := match t with
  | .one _ => True
  | .tup ix => ∃ ds, d = .tuple ds ∧ ds.length = ix.length
def TgK.own (t : TgK) (o : List Nat) : Prop := match t with
  | .one i => i ∈ o
  | .tup ix => ∀ i ∈ ix, i ∈ o
theorem tgk_run {K : PySem.W.Frag} {t : TgK} {zs : List Addr} {H : Hp} {v : V} {d : PyData} {σ : L2.St} {ow : List Nat} {Q : L2.St → Hp → Prop} (ho : t.own ow) (hk : t.ok d) (q : Dp K (del zs H) v d)
    (h : ∀ σ2, wipe σ2 ow = wipe σ ow → (∀ g, RepS K (del zs H) g σ → RepS K (del zs H) (t.set g d) σ2) → Q σ2 H) : t.g K v σ H Q := by
  cases t with
  | one i => exact h (σ.set i (some v)) (wipe_set ho) fun g r => repS_set (slOk_d q) i r
  | tup ix =>
    obtain ⟨ds, rfl, hl⟩ := hk
    obtain ⟨p, xs, rfl, h1, h2⟩ := dp_tup q
    refine ⟨p, xs, rfl, sqT_mono (del_same _ _) h1, by rw [dps_len h2, hl], gNames_run (by rw [dps_len h2, hl]) ?_⟩
    exact h _ (wipe_setV ho) fun g r => repS_setV h2 r
section
variable {X : Cx} {m : Md} {g : List Sl} {S : PyData → Prop} {pos pos' : Pos} {tg iter elt : Expr} {scope : Scope} {own : List (Str × Nat)} {ix : List Nat}
/-- between two turns -/
def LcP (K : PySem.W.Frag) (m : Md) (D : Addr) (H1 : Hp) (ds : List PyData) (Sy : Nat → PyData → Bool → PyData → Prop) : Nat → Hp → Prop := fun i H => ∃ acc rs, Nxt (m.lst D acc) (upd H1 D (.lst acc)) H ∧ DpAll K (del (D :: m.zs) H) acc rs ∧ rs.length ≤ i ∧ ∃ ks : List (Bool × PyData), ks.length = i ∧ rs = ks.filterMap (fun k => if k.1 then some k.2 else none) ∧ ∀ (j : Nat) (x : PyData) (k : Bool × PyData), ds[j]? = some x → ks[j]? = some k → Sy j x k.1 k.2
/-- the turns of a comprehension over data, from its source's address -/
theorem lc_turns {K : PySem.W.Frag} {t : TgK} {ds : List PyData} {Sy : Nat → PyData → Bool → PyData → Prop} {tt : TT} {te : TE} {σ : L2.St} {H1 : Hp} {D : Addr} {ow : List Nat} (o : Okk K m g σ H1) (hD : H1 D = none) (ho : t.own ow) (hk : ∀ d ∈ ds, t.ok d) (hl : ds.length ≤ 1000)
    (ht : ∀ (i : Nat) (x : PyData) (acc : List V) (σ2 : L2.St) (H : Hp) (Q : Bool → Hp → Prop), ds[i]? = some x → Okk K (m.lst D acc) (t.set (wipeG g ow) x) σ2 H → (∀ b H', Nxt (m.lst D acc) H H' → (∃ y, Sy i x b y) → Q b H') → tt σ2 H Q)
    (he : ∀ (i : Nat) (x : PyData) (acc : List V) (σ2 : L2.St) (H : Hp) (Q : VK), ds[i]? = some x → (∃ y, Sy i x true y) → Okk K (m.lst D acc) (t.set (wipeG g ow) x) σ2 H → (∀ v y H', Nxt (m.lst D acc) H H' → Sy i x true y → Dp K (del (D :: m.zs) H') v y → Q v H') → te σ2 H Q) :
    LcP K m D H1 ds Sy 0 (upd H1 D (.lst [])) ∧ ∀ (i : Nat) (x : PyData) (v : V) (H : Hp), ds[i]? = some x → LcP K m D H1 ds Sy i H → Dp K (del (D :: m.zs) H) v x → t.g K v (wipe σ ow) H fun σ2 H2 => wipe σ2 ow = wipe σ ow ∧ tt σ2 H2 fun b H3 =>
      if b = true then te σ2 H3 fun y H4 => ∃ acc, H4 D = some (.lst acc) ∧ acc.length < sizeLine ∧ LcP K m D H1 ds Sy (i + 1) (upd H4 D (.lst (acc ++ [y]))) else LcP K m D H1 ds Sy (i + 1) H3 := by
  have dn : ∀ o : HO, del (D :: m.zs) (upd H1 D o) = del m.zs H1 := fun o => del_new hD
  have al0 : ∀ o : HO, Alc (D :: m.zs) (upd H1 D o) := fun u z hz => by
    rcases List.mem_cons.mp hz with e | hz
    · exact ⟨u, by rw [e, upd_same]⟩
    · obtain ⟨w, e⟩ := o.al z hz
      exact ⟨w, by rw [upd_ne (ne_of_none e hD)]; exact e⟩
  have w0 : ∀ o : HO, m.W (del [D] (upd H1 D o)) := fun u => by
    rw [del1_new hD]
    exact o.w
  refine ⟨⟨[], [], ⟨Same.refl _, al0 _, w0 _, upd_same⟩, .nil, Nat.le_refl _, [], rfl, rfl, fun j x k _ h => by simp at h⟩, ?_⟩
  rintro i x v H hx ⟨acc, rs, n, qa, hrl, ks, hkl, hrs, hks⟩ q
  have hxl : i < ds.length := (List.getElem?_eq_some_iff.mp hx).1
  refine tgk_run ho (hk x (List.mem_of_getElem? hx)) q fun σ2 hw hr => ⟨hw.trans (wipe_wipe ow ow fun _ z => z), ?_⟩
  have r0 : RepS K (del (D :: m.zs) H) (wipeG g ow) (wipe σ ow) := by
    refine repS_mono n.kp ?_
    show RepS K (del (D :: m.zs) (upd H1 D (.lst acc))) _ _
    rw [dn]
    exact repS_wipe o.rp ow
  have o2 : Okk K (m.lst D acc) (t.set (wipeG g ow) x) σ2 H := ⟨n.al, n.w, hr _ r0⟩
  -- a longer list: the frame's facts of the new state
  refine ht i x acc σ2 H _ hx o2 fun b H3 n3 hb => ?_
  have add : ∀ (b : Bool) (y : PyData), Sy i x b y → ∀ (j : Nat) (x' : PyData) (k : Bool × PyData), ds[j]? = some x' → (ks ++ [(b, y)])[j]? = some k → Sy j x' k.1 k.2 := fun b y hs j x' k h1 h2 => by
    by_cases hj : j < ks.length
    · rw [List.getElem?_append_left hj] at h2
      exact hks j x' k h1 h2
    · rw [List.getElem?_append_right (by omega)] at h2
      have e : j - ks.length = 0 := by
        cases hz : j - ks.length with
        | zero => rfl
        | succ z => rw [hz] at h2; simp at h2
      rw [e] at h2
      have e3 : j = i := by omega
      cases h2
      subst e3
      rw [hx] at h1
      cases h1
      exact hs
  cases b with
  | false =>
    refine iteF ?_
    obtain ⟨y, hy⟩ := hb
    refine ⟨acc, rs, n.trans n3, n3.dps qa, by omega, ks ++ [(false, y)], by rw [List.length_append, hkl]; rfl, ?_, add _ _ hy⟩
    rw [List.filterMap_append, ← hrs]
    simp
  | true =>
    refine iteT ?_
    refine he i x acc σ2 H3 _ hx hb (o2.step n3) fun yv y H4 n4 hy qy => ⟨acc, n4.w.2, ?_, acc ++ [yv], rs ++ [y], ?_, ?_, ?_, ks ++ [(true, y)], ?_, ?_, add _ _ hy⟩
    · rw [dps_len qa]
      have h4 : (1000 : Nat) < sizeLine := by decide
      omega
    · have nn := (n.trans n3).trans n4
      refine ⟨?_, fun z hz => ?_, ?_, upd_same⟩
      · show Same (del (D :: m.zs) _) (del (D :: m.zs) _)
        rw [del_upd List.mem_cons_self, del_upd List.mem_cons_self]
        have k : Same (del (D :: m.zs) (upd H1 D (.lst acc))) (del (D :: m.zs) H4) := nn.kp
        rw [del_upd List.mem_cons_self] at k
        exact k
      · by_cases e : z = D
        · exact ⟨_, by rw [e, upd_same]⟩
        · rw [upd_ne e]
          exact nn.al z hz
      · show m.W (del [D] (upd H4 D _))
        rw [del_upd List.mem_cons_self]
        exact nn.w.1
    · rw [del_upd List.mem_cons_self]
      exact dps_app (n4.dps (n3.dps qa)) (.cons qy .nil)
    · rw [List.length_append]
      show rs.length + 1 ≤ i + 1
      omega
    · rw [List.length_append, hkl]
      rfl
    · rw [List.filterMap_append, ← hrs]
      simp
/-- behind the last turn -/
theorem lc_fin {K : PySem.W.Frag} {H1 H : Hp} {D : Addr} {acc : List V} {rs : List PyData} {σ : L2.St} (o : Okk K m g σ H1) (hD : H1 D = none) (n : Nxt (m.lst D acc) (upd H1 D (.lst acc)) H) (qa : DpAll K (del (D :: m.zs) H) acc rs) : Nxt m H1 H ∧ Dp K (del m.zs H) (.ref D) (.list rs) := by
  refine ⟨⟨kp_new hD o.al n.kp, fun z hz => n.al z (List.mem_cons_of_mem _ hz), m.mono _ _ (del_same _ _) n.w.1⟩, .lst (SqL.of ?_) (dps_mono (del_cons_same _ _ _) _ _ qa)⟩
  rw [del_out (o.al.ne hD)]
  exact n.w.2
theorem lc_src {K : PySem.W.Frag} {H1 H : Hp} {D : Addr} {acc : List V} {v : V} {d : PyData} (hD : H1 D = none) (q : Dp K (del m.zs H1) v d) (n : Nxt (m.lst D acc) (upd H1 D (.lst acc)) H) : Dp K (del (D :: m.zs) H) v d := by
  refine dp_mono n.kp _ _ ?_
  show Dp K (del (D :: m.zs) (upd H1 D (.lst acc))) v d
  rw [del_new hD]
  exact q
/-- [elt for target in data if ..]: Sy tells at each turn of the item, the test's answer, the element -/
def LcS (ds : List PyData) (Sy : Nat → PyData → Bool → PyData → Prop) : PyData → Prop := fun d => ∃ ks : List (Bool × PyData), d = .list (ks.filterMap fun k => if k.1 then some k.2 else none) ∧ ks.length = ds.length ∧ ∀ (j : Nat) (x : PyData) (k : Bool × PyData), ds[j]? = some x → ks[j]? = some k → Sy j x k.1 k.2
/-- a list comprehension: as an expression, and as what a local name is set to -/
structure PLc (X : Cx) (m : Md) (g : List Sl) (elt tg iter : Expr) (ifs : List Expr) (scope : Scope) (pos : Pos) (S : PyData → Prop) : Prop where
  pd : PD X m g (.ListComp elt [⟨tg, iter, ifs, 0⟩] scope pos) S
  st : ∀ (i : Nat) (y : Str) (py spos : Pos), X.N[i]? = some y → X.env.scope.names.lookup y = some .local → swapsWith (.ListComp elt [⟨tg, iter, ifs, 0⟩] scope pos) (some (.Name y py)) spos.line X.env = pure true → PS X (.Assign [.Name y py] (.ListComp elt [⟨tg, iter, ifs, 0⟩] scope pos) spos) (tAsg (tI X.K m g S) (gName i))
theorem PLc.le {X : Cx} {m : Md} {g : List Sl} {elt tg iter : Expr} {ifs : List Expr} {scope : Scope} {pos : Pos} {Sa S : PyData → Prop} (h : PLc X m g elt tg iter ifs scope pos Sa) (w : ∀ d, Sa d → S d) : PLc X m g elt tg iter ifs scope pos S :=
  ⟨pd_le h.pd w, fun i y py spos h1 h2 h3 => PS.wk (h.st i y py spos h1 h2 h3) fun D σ H ⟨o, k⟩ => ⟨o, fun v d H' n s q => k v d H' n (w d s) q⟩⟩
/-- x = [..] -/
theorem ss_setLc {X : Cx} {m : Md} {g : List Sl} {elt tg iter : Expr} {ifs : List Expr} {scope : Scope} {pos spos py : Pos} {d : PyData} {rest : List Stmt} {R : PyData → Prop} {N : List Sl → Prop} {y : Str} (i : Nat) (h : PLc X m g elt tg iter ifs scope pos (Is d)) (hr : PQ X m (g.set i (.d d)) rest R N)
    (hi : X.N[i]? = some y := by rfl) (hl : X.env.scope.names.lookup y = some .local := by rfl) (hs : swapsWith (.ListComp elt [⟨tg, iter, ifs, 0⟩] scope pos) (some (.Name y py)) spos.line X.env = pure true := by rfl) : PQ X m g (.Assign [.Name y py] (.ListComp elt [⟨tg, iter, ifs, 0⟩] scope pos) spos :: rest) R N :=
  PSs.wk (pss_cons (h.st i y py spos hi hl hs) hr) fun D σ H ⟨o, k1, k2⟩ => ⟨o, fun v d' H' n s q => by
    cases s
    exact ⟨(o.step n).set i (slOk_d q), fun v' d' H2 n2 => k1 v' d' H2 (n.trans n2), fun g' σ' H2 n2 => k2 g' σ' H2 (n.trans n2)⟩⟩
theorem plc_G {ds : List PyData} {Sy : Nat → PyData → Bool → PyData → Prop} {wi : TI} {ifs : List Expr} (t : TgK) (hc : X.calm = true) (hN : X.N.Nodup) (hi : PI X tg iter wi) (ok : BlkOk X.N X.env.scope scope own) (hto : t.own (own.map (·.2))) (hk : ∀ d ∈ ds, t.ok d) (hl : ds.length ≤ 1000)
    (hg : ∀ (s : Shared) (H : Hp) (C : Addr) (cl : List (Str × Addr)) (fp : List Addr), PG (X.blk s H scope (compEnvC scope cl C X.env) fp) tg (t.g X.K))
    (ht : ∀ (s : Shared) (H : Hp) (C : Addr) (cl : List (Str × Addr)) (fp : List Addr) (i : Nat) (x : PyData) (D : Addr) (acc : List V), ds[i]? = some x → PTs (X.blk s H scope (compEnvC scope cl C X.env) fp) ifs (tBo X.K (m.lst D acc) (t.set (wipeG g (own.map (·.2))) x) fun b => ∃ y, Sy i x b y))
    (he : ∀ (s : Shared) (H : Hp) (C : Addr) (cl : List (Str × Addr)) (fp : List Addr) (i : Nat) (x : PyData) (D : Addr) (acc : List V), ds[i]? = some x → (∃ y, Sy i x true y) → PD (X.blk s H scope (compEnvC scope cl C X.env) fp) (m.lst D acc) (t.set (wipeG g (own.map (·.2))) x) elt fun y => Sy i x true y)
    (hw : ∀ (σ : L2.St) (H : Hp) (Q : VK) (tt : TT) (te : TE), Okk X.K m g σ H → (∀ (v : V) (d : PyData) (H' : Hp), Nxt m H H' → LcS ds Sy d → Dp X.K (del m.zs H') v d → Q v H') →
      (∀ (i : Nat) (x : PyData) (acc : List V) (D : Addr) (σ2 : L2.St) (H : Hp) (Q : Bool → Hp → Prop), ds[i]? = some x → Okk X.K (m.lst D acc) (t.set (wipeG g (own.map (·.2))) x) σ2 H → (∀ b H', Nxt (m.lst D acc) H H' → (∃ y, Sy i x b y) → Q b H') → tt σ2 H Q) →
      (∀ (i : Nat) (x : PyData) (acc : List V) (D : Addr) (σ2 : L2.St) (H : Hp) (Q : VK), ds[i]? = some x → (∃ y, Sy i x true y) → Okk X.K (m.lst D acc) (t.set (wipeG g (own.map (·.2))) x) σ2 H → (∀ v y H', Nxt (m.lst D acc) H H' → Sy i x true y → Dp X.K (del (D :: m.zs) H') v y → Q v H') → te σ2 H Q) →
      tLc wi (t.g X.K) tt te (own.map (·.2)) σ H Q)
    (hs : ∀ x, foldedSetIterable iter X.env x = pure x := by intro _; rfl) : PLc X m g elt tg iter ifs scope pos (LcS ds Sy) := by
  have hT : ∀ (s : Shared) (H : Hp) (C : Addr) (cl : List (Str × Addr)) (fp : List Addr), PTs (X.blk s H scope (compEnvC scope cl C X.env) fp) ifs (fun σ H Q => ∃ (i : Nat) (x : PyData) (D : Addr) (acc : List V), ds[i]? = some x ∧ tBo X.K (m.lst D acc) (t.set (wipeG g (own.map (·.2))) x) (fun b => ∃ y, Sy i x b y) σ H Q) :=
    fun s H C cl fp => ⟨fun pins s1 σ H1 Q I ⟨i, x, D, acc, hx, q⟩ => (ht s H C cl fp i x D acc hx).run pins s1 σ H1 Q I q⟩
  have hE : ∀ (s : Shared) (H : Hp) (C : Addr) (cl : List (Str × Addr)) (fp : List Addr), PE (X.blk s H scope (compEnvC scope cl C X.env) fp) elt (fun σ H Q => ∃ (i : Nat) (x : PyData) (D : Addr) (acc : List V), (ds[i]? = some x ∧ ∃ y, Sy i x true y) ∧ tI X.K (m.lst D acc) (t.set (wipeG g (own.map (·.2))) x) (fun y => Sy i x true y) σ H Q) :=
    fun s H C cl fp => ⟨fun pins s1 σ H1 Q I ⟨i, x, D, acc, hx, q⟩ => (he s H C cl fp i x D acc hx.1 hx.2).run pins s1 σ H1 Q I q⟩
  exact ⟨PE.wk (pe_lc hc hN hi ok hg hT hE hs) fun σ H Q ⟨o, k⟩ => hw σ H Q _ _ o k (fun i x acc D σ2 H Q hx o2 k2 => ⟨i, x, D, acc, hx, o2, k2⟩) (fun i x acc D σ2 H Q hx hy o2 k2 => ⟨i, x, D, acc, ⟨hx, hy⟩, o2, k2⟩), fun i y py spos h1 h2 h3 => PS.wk (ps_setLc hc hN h1 h2 h3 hi ok hg hT hE hs) fun D σ H ⟨o, k⟩ => hw σ H _ _ _ o k (fun i x acc D σ2 H Q hx o2 k2 => ⟨i, x, D, acc, hx, o2, k2⟩) (fun i x acc D σ2 H Q hx hy o2 k2 => ⟨i, x, D, acc, ⟨hx, hy⟩, o2, k2⟩)⟩
/-- over a list, over a tuple -/
theorem lcw_list {ds : List PyData} {Sy : Nat → PyData → Bool → PyData → Prop} {t : TgK} {ow : List Nat} (hto : t.own ow) (hk : ∀ d ∈ ds, t.ok d) (hl : ds.length ≤ 1000) (σ : L2.St) (H : Hp) (Q : VK) (tt : TT) (te : TE) (o : Okk X.K m g σ H) (k : ∀ (v : V) (d : PyData) (H' : Hp), Nxt m H H' → LcS ds Sy d → Dp X.K (del m.zs H') v d → Q v H')
    (ht : ∀ (i : Nat) (x : PyData) (acc : List V) (D : Addr) (σ2 : L2.St) (H : Hp) (Q : Bool → Hp → Prop), ds[i]? = some x → Okk X.K (m.lst D acc) (t.set (wipeG g ow) x) σ2 H → (∀ b H', Nxt (m.lst D acc) H H' → (∃ y, Sy i x b y) → Q b H') → tt σ2 H Q)
    (he : ∀ (i : Nat) (x : PyData) (acc : List V) (D : Addr) (σ2 : L2.St) (H : Hp) (Q : VK), ds[i]? = some x → (∃ y, Sy i x true y) → Okk X.K (m.lst D acc) (t.set (wipeG g ow) x) σ2 H → (∀ v y H', Nxt (m.lst D acc) H H' → Sy i x true y → Dp X.K (del (D :: m.zs) H') v y → Q v H') → te σ2 H Q) :
    tLc (iList X.K (tI X.K m g (Is (.list ds)))) (t.g X.K) tt te ow σ H Q := by
  refine ⟨o, fun v d H1 n1 s1 q1 => ?_⟩
  cases s1
  obtain ⟨a, xs, rfl, h1, h2⟩ := dp_lst q1
  refine ⟨a, rfl, ⟨xs, sqL_mono (del_same _ _) h1⟩, fun D hD => ?_⟩
  obtain ⟨p0, ps⟩ := lc_turns (tt := tt) (te := te) (o.step n1) hD hto hk hl (fun i x acc σ2 H Q => ht i x acc D σ2 H Q) (fun i x acc σ2 H Q => he i x acc D σ2 H Q)
  have src : ∀ (H : Hp) (acc : List V), Nxt (m.lst D acc) (upd H1 D (.lst acc)) H → SqL X.K (del (D :: m.zs) H) a xs ∧ DpAll X.K (del (D :: m.zs) H) xs ds := fun H acc n => by
    have e : del (D :: m.zs) (upd H1 D (.lst acc)) = del m.zs H1 := del_new hD
    have kp : Same (del (D :: m.zs) (upd H1 D (.lst acc))) (del (D :: m.zs) H) := n.kp
    rw [e] at kp
    exact ⟨sqL_mono kp h1, dps_mono kp _ _ h2⟩
  refine lc_list (K := X.K) (a := a) (xs := xs) (LcP X.K m D H1 ds Sy) p0 (fun i H _ ⟨acc, rs, n, _⟩ => sqL_mono (del_same _ _) (src H acc n).1) (fun i v H hv pv => ?_) fun H ⟨acc, rs, n, qa, hrl, ks, e1, e2, e3⟩ => ?_
  · obtain ⟨acc, rs, n, _⟩ := id pv
    obtain ⟨x, hx, q⟩ := dps_get2 (src H acc n).2 hv
    exact ps i x v H hx pv q
  · obtain ⟨n2, q2⟩ := lc_fin (o.step n1) hD n qa
    exact k _ _ H (n1.trans n2) ⟨ks, by rw [e2], by rw [e1, dps_len h2], e3⟩ q2
theorem lcw_tup {ds : List PyData} {Sy : Nat → PyData → Bool → PyData → Prop} {t : TgK} {ow : List Nat} (hto : t.own ow) (hk : ∀ d ∈ ds, t.ok d) (hl : ds.length ≤ 1000) (σ : L2.St) (H : Hp) (Q : VK) (tt : TT) (te : TE) (o : Okk X.K m g σ H) (k : ∀ (v : V) (d : PyData) (H' : Hp), Nxt m H H' → LcS ds Sy d → Dp X.K (del m.zs H') v d → Q v H')
    (ht : ∀ (i : Nat) (x : PyData) (acc : List V) (D : Addr) (σ2 : L2.St) (H : Hp) (Q : Bool → Hp → Prop), ds[i]? = some x → Okk X.K (m.lst D acc) (t.set (wipeG g ow) x) σ2 H → (∀ b H', Nxt (m.lst D acc) H H' → (∃ y, Sy i x b y) → Q b H') → tt σ2 H Q)
    (he : ∀ (i : Nat) (x : PyData) (acc : List V) (D : Addr) (σ2 : L2.St) (H : Hp) (Q : VK), ds[i]? = some x → (∃ y, Sy i x true y) → Okk X.K (m.lst D acc) (t.set (wipeG g ow) x) σ2 H → (∀ v y H', Nxt (m.lst D acc) H H' → Sy i x true y → Dp X.K (del (D :: m.zs) H') v y → Q v H') → te σ2 H Q) :
    tLc (iTup X.K (tI X.K m g (Is (.tuple ds)))) (t.g X.K) tt te ow σ H Q := by
  refine ⟨o, fun v d H1 n1 s1 q1 => ?_⟩
  cases s1
  obtain ⟨a, xs, rfl, h1, h2⟩ := dp_tup q1
  refine ⟨a, rfl, ⟨xs, sqT_mono (del_same _ _) h1⟩, fun D hD => ?_⟩
  obtain ⟨p0, ps⟩ := lc_turns (tt := tt) (te := te) (o.step n1) hD hto hk hl (fun i x acc σ2 H Q => ht i x acc D σ2 H Q) (fun i x acc σ2 H Q => he i x acc D σ2 H Q)
  have src : ∀ (H : Hp) (acc : List V), Nxt (m.lst D acc) (upd H1 D (.lst acc)) H → SqT X.K (del (D :: m.zs) H) a xs ∧ DpAll X.K (del (D :: m.zs) H) xs ds := fun H acc n => by
    have e : del (D :: m.zs) (upd H1 D (.lst acc)) = del m.zs H1 := del_new hD
    have kp : Same (del (D :: m.zs) (upd H1 D (.lst acc))) (del (D :: m.zs) H) := n.kp
    rw [e] at kp
    exact ⟨sqT_mono kp h1, dps_mono kp _ _ h2⟩
  refine lc_tup (K := X.K) (a := a) (xs := xs) (LcP X.K m D H1 ds Sy) p0 (fun i H _ ⟨acc, rs, n, _⟩ => sqT_mono (del_same _ _) (src H acc n).1) (fun i v H hv pv => ?_) fun H ⟨acc, rs, n, qa, hrl, ks, e1, e2, e3⟩ => ?_
  · obtain ⟨acc, rs, n, _⟩ := id pv
    obtain ⟨x, hx, q⟩ := dps_get2 (src H acc n).2 hv
    exact ps i x v H hx pv q
  · obtain ⟨n2, q2⟩ := lc_fin (o.step n1) hD n qa
    exact k _ _ H (n1.trans n2) ⟨ks, by rw [e2], by rw [e1, dps_len h2], e3⟩ q2
/-- the forms one uses, without a test: one result for each item -/
theorem lcs_all {ds rs : List PyData} {Sy : Nat → PyData → Bool → PyData → Prop} {d : PyData} (h : LcS ds Sy d) (hl : rs.length = ds.length) (hS : ∀ i x b y, ds[i]? = some x → Sy i x b y → b = true ∧ rs[i]? = some y) : d = .list rs := by
  obtain ⟨ks, rfl, h1, h2⟩ := h
  congr 1
  have e : ks = rs.map fun r => (true, r) := by
    refine List.ext_getElem? fun j => ?_
    rw [List.getElem?_map]
    by_cases hj : j < ds.length
    · obtain ⟨x, hx⟩ : ∃ x, ds[j]? = some x := ⟨ds[j], List.getElem?_eq_getElem hj⟩
      obtain ⟨kk, hkk⟩ : ∃ x, ks[j]? = some x := ⟨ks[j], List.getElem?_eq_getElem (by omega)⟩
      obtain ⟨e1, e2⟩ := hS j x kk.1 kk.2 hx (h2 j x kk hx hkk)
      rw [hkk, e2]
      show some kk = some (true, kk.2)
      rw [← e1]
    · rw [List.getElem?_eq_none (by omega), List.getElem?_eq_none (by omega)]
      rfl
  rw [e, List.filterMap_map]
  have : ∀ l : List PyData, l.filterMap ((fun k : Bool × PyData => if k.1 then some k.2 else none) ∘ fun r => (true, r)) = l := by
    intro l
    induction l with
    | nil => rfl
    | cons a l ih => rw [List.filterMap_cons]; show a :: _ = _; rw [ih]
  exact this rs
theorem pts_none {Y : Cx} {m : Md} {g : List Sl} {B : Bool → Prop} (h : B true) : PTs Y [] (tBo Y.K m g B) := ⟨fun pins s σ H Q I ⟨o, k⟩ => pts_nil.run pins s σ H Q I (k true H o.rfl' h)⟩
theorem pts_pb {Y : Cx} {m : Md} {g : List Sl} {B : Bool → Prop} {c : Expr} (h : PB Y m g c B) : PTs Y [c] (tBo Y.K m g B) := pts_one h
theorem plc_L {ds rs : List PyData} (t : TgK) (hc : X.calm = true) (hN : X.N.Nodup) (hi : PD X m g iter (Is (.list ds))) (ok : BlkOk X.N X.env.scope scope own) (hto : t.own (own.map (·.2))) (hk : ∀ d ∈ ds, t.ok d) (hl : ds.length ≤ 1000) (hrl : rs.length = ds.length)
    (hg : ∀ (s : Shared) (H : Hp) (C : Addr) (cl : List (Str × Addr)) (fp : List Addr), PG (X.blk s H scope (compEnvC scope cl C X.env) fp) tg (t.g X.K))
    (he : ∀ (s : Shared) (H : Hp) (C : Addr) (cl : List (Str × Addr)) (fp : List Addr) (i : Nat) (x y : PyData) (D : Addr) (acc : List V), ds[i]? = some x → rs[i]? = some y → PD (X.blk s H scope (compEnvC scope cl C X.env) fp) (m.lst D acc) (t.set (wipeG g (own.map (·.2))) x) elt (Is y))
    (hs : ∀ x, foldedSetIterable iter X.env x = pure x := by intro _; rfl) : PLc X m g elt tg iter [] scope pos (Is (.list rs)) := by
  have hy : ∀ i x, ds[i]? = some x → ∃ y, rs[i]? = some y := fun i x hx => ⟨rs[i]'(by have := (List.getElem?_eq_some_iff.mp hx).1; omega), List.getElem?_eq_getElem _⟩
  refine PLc.le (plc_G (ds := ds) (Sy := fun i _ b y => b = true ∧ rs[i]? = some y) t hc hN (pi_list hi) ok hto hk hl hg (fun s H C cl fp i x D acc hx => pts_none (let ⟨y, e⟩ := hy i x hx; ⟨y, rfl, e⟩)) (fun s H C cl fp i x D acc hx ⟨y, _, e⟩ => pd_le (he s H C cl fp i x y D acc hx e) fun d z => by cases z; exact ⟨rfl, e⟩)
    (fun σ H Q tt te => lcw_list hto hk hl σ H Q tt te) hs) fun d h => lcs_all h hrl fun i x b y _ z => z
theorem plc_T {ds rs : List PyData} (t : TgK) (hc : X.calm = true) (hN : X.N.Nodup) (hi : PD X m g iter (Is (.tuple ds))) (ok : BlkOk X.N X.env.scope scope own) (hto : t.own (own.map (·.2))) (hk : ∀ d ∈ ds, t.ok d) (hl : ds.length ≤ 1000) (hrl : rs.length = ds.length)
    (hg : ∀ (s : Shared) (H : Hp) (C : Addr) (cl : List (Str × Addr)) (fp : List Addr), PG (X.blk s H scope (compEnvC scope cl C X.env) fp) tg (t.g X.K))
    (he : ∀ (s : Shared) (H : Hp) (C : Addr) (cl : List (Str × Addr)) (fp : List Addr) (i : Nat) (x y : PyData) (D : Addr) (acc : List V), ds[i]? = some x → rs[i]? = some y → PD (X.blk s H scope (compEnvC scope cl C X.env) fp) (m.lst D acc) (t.set (wipeG g (own.map (·.2))) x) elt (Is y))
    (hs : ∀ x, foldedSetIterable iter X.env x = pure x := by intro _; rfl) : PLc X m g elt tg iter [] scope pos (Is (.list rs)) := by
  have hy : ∀ i x, ds[i]? = some x → ∃ y, rs[i]? = some y := fun i x hx => ⟨rs[i]'(by have := (List.getElem?_eq_some_iff.mp hx).1; omega), List.getElem?_eq_getElem _⟩
  refine PLc.le (plc_G (ds := ds) (Sy := fun i _ b y => b = true ∧ rs[i]? = some y) t hc hN (pi_tup hi) ok hto hk hl hg (fun s H C cl fp i x D acc hx => pts_none (let ⟨y, e⟩ := hy i x hx; ⟨y, rfl, e⟩)) (fun s H C cl fp i x D acc hx ⟨y, _, e⟩ => pd_le (he s H C cl fp i x y D acc hx e) fun d z => by cases z; exact ⟨rfl, e⟩)
    (fun σ H Q tt te => lcw_tup hto hk hl σ H Q tt te) hs) fun d h => lcs_all h hrl fun i x b y _ z => z
end
end Cv

set_option Elab.async false
set_option linter.all false
set_option maxRecDepth 100000
set_option maxHeartbeats 2000000
/-! The text by places, what the top has written. -/
namespace Cv
open PySem PySem.Spec PyProof.Rows L2
def top (i : Nat) : Stmt := PySem.Challenge.pw_typedcurve_k50_whole_cells_bar_what_is_o.main.body.getD i (.Pass ⟨0, 0, 0, 0⟩)
structure Txt (K : PySem.W.Frag) (mg : Str → Option Value) : Prop where
  t_is_integer : Tx K mg 7 "is_integer" top
  t_is_within : Tx K mg 8 "is_within" top
  t_is_list : Tx K mg 9 "is_list" top
  t_common : Tx K mg 10 "common" top
  t_is_number : Tx K mg 11 "is_number" top
  t_is_point : Tx K mg 12 "is_point" top
  t_kept : Tx K mg 13 "kept" top
  t_kept_row : Tx K mg 14 "kept_row" top
  t_need_integer : Tx K mg 15 "need_integer" top
  t_need_number : Tx K mg 16 "need_number" top
  t_need_point : Tx K mg 17 "need_point" top
  t_halves : Tx K mg 19 "halves" top
  t_lowest : Tx K mg 20 "lowest" top
  t_added : Tx K mg 21 "added" top
  t_turned : Tx K mg 22 "turned" top
  t_less_by : Tx K mg 23 "less_by" top
  t_product : Tx K mg 24 "product" top
  t_part_by : Tx K mg 25 "part_by" top
  t_below : Tx K mg 26 "below" top
  t_sign_in : Tx K mg 27 "sign_in" top
  t_square : Tx K mg 28 "square" top
  t_root_in : Tx K mg 29 "root_in" top
  t_shifted : Tx K mg 32 "shifted" top
  t_grown : Tx K mg 33 "grown" top
  t_placed : Tx K mg 34 "placed" top
  t_place_of : Tx K mg 35 "place_of" top
  t_moved : Tx K mg 38 "moved" top
  t_scaled : Tx K mg 39 "scaled" top
  t_square_of : Tx K mg 40 "square_of" top
  t_to_left : Tx K mg 41 "to_left" top
  t_pins_of : Tx K mg 47 "pins_of" top
  t_root_over : Tx K mg 48 "root_over" top
  t_nine_places : Tx K mg 49 "nine_places" top
  t_need_reach : Tx K mg 50 "need_reach" top
  t_cell_places : Tx K mg 51 "cell_places" top
  t_cell_parts : Tx K mg 52 "cell_parts" top
  t__law_hoist : Tx K mg 54 "_law_hoist" top
  t__law_winch : Tx K mg 55 "_law_winch" top
  t__law_one : Tx K mg 56 "_law_one" top
  t__law_low : Tx K mg 57 "_law_low" top
  t__law_two : Tx K mg 58 "_law_two" top
  t__law_sum : Tx K mg 59 "_law_sum" top
  t__law_by : Tx K mg 60 "_law_by" top
  t__law_less : Tx K mg 61 "_law_less" top
  t__law_over : Tx K mg 62 "_law_over" top
  t__law_is_below : Tx K mg 63 "_law_is_below" top
  t__law_move : Tx K mg 64 "_law_move" top
  t__law_scale : Tx K mg 65 "_law_scale" top
  t__law_off : Tx K mg 66 "_law_off" top
  t__law_way : Tx K mg 67 "_law_way" top
  t__law_turn : Tx K mg 68 "_law_turn" top
  t__law_whole_root : Tx K mg 69 "_law_whole_root" top
  t__law_root : Tx K mg 70 "_law_root" top
  t__law_place : Tx K mg 71 "_law_place" top
  t__law_far : Tx K mg 72 "_law_far" top
  t__law_in_midst : Tx K mg 73 "_law_in_midst" top
  t__law_heard : Tx K mg 74 "_law_heard" top
  t__law_number : Tx K mg 75 "_law_number" top
  t__law_parts : Tx K mg 76 "_law_parts" top
  t__law_nine : Tx K mg 77 "_law_nine" top
  t__law_torn : Tx K mg 78 "_law_torn" top
  t__law_parts_right : Tx K mg 79 "_law_parts_right" top
  t_law : Tx K mg 80 "law" top
  f_isinstance : mg "isinstance" = none
  f_int : mg "int" = none
  f_bool : mg "bool" = none
  f_list : mg "list" = none
  f_tuple : mg "tuple" = none
  f_abs : mg "abs" = none
  f_len : mg "len" = none
  f_all : mg "all" = none
  f_min : mg "min" = none
  f_max : mg "max" = none
  f_sorted : mg "sorted" = none
  f_dict : mg "dict" = none
  f_zip : mg "zip" = none
  f_range : mg "range" = none
  f_repr : mg "repr" = none
  k_NONE : ∃ (v : V) (u : Value), mg "NONE" = some u ∧ RelV v u ∧ ∀ H, Dp K H v (.tuple [.int 0, .int 0])
  k_HALF : ∃ (v : V) (u : Value), mg "HALF" = some u ∧ RelV v u ∧ ∀ H, Dp K H v (.tuple [.int 1, .int 2])
  k_SHORT : ∃ (v : V) (u : Value), mg "SHORT" = some u ∧ RelV v u ∧ ∀ H, Dp K H v (.tuple [.int 3, .int 2])
  k_LONG : ∃ (v : V) (u : Value), mg "LONG" = some u ∧ RelV v u ∧ ∀ H, Dp K H v (.tuple [.int 5, .int 2])
  k_LOCK : ∃ (v : V) (u : Value), mg "LOCK" = some u ∧ RelV v u ∧ ∀ H, Dp K H v (.tuple [.tuple [.int 17, .int 8], .tuple [.int 15, .int 8]])
  q_isqrt : mg "isqrt" = some (.builtin "math.isqrt")
end Cv

set_option Elab.async false
set_option linter.all false
set_option maxRecDepth 100000
set_option maxHeartbeats 4000000
namespace Cv
open PySem PySem.Spec PyProof.Rows L2

/-! ### what the small defs say -/
def rInt : PyData → Bool | .int _ => true | .bool _ => true | _ => false
def rBool : PyData → Bool | .bool _ => true | _ => false
def rList : PyData → Bool | .list _ => true | _ => false
def rTuple : PyData → Bool | .tuple _ => true | _ => false
theorem k_int (x : PyData) : kitB (tyD x) "int" = some (rInt x) := by cases x <;> (simp only [tyD, rInt]; decide +kernel)
theorem k_bool (x : PyData) : kitB (tyD x) "bool" = some (rBool x) := by cases x <;> (simp only [tyD, rBool]; decide +kernel)
theorem k_list (x : PyData) : kitB (tyD x) "list" = some (rList x) := by cases x <;> (simp only [tyD, rList]; decide +kernel)
theorem k_tuple (x : PyData) : kitB (tyD x) "tuple" = some (rTuple x) := by cases x <;> (simp only [tyD, rTuple]; decide +kernel)
def isI : PyData → Bool | .int _ => true | _ => false
def isLs (x : PyData) : Bool := rList x || rTuple x
def optD : Option Int → PyData | none => .none | some i => .int i
def wthn : PyData → Option Int → Option Int → Bool
  | .int i, lo, hi => lo.all (decide <| · ≤ i) && hi.all (decide <| i ≤ ·)
  | _, _, _ => false
def isNumD : PyData → Bool
  | .int _ => true
  | .tuple [.int p, .int q] => decide (2 ≤ q) && (Int.gcd p q : Int) == 1
  | _ => false
def NumOk : PyData → Prop
  | .list _ => False
  | .dict _ => False
  | .tuple ds => ∃ p q, ds = [.int p, .int q]
  | _ => True
abbrev pt (x y : Rat) : PyData := .tuple [num x, num y]
def R_is_integer : List PyData → PyData → Prop := fun ds d => ∃ x, ds = [x] ∧ d = .bool (isI x)
theorem rel_is_integer {x : PyData} : R_is_integer [x] (.bool (isI x)) := ⟨x, rfl, rfl⟩
def R_is_within : List PyData → PyData → Prop := fun ds d => ∃ x lo hi, ds = [x, optD lo, optD hi] ∧ d = .bool (wthn x lo hi)
def R_is_list : List PyData → PyData → Prop := fun ds d => ∃ x, ds = [x] ∧ d = .bool (isLs x)
theorem rel_is_list {x : PyData} : R_is_list [x] (.bool (isLs x)) := ⟨x, rfl, rfl⟩
def R_common : List PyData → PyData → Prop := fun ds d => ∃ p q : Int, ds = [.int p, .int q] ∧ d = .int (Int.gcd p q : Int)
theorem rel_common {p q : Int} : R_common [.int p, .int q] (.int (Int.gcd p q : Int)) := ⟨p, q, rfl, rfl⟩
def R_is_number : List PyData → PyData → Prop := fun ds d => ∃ x, ds = [x] ∧ NumOk x ∧ d = .bool (isNumD x)
theorem num_cases (r : Rat) : (num r = .int r.num ∧ r.den = 1) ∨ (num r = .tuple [.int r.num, .int (r.den : Int)] ∧ (2 : Int) ≤ r.den ∧ Int.gcd r.num r.den = 1) := by
  unfold num
  by_cases h : r.den = 1
  · exact .inl ⟨if_pos h, h⟩
  · refine .inr ⟨if_neg h, ?_, ?_⟩
    · have := r.den_nz
      omega
    · have h := r.reduced
      unfold Nat.Coprime at h
      simpa [Int.gcd] using h
theorem num_ok (r : Rat) : NumOk (num r) ∧ isNumD (num r) = true := by
  rcases num_cases r with ⟨e, _⟩ | ⟨e, h1, h2⟩
  · rw [e]; exact ⟨trivial, rfl⟩
  · rw [e]
    refine ⟨⟨_, _, rfl⟩, ?_⟩
    show (decide ((2 : Int) ≤ r.den) && (Int.gcd r.num r.den : Int) == 1) = true
    rw [h2, decide_eq_true h1]
    rfl
theorem rel_is_number {r : Rat} : R_is_number [num r] (.bool true) := ⟨num r, rfl, (num_ok r).1, by rw [(num_ok r).2]⟩
def R_is_point : List PyData → PyData → Prop := fun ds d => ∃ x y : Rat, ds = [pt x y] ∧ d = .bool true
theorem rel_is_point {x y : Rat} : R_is_point [pt x y] (.bool true) := ⟨x, y, rfl, rfl⟩
def R_kept : List PyData → PyData → Prop := fun ds d => ∃ r : Rat, ds = [num r] ∧ d = num r
theorem rel_kept {x : Rat} : R_kept [num x] (num x) := ⟨x, rfl, rfl⟩
def R_kept_row : List PyData → PyData → Prop := fun ds d => ∃ x y : Rat, ds = [pt x y] ∧ d = pt x y
theorem rel_kept_row {x y : Rat} : R_kept_row [pt x y] (pt x y) := ⟨x, y, rfl, rfl⟩

local macro_rules | `(tactic| walk_at "nb") => `(tactic| (first | exact Bd.up | exact nd_bd Bd.dn | assumption | (apply mul_bd <;> walk_at "nb") | (apply add_bd <;> walk_at "nb")))
local macro_rules | `(tactic| walk_at "cm") => `(tactic| (apply mulx_ok; (walk_at "nb"); (walk_at "nb"); omega))
local macro_rules | `(tactic| walk_at "sh") => `(tactic| (first | exact num_shaped _ | exact shp_int _ | exact shp_int2 _ _ | exact shp_none))
section
variable {P : Program} {w : World} {K : PySem.W.Frag} {mg : Str → Option Value} {base : Heap}

theorem sc_is_integer : FnScope ["value"] ["value"] (defScope (top 7)) := ⟨rfl, rfl, rfl, by decide +kernel, rfl, by decide +kernel, by decide +kernel⟩
theorem c_is_integer (T : Txt K mg) : C8.Cal P w K mg base 1 "is_integer" (spP K R_is_integer) [] := by
  refine okP T.t_is_integer sc_is_integer (fun _ _ _ _ _ _ us hl => match us, hl with | [_], _ => rfl) (fun ds d h => ?_) (fun f cdv A outer s H E m ds d hr h => ?_)
  · obtain ⟨x, rfl, rfl⟩ := h
    rfl
  obtain ⟨x, rfl, rfl⟩ := h
  exact ss_ret (pd_and (pd_isi (T := "int") (pd_var 0) rfl T.f_isinstance rfl T.f_int (by decide +kernel) (k_int _)) (fun _ => (pd_one (pd_not (pd_isi (T := "bool") (pd_var 0) rfl T.f_isinstance rfl T.f_bool (by decide +kernel) (k_bool _)))))) (fun _ e => e.trans (by cases x <;> rfl))
theorem sc_is_within : FnScope ["value", "least", "most"] ["value", "least", "most"] (defScope (top 8)) := ⟨rfl, rfl, rfl, by decide +kernel, rfl, by decide +kernel, by decide +kernel⟩
theorem c_is_within (T : Txt K mg) : C8.Cal P w K mg base 2 "is_within" (spP K R_is_within) [] := by
  refine okP T.t_is_within sc_is_within (fun _ _ _ _ _ _ us hl => match us, hl with | [_, _, _], _ => rfl) (fun ds d h => ?_) (fun f cdv A outer s H E m ds d hr h => ?_)
  · obtain ⟨x, lo, hi, rfl, rfl⟩ := h
    rfl
  obtain ⟨x, lo, hi, rfl, rfl⟩ := h
  refine ss_ifR (pb_not (pb_val (pd_call (c_is_integer T) hr (by decide) rfl (pl_cons (pd_var 0) pl_nil) (by exact rel_is_integer)))) (fun e => ?_) (fun e => ?_)
  · exact ss_ret pd_bl (fun _ z => z.trans (by cases x <;> first | rfl | cases e))
  · obtain ⟨i, rfl⟩ : ∃ i, x = .int i := by
      cases x with
      | int i => exact ⟨i, rfl⟩
      | _ => cases e
    cases lo with
    | none =>
      cases hi with
      | none => exact ss_ret (pd_and (pd_orT (pd_isN (pd_var 1)) rfl) (fun _ => pd_one (pd_orT (pd_isN (pd_var 2)) rfl))) (fun _ z => z.trans rfl)
      | some b => exact ss_ret (pd_and (pd_orT (pd_isN (pd_var 1)) rfl) (fun _ => pd_one (pd_or (pd_isN (pd_var 2)) (fun _ => pd_one (pd_le' (pd_var 0) (pd_var 2)))))) (fun _ z => z.trans rfl)
    | some a =>
      cases hi with
      | none => exact ss_ret (pd_and (pd_or (pd_isN (pd_var 1)) (fun _ => pd_one (pd_le' (pd_var 1) (pd_var 0)))) (fun _ => pd_one (pd_orT (pd_isN (pd_var 2)) rfl))) (fun _ z => z.trans rfl)
      | some b => exact ss_ret (pd_and (pd_or (pd_isN (pd_var 1)) (fun _ => pd_one (pd_le' (pd_var 1) (pd_var 0)))) (fun _ => pd_one (pd_or (pd_isN (pd_var 2)) (fun _ => pd_one (pd_le' (pd_var 0) (pd_var 2)))))) (fun _ z => z.trans rfl)
theorem sc_is_list : FnScope ["value"] ["value"] (defScope (top 9)) := ⟨rfl, rfl, rfl, by decide +kernel, rfl, by decide +kernel, by decide +kernel⟩
theorem c_is_list (T : Txt K mg) : C8.Cal P w K mg base 1 "is_list" (spP K R_is_list) [] := by
  refine okP T.t_is_list sc_is_list (fun _ _ _ _ _ _ us hl => match us, hl with | [_], _ => rfl) (fun ds d h => ?_) (fun f cdv A outer s H E m ds d hr h => ?_)
  · obtain ⟨x, rfl, rfl⟩ := h
    rfl
  obtain ⟨x, rfl, rfl⟩ := h
  exact ss_ret (pd_isi2 (T1 := "list") (T2 := "tuple") (pd_var 0) rfl T.f_isinstance rfl T.f_list (by decide +kernel) (k_list _) rfl T.f_tuple (by decide +kernel) (k_tuple _)) (fun _ z => z)
theorem sc_common : FnScope ["one", "other"] ["one", "other"] (defScope (top 10)) := ⟨rfl, rfl, rfl, by decide +kernel, rfl, by decide +kernel, by decide +kernel⟩
theorem c_common (T : Txt K mg) : C8.Cal P w K mg base 1 "common" (spP K R_common) [] := by
  refine okP T.t_common sc_common (fun _ _ _ _ _ _ us hl => match us, hl with | [_, _], _ => rfl) (fun ds d h => ?_) (fun f cdv A outer s H E m ds d hr h => ?_)
  · obtain ⟨p, q, rfl, rfl⟩ := h
    rfl
  obtain ⟨p, q, rfl, rfl⟩ := h
  refine ss_par 0 1 rfl sc_common.nd (pl_cons (pd_abs (pd_var 0) rfl T.f_abs) (pl_cons (pd_abs (pd_var 1) rfl T.f_abs) pl_nil)) ?_
  refine ss_while (ι := Nat × Nat) (fun i => Nat.gcd i.1 i.2 = Int.gcd p q) (fun i => [.d (.int (i.1 : Int)), .d (.int (i.2 : Int))]) (fun i => decide ((0 : Int) < (i.2 : Int))) (fun i => (i.2, i.1 % i.2)) (fun i => i.2) (p.natAbs, q.natAbs) (fgt_refl _) rfl (fun i hi => ?_) (fun i hi ht => ?_) (fun i hi ht => ?_) (fun i hi ht => ?_) PassesOwn.never
  · exact (pb_gt (pd_var 1) pd_int)
  · have h0 : (0 : Int) < (i.2 : Int) := of_decide_eq_true ht
    refine ss_par 0 1 rfl sc_common.nd (pl_cons (pd_var 1) (pl_cons (pd_mod (pd_var 0) (pd_var 1) h0) pl_nil)) ?_
    exact ss_nil rfl
  · have h0 : (0 : Int) < (i.2 : Int) := of_decide_eq_true ht
    have h1 : 0 < i.2 := by omega
    refine ⟨?_, Nat.mod_lt _ h1⟩
    show Nat.gcd i.2 (i.1 % i.2) = Int.gcd p q
    rw [← hi, Nat.gcd_comm i.1 i.2, Nat.gcd_rec i.2 i.1, Nat.gcd_comm]
  · have h0 : i.2 = 0 := by
      have := of_decide_eq_false ht
      omega
    rw [h0, Nat.gcd_zero_right] at hi
    exact ss_ret (pd_var 0) (fun _ z => z.trans (by rw [hi]))
theorem sc_is_number : FnScope ["value"] ["value"] (defScope (top 11)) := ⟨rfl, rfl, rfl, by decide +kernel, rfl, by decide +kernel, by decide +kernel⟩
theorem c_is_number (T : Txt K mg) : C8.Cal P w K mg base 3 "is_number" (spP K R_is_number) [] := by
  refine okP T.t_is_number sc_is_number (fun _ _ _ _ _ _ us hl => match us, hl with | [_], _ => rfl) (fun ds d h => ?_) (fun f cdv A outer s H E m ds d hr h => ?_)
  · obtain ⟨x, rfl, hx, rfl⟩ := h
    rfl
  obtain ⟨x, rfl, hx, rfl⟩ := h
  refine ss_ifR (pb_val (pd_call (c_is_integer T) hr (by decide) rfl (pl_cons (pd_var 0) pl_nil) (by exact rel_is_integer))) (fun e => ?_) (fun e => ?_)
  · exact ss_ret pd_bl (fun _ z => z.trans (by cases x <;> first | rfl | cases e))
  · by_cases hl : isLs x = true
    · obtain ⟨p, q, rfl⟩ : ∃ p q, x = .tuple [.int p, .int q] := by
        cases x with
        | tuple ds => obtain ⟨p, q, rfl⟩ := hx; exact ⟨p, q, rfl⟩
        | list ds => exact hx.elim
        | _ => cases hl
      refine ss_ifR (pb_w (pbw_or (pb_not (pb_val (pd_call (c_is_list T) hr (by decide) rfl (pl_cons (pd_var 0) pl_nil) (by exact rel_is_list)))) (fun _ => (pbw_or (pb_ne hr.units (pd_lenT (pd_var 0) rfl T.f_len) pd_int (by walk_at "sh") (by walk_at "sh")) (fun _ => (pbw_or1 (pb_not (pb_val (pd_call (c_is_integer T) hr (by decide) rfl (pl_cons (pd_ixT (pd_var 0) pd_int) pl_nil) (by exact rel_is_integer)))))))))) (fun e => by cases e) (fun _ => ?_)
      exact ss_ret (pd_and (pd_call (c_is_within T) hr (by decide) rfl (pl_cons (pd_ixT (pd_var 0) pd_int) (pl_cons pd_int (pl_cons pd_non pl_nil))) (by exact ⟨_, some 2, none, rfl, rfl⟩)) (fun _ => (pd_one (pd_eq hr.units (pd_call (c_common T) hr (by decide) rfl (pl_cons (pd_ixT (pd_var 0) pd_int) (pl_cons (pd_ixT (pd_var 0) pd_int) pl_nil)) (by exact rel_common)) pd_int (by walk_at "sh") (by walk_at "sh"))))) (fun _ z => z.trans (by simp [isNumD, wthn, PyData.eqv]))
    · refine ss_ifR (x := true) (pb_w (pbw_orT (pb_not (pb_val (pd_call (c_is_list T) hr (by decide) rfl (pl_cons (pd_var 0) pl_nil) (by exact rel_is_list)))) (by simpa using hl))) (fun _ => ?_) (fun e => by cases e)
      · exact ss_ret pd_bl (fun _ z => z.trans (by rw [show isNumD x = false by cases x <;> first | exact (hl rfl).elim | rfl | cases e]))
end
end Cv

set_option Elab.async false
set_option linter.all false
set_option maxRecDepth 100000
set_option maxHeartbeats 4000000
namespace Cv
open PySem PySem.Spec PyProof.Rows L2


class IsPt (d : PyData) (x y : outParam Rat) : Prop where
  eq : d = pt x y
instance isPtP {x y : Rat} : IsPt (pt x y) x y := ⟨rfl⟩
instance (priority := 100) isPt2 {a b : PyData} {x y : Rat} [h1 : IsNum a x] [h2 : IsNum b y] : IsPt (.tuple [a, b]) x y := ⟨by rw [h1.eq, h2.eq]⟩
def R_halves : List PyData → PyData → Prop := fun ds d => ∃ r : Rat, ds = [num r] ∧ d = .tuple [.int r.num, .int (r.den : Int)]
theorem rel_halves {d : PyData} {r : Rat} [a : IsNum d r] : R_halves [d] (.tuple [.int r.num, .int (r.den : Int)]) := ⟨r, by rw [a.eq], rfl⟩
def R_lowest : List PyData → PyData → Prop := fun ds d => ∃ (p q : Int) (n : Nat), ds = [.int p, .int q] ∧ 0 < q ∧ q.natAbs < 2 ^ n ∧ n ≤ 8999 ∧ d = num ((p : Rat) / (q : Rat))
theorem rel_lowest {p q : Int} {n : Nat} (h : 0 < q) (hb : q.natAbs < 2 ^ n) (hn : n ≤ 8999) : R_lowest [.int p, .int q] (num ((p : Rat) / (q : Rat))) := ⟨p, q, n, rfl, h, hb, hn, rfl⟩
def R2f (f : Rat → Rat → Rat) (C : Rat → Rat → Prop) : List PyData → PyData → Prop := fun ds d => ∃ (x y : Rat) (n m : Nat), ds = [num x, num y] ∧ Bd x n ∧ Bd y m ∧ n + m ≤ 8000 ∧ C x y ∧ d = num (f x y)
theorem rel2 {f : Rat → Rat → Rat} {C : Rat → Rat → Prop} {dx dy : PyData} {x y : Rat} {n m : Nat} [a : IsNum dx x] [b : IsNum dy y] [bx : Bd x n] [by' : Bd y m] (c : C x y) (h : n + m ≤ 8000 := by decide) : R2f f C [dx, dy] (num (f x y)) := ⟨x, y, n, m, by rw [a.eq, b.eq], bx, by', h, c, rfl⟩
def R_added := R2f (fun x y => x + y) fun _ _ => True
theorem rel_added {dx dy : PyData} {x y : Rat} {n m : Nat} [a : IsNum dx x] [b : IsNum dy y] [bx : Bd x n] [by' : Bd y m] (h : n + m ≤ 8000 := by decide) : R_added [dx, dy] (num (x + y)) := rel2 (f := fun x y => x + y) trivial h
def R_less_by := R2f (fun x y => x - y) fun _ _ => True
theorem rel_less_by {dx dy : PyData} {x y : Rat} {n m : Nat} [a : IsNum dx x] [b : IsNum dy y] [bx : Bd x n] [by' : Bd y m] (h : n + m ≤ 8000 := by decide) : R_less_by [dx, dy] (num (x - y)) := rel2 (f := fun x y => x - y) trivial h
def R_product := R2f (fun x y => x * y) fun _ _ => True
theorem rel_product {dx dy : PyData} {x y : Rat} {n m : Nat} [a : IsNum dx x] [b : IsNum dy y] [bx : Bd x n] [by' : Bd y m] (h : n + m ≤ 8000 := by decide) : R_product [dx, dy] (num (x * y)) := rel2 (f := fun x y => x * y) trivial h
def R_part_by := R2f (fun x y => x / y) fun _ y => 0 < y
theorem rel_part_by {dx dy : PyData} {x y : Rat} {n m : Nat} [a : IsNum dx x] [b : IsNum dy y] [bx : Bd x n] [by' : Bd y m] (c : 0 < y) (h : n + m ≤ 8000 := by decide) : R_part_by [dx, dy] (num (x / y)) := rel2 (f := fun x y => x / y) (C := fun _ y => 0 < y) c h
def R_turned : List PyData → PyData → Prop := fun ds d => ∃ x : Rat, ds = [num x] ∧ d = num (-x)
theorem rel_turned {dx : PyData} {x : Rat} [a : IsNum dx x] : R_turned [dx] (num (-x)) := ⟨x, by rw [a.eq], rfl⟩
def R_below : List PyData → PyData → Prop := fun ds d => ∃ (x y : Rat) (n m : Nat), ds = [num x, num y] ∧ Bd x n ∧ Bd y m ∧ n + m ≤ 8000 ∧ d = .bool (decide (x < y))
theorem rel_below {dx dy : PyData} {x y : Rat} {n m : Nat} [a : IsNum dx x] [b : IsNum dy y] [bx : Bd x n] [by' : Bd y m] (h : n + m ≤ 8000 := by decide) : R_below [dx, dy] (.bool (decide (x < y))) := ⟨x, y, n, m, by rw [a.eq, b.eq], bx, by', h, rfl⟩
def R_sign_in : List PyData → PyData → Prop := fun ds d => ∃ x : Rat, ds = [num x] ∧ 0 ≤ x ∧ d = .int (if 0 < x.num then 1 else 0)
theorem rel_sign_in {x : Rat} (h : 0 ≤ x) : R_sign_in [num x] (.int (if 0 < x.num then 1 else 0)) := ⟨x, rfl, h, rfl⟩
def R_square : List PyData → PyData → Prop := fun ds d => ∃ (x : Rat) (n : Nat), ds = [num x] ∧ Bd x n ∧ n + n ≤ 8000 ∧ d = num (x * x)
theorem rel_square {dx : PyData} {x : Rat} {n : Nat} [a : IsNum dx x] [bx : Bd x n] (h : n + n ≤ 8000 := by decide) : R_square [dx] (num (x * x)) := ⟨x, n, by rw [a.eq], bx, h, rfl⟩
/-- the whole root of a number from 0 on -/
def rt (n : Int) : Int := (Float64.isqrt n.toNat : Nat)
def sqr (x : Rat) : Option Rat := if rt x.num * rt x.num = x.num ∧ rt x.den * rt x.den = x.den then some ((rt x.num : Rat) / (rt x.den : Rat)) else none
def rootD (x : Rat) : PyData := match sqr x with
  | some r => num r
  | none => .none
theorem rt_le {n : Int} (h : 0 ≤ n) : 0 ≤ rt n ∧ rt n * rt n ≤ n ∧ n < (rt n + 1) * (rt n + 1) := by
  have h1 := PySem.Float64.isqrt_spec n.toNat
  unfold rt
  have e : ((n.toNat : Nat) : Int) = n := Int.toNat_of_nonneg h
  refine ⟨by omega, ?_, ?_⟩
  · have := h1.1
    have h2 : ((Float64.isqrt n.toNat * Float64.isqrt n.toNat : Nat) : Int) ≤ ((n.toNat : Nat) : Int) := by exact_mod_cast this
    rw [e] at h2
    simpa using h2
  · have := h1.2
    have h2 : ((n.toNat : Nat) : Int) < (((Float64.isqrt n.toNat + 1) * (Float64.isqrt n.toNat + 1) : Nat) : Int) := by exact_mod_cast this
    rw [e] at h2
    simpa using h2
theorem rt_abs {n : Int} {k : Nat} (h : 0 ≤ n) (hb : n.natAbs < 2 ^ k) : (rt n).natAbs < 2 ^ k := by
  obtain ⟨h0, h1, _⟩ := rt_le h
  have : rt n ≤ n := by
    by_cases hz : rt n = 0
    · omega
    · have : rt n * 1 ≤ rt n * rt n := Int.mul_le_mul_of_nonneg_left (by omega) h0
      omega
  omega
def R_root_in : List PyData → PyData → Prop := fun ds d => ∃ (x : Rat) (n : Nat), ds = [num x] ∧ 0 ≤ x ∧ Bd x n ∧ n ≤ 8000 ∧ d = rootD x
theorem rel_root_in {x : Rat} {n : Nat} [bx : Bd x n] (h0 : 0 ≤ x) (h : n ≤ 8000 := by decide) : R_root_in [num x] (rootD x) := ⟨x, n, rfl, h0, bx, h, rfl⟩
def RP (fx fy : Rat → Rat → Rat → Rat → Rat) : List PyData → PyData → Prop := fun ds d => ∃ (a b c e : Rat) (n1 n2 n3 n4 : Nat), ds = [pt a b, pt c e] ∧ Bd a n1 ∧ Bd b n2 ∧ Bd c n3 ∧ Bd e n4 ∧ n1 + n3 ≤ 8000 ∧ n2 + n4 ≤ 8000 ∧ d = pt (fx a b c e) (fy a b c e)
def R_shifted := RP (fun a _ c _ => a + c) fun _ b _ d => b + d
theorem rel_shifted {p q : PyData} {a b c e : Rat} {n1 n2 n3 n4 : Nat} [hp : IsPt p a b] [hq : IsPt q c e] [b1 : Bd a n1] [b2 : Bd b n2] [b3 : Bd c n3] [b4 : Bd e n4] (h : n1 + n3 ≤ 8000 := by decide) (h' : n2 + n4 ≤ 8000 := by decide) : R_shifted [p, q] (pt (a + c) (b + e)) := ⟨a, b, c, e, n1, n2, n3, n4, by rw [hp.eq, hq.eq], b1, b2, b3, b4, h, h', rfl⟩
def R_moved := R_shifted
theorem rel_moved {p q : PyData} {a b c e : Rat} {n1 n2 n3 n4 : Nat} [hp : IsPt p a b] [hq : IsPt q c e] [b1 : Bd a n1] [b2 : Bd b n2] [b3 : Bd c n3] [b4 : Bd e n4] (h : n1 + n3 ≤ 8000 := by decide) (h' : n2 + n4 ≤ 8000 := by decide) : R_moved [p, q] (pt (a + c) (b + e)) := rel_shifted h h'
def R_grown : List PyData → PyData → Prop := fun ds d => ∃ (a b k : Rat) (n1 n2 n3 : Nat), ds = [pt a b, num k] ∧ Bd a n1 ∧ Bd b n2 ∧ Bd k n3 ∧ n1 + n3 ≤ 8000 ∧ n2 + n3 ≤ 8000 ∧ d = pt (a * k) (b * k)
theorem rel_grown {p q : PyData} {a b k : Rat} {n1 n2 n3 : Nat} [hp : IsPt p a b] [hq : IsNum q k] [b1 : Bd a n1] [b2 : Bd b n2] [b3 : Bd k n3] (h : n1 + n3 ≤ 8000 := by decide) (h' : n2 + n3 ≤ 8000 := by decide) : R_grown [p, q] (pt (a * k) (b * k)) := ⟨a, b, k, n1, n2, n3, by rw [hp.eq, hq.eq], b1, b2, b3, h, h', rfl⟩
def R_scaled := R_grown
theorem rel_scaled {p q : PyData} {a b k : Rat} {n1 n2 n3 : Nat} [hp : IsPt p a b] [hq : IsNum q k] [b1 : Bd a n1] [b2 : Bd b n2] [b3 : Bd k n3] (h : n1 + n3 ≤ 8000 := by decide) (h' : n2 + n3 ≤ 8000 := by decide) : R_scaled [p, q] (pt (a * k) (b * k)) := rel_grown h h'
def R_square_of : List PyData → PyData → Prop := fun ds d => ∃ (a b : Rat) (n1 n2 : Nat), ds = [pt a b] ∧ Bd a n1 ∧ Bd b n2 ∧ (n1 + n1) + (n2 + n2) ≤ 8000 ∧ d = num (a * a + b * b)
theorem rel_square_of {p : PyData} {a b : Rat} {n1 n2 : Nat} [hp : IsPt p a b] [b1 : Bd a n1] [b2 : Bd b n2] (h : (n1 + n1) + (n2 + n2) ≤ 8000 := by decide) : R_square_of [p] (num (a * a + b * b)) := ⟨a, b, n1, n2, by rw [hp.eq], b1, b2, h, rfl⟩
def R_to_left : List PyData → PyData → Prop := fun ds d => ∃ (a b s : Rat) (n1 n2 n3 : Nat), ds = [pt a b, num s] ∧ Bd a n1 ∧ Bd b n2 ∧ Bd s n3 ∧ n1 + n3 ≤ 8000 ∧ n2 + n3 ≤ 8000 ∧ d = pt (-b * s) (a * s)
theorem rel_to_left {p q : PyData} {a b s : Rat} {n1 n2 n3 : Nat} [hp : IsPt p a b] [hq : IsNum q s] [b1 : Bd a n1] [b2 : Bd b n2] [b3 : Bd s n3] (h : n1 + n3 ≤ 8000 := by decide) (h' : n2 + n3 ≤ 8000 := by decide) : R_to_left [p, q] (pt (-b * s) (a * s)) := ⟨a, b, s, n1, n2, n3, by rw [hp.eq, hq.eq], b1, b2, b3, h, h', rfl⟩
/-- isqrt -/
theorem call_isqrt {X : Cx} : CallR X (.builtin "math.isqrt") (fun vs H Q => ∃ a : Int, vs = [.int a] ∧ 0 ≤ a ∧ a.natAbs < 2 ^ 13000 ∧ Q (.int (rt a)) H) := by
  intro pins s σ H vs us Q I r h
  obtain ⟨a, rfl, h0, h1, q⟩ := h
  obtain ⟨u, rfl, t, rfl⟩ := vals1 r
  have hl : a.toNat.log2 ≤ 12999 := PySem.W.mg_log (by
    have e : a.toNat = a.natAbs := by omega
    rw [e]; exact h1)
  exact call_function_meets PySem.W.MGF.kind_isqrt PySem.W.MGF.plain_isqrt PySem.W.MGF.entry_isqrt (PySem.W.MGF.args_isqrt _) (PySem.W.mg_run_isqrt a t (by omega) (by omega) (by omega)).meets ⟨.int _, H, I.tok _, ⟨_, rfl⟩, q⟩
theorem pd_isqrt {X : Cx} {m : Md} {g : List Sl} {a : Expr} {i : Int} {p pos : Pos} {n : Nat} (ha : PD X m g a (Is (.int i))) (h0 : 0 ≤ i) (hb : i.natAbs < 2 ^ n) (hn : n ≤ 13000) (hg : Gl X "isqrt") (hm : X.mg "isqrt" = some (.builtin "math.isqrt")) (hs : starEach [a] X.env = (false, eval a X.env) :: starEach [] X.env := by rfl) :
    PD X m g (.Call (.Name "isqrt" p) [a] [] pos) (Is (.int (rt i))) :=
  pd_cb (f := .none) (pe_callBfun call_isqrt hg hm (pl_cons ha pl_nil hs) (he := hs) (hpl := by rfl)) fun ds us H Q al s q k => by
    cases s
    obtain ⟨u, rfl, q0⟩ := dps1 q
    cases dp_int q0
    exact ⟨i, rfl, h0, bd_mono hb hn, k _ _ H (Same.refl H) rfl (.int _)⟩
theorem ratpos {x : Rat} (h : 0 ≤ x) : 0 ≤ x.num := Rat.num_nonneg.mpr h

local macro_rules | `(tactic| walk_at "nb") => `(tactic| (first | exact Bd.up | exact nd_bd Bd.dn | assumption | (apply mul_bd <;> walk_at "nb") | (apply add_bd <;> walk_at "nb")))
local macro_rules | `(tactic| walk_at "cm") => `(tactic| (apply mulx_ok; (walk_at "nb"); (walk_at "nb"); omega))
local macro_rules | `(tactic| walk_at "sh") => `(tactic| (first | exact num_shaped _ | exact shp_int _ | exact shp_int2 _ _ | exact shp_none))
section
variable {P : Program} {w : World} {K : PySem.W.Frag} {mg : Str → Option Value} {base : Heap}

theorem sc_is_point : FnScope ["value", "each"] ["value"] (defScope (top 12)) := ⟨rfl, rfl, rfl, by decide +kernel, rfl, by decide +kernel, by decide +kernel⟩
theorem c_is_point (T : Txt K mg) : C8.Cal P w K mg base 4 "is_point" (spP K R_is_point) [] := by
  refine okP T.t_is_point sc_is_point (fun _ _ _ _ _ _ us hl => match us, hl with | [_], _ => rfl) (fun ds d h => ?_) (fun f cdv A outer s H E m ds d hr h => ?_)
  · obtain ⟨x, y, rfl, rfl⟩ := h
    rfl
  obtain ⟨x, y, rfl, rfl⟩ := h
  refine ss_ret (pd_and (pd_call (c_is_list T) hr (by decide) rfl (pl_cons (pd_var 0) pl_nil) (by exact rel_is_list)) (fun _ => pd_and (pd_eq hr.units (pd_lenT (pd_var 0) rfl T.f_len) pd_int (by walk_at "sh") (by walk_at "sh")) (fun _ => pd_one (pd_all (bs := [true, true]) rfl
    (PLc.pd <| plc_T (own := [("each", 1)]) (ds := [num x, num y]) (rs := [.bool true, .bool true]) (.one 1) rfl sc_is_point.nd (pd_var 0) (blkOk_by (N := ["value", "each"]) (sc := defScope (top 12)) (by decide +kernel)) (show 1 ∈ [1] by decide) (fun _ _ => trivial) (Nat.le_of_ble_eq_true rfl) rfl (fun _ _ _ _ _ => pg_name sc_is_point.nd rfl (Or.inl rfl))
      (fun s H C cl fp i x' y' D acc hx hy => ?_)) rfl T.f_all)))) (fun _ e => e.trans rfl)
  match i, hx, hy with
  | 0, hx, hy => cases hx; cases hy; exact (pd_call (c_is_number T) hr (by decide) rfl (pl_cons (pd_var 1) pl_nil) (by exact rel_is_number))
  | 1, hx, hy => cases hx; cases hy; exact (pd_call (c_is_number T) hr (by decide) rfl (pl_cons (pd_var 1) pl_nil) (by exact rel_is_number))
  | _ + 2, hx, hy => cases hx
theorem sc_kept : FnScope ["number"] ["number"] (defScope (top 13)) := ⟨rfl, rfl, rfl, by decide +kernel, rfl, by decide +kernel, by decide +kernel⟩
theorem c_kept (T : Txt K mg) : C8.Cal P w K mg base 1 "kept" (spP K R_kept) [] := by
  refine okP T.t_kept sc_kept (fun _ _ _ _ _ _ us hl => match us, hl with | [_], _ => rfl) (fun ds d h => ?_) (fun f cdv A outer s H E m ds d hr h => ?_)
  · obtain ⟨r, rfl, rfl⟩ := h
    rfl
  obtain ⟨r, rfl, rfl⟩ := h
  rcases num_cases r with ⟨e, _⟩ | ⟨e, _⟩
  all_goals rw [e]
  · exact ss_ret (pd_if (pb_val (pd_isi2 (T1 := "list") (T2 := "tuple") (pd_var 0) rfl T.f_isinstance rfl T.f_list (by decide +kernel) (k_list _) rfl T.f_tuple (by decide +kernel) (k_tuple _))) (fun hc => by cases hc) (fun hc => pd_var 0)) (fun _ z => z)
  · exact ss_ret (pd_if (pb_val (pd_isi2 (T1 := "list") (T2 := "tuple") (pd_var 0) rfl T.f_isinstance rfl T.f_list (by decide +kernel) (k_list _) rfl T.f_tuple (by decide +kernel) (k_tuple _))) (fun hc => (pd_tupT (pd_var 0) rfl T.f_tuple)) (fun hc => by cases hc)) (fun _ z => z)
theorem sc_kept_row : FnScope ["row", "each"] ["row"] (defScope (top 14)) := ⟨rfl, rfl, rfl, by decide +kernel, rfl, by decide +kernel, by decide +kernel⟩
theorem c_kept_row (T : Txt K mg) : C8.Cal P w K mg base 2 "kept_row" (spP K R_kept_row) [] := by
  refine okP T.t_kept_row sc_kept_row (fun _ _ _ _ _ _ us hl => match us, hl with | [_], _ => rfl) (fun ds d h => ?_) (fun f cdv A outer s H E m ds d hr h => ?_)
  · obtain ⟨x, y, rfl, rfl⟩ := h
    rfl
  obtain ⟨x, y, rfl, rfl⟩ := h
  refine ss_ret (pd_tupL (PLc.pd <| plc_T (own := [("each", 1)]) (ds := [num x, num y]) (rs := [num x, num y]) (.one 1) rfl sc_kept_row.nd (pd_var 0) (blkOk_by (N := ["row", "each"]) (sc := defScope (top 14)) (by decide +kernel)) (show 1 ∈ [1] by decide) (fun _ _ => trivial) (Nat.le_of_ble_eq_true rfl) rfl (fun _ _ _ _ _ => pg_name sc_kept_row.nd rfl (Or.inl rfl))
      (fun s H C cl fp i x' y' D acc hx hy => ?_)) rfl T.f_tuple) (fun _ e => e)
  match i, hx, hy with
  | 0, hx, hy => cases hx; cases hy; exact (pd_call (c_kept T) hr (by decide) rfl (pl_cons (pd_var 1) pl_nil) (by exact rel_kept))
  | 1, hx, hy => cases hx; cases hy; exact (pd_call (c_kept T) hr (by decide) rfl (pl_cons (pd_var 1) pl_nil) (by exact rel_kept))
  | _ + 2, hx, hy => cases hx
theorem sc_halves : FnScope ["number"] ["number"] (defScope (top 19)) := ⟨rfl, rfl, rfl, by decide +kernel, rfl, by decide +kernel, by decide +kernel⟩
theorem c_halves (T : Txt K mg) : C8.Cal P w K mg base 1 "halves" (spP K R_halves) [] := by
  refine okP T.t_halves sc_halves (fun _ _ _ _ _ _ us hl => match us, hl with | [_], _ => rfl) (fun ds d h => ?_) (fun f cdv A outer s H E m ds d hr h => ?_)
  · obtain ⟨r, rfl, rfl⟩ := h
    rfl
  obtain ⟨r, rfl, rfl⟩ := h
  rcases num_cases r with ⟨e, h1⟩ | ⟨e, _⟩
  all_goals rw [e]
  · exact ss_ret (pd_if (pb_val (pd_isi (T := "int") (pd_var 0) rfl T.f_isinstance rfl T.f_int (by decide +kernel) (k_int _))) (fun hc => pd_tup (pl_cons (pd_var 0) (pl_cons pd_int pl_nil))) (fun hc => by cases hc)) (fun _ z => z.trans (by rw [h1]; rfl))
  · exact ss_ret (pd_if (pb_val (pd_isi (T := "int") (pd_var 0) rfl T.f_isinstance rfl T.f_int (by decide +kernel) (k_int _))) (fun hc => by cases hc) (fun hc => (pd_tup (pl_cons (pd_ixT (pd_var 0) pd_int) (pl_cons (pd_ixT (pd_var 0) pd_int) pl_nil))))) (fun _ z => z)
theorem sc_lowest : FnScope ["above", "under", "part"] ["above", "under"] (defScope (top 20)) := ⟨rfl, rfl, rfl, by decide +kernel, rfl, by decide +kernel, by decide +kernel⟩
theorem c_lowest (T : Txt K mg) : C8.Cal P w K mg base 2 "lowest" (spP K R_lowest) [] := by
  refine okP T.t_lowest sc_lowest (fun _ _ _ _ _ _ us hl => match us, hl with | [_, _], _ => rfl) (fun ds d h => ?_) (fun f cdv A outer s H E m ds d hr h => ?_)
  · obtain ⟨p, q, n, rfl, hq, hb, hn, rfl⟩ := h
    rfl
  obtain ⟨p, q, n, rfl, hq, hb, hn, rfl⟩ := h
  have hg0 : 0 < (Int.gcd p q : Int) := by
    have : 0 < Int.gcd p q := Int.gcd_pos_of_ne_zero_right _ (by omega)
    omega
  have hgb : ((Int.gcd p q : Int)).natAbs < 2 ^ n := by
    have : Int.gcd p q ≤ q.natAbs := Nat.gcd_le_right _ (by omega)
    omega
  have hd : CDivW p (Int.gcd p q : Int) := ⟨hg0, Nat.lt_of_lt_of_le (Nat.log2_lt (by omega) |>.mpr (bd_mono hgb hn)) (by decide)⟩
  have hd2 : CDivW q (Int.gcd p q : Int) := ⟨hg0, hd.2⟩
  refine ss_set1 2 (pd_call (c_common T) hr (by decide) rfl (pl_cons (pd_var 0) (pl_cons (pd_var 1) pl_nil)) (by exact rel_common)) ?_ sc_lowest.nd
  refine ss_set1 2 (pd_if (pb_lt (pd_var 1) pd_int) (fun hc => absurd (of_decide_eq_true hc) (by omega)) (fun hc => pd_var 2)) ?_ sc_lowest.nd
  refine ss_par 0 1 rfl sc_lowest.nd (pl_cons (pd_div (pd_var 0) (pd_var 2) hd) (pl_cons (pd_div (pd_var 1) (pd_var 2) hd2) pl_nil)) ?_
  refine ss_ret (S := Is (num ((p : Rat) / (q : Rat)))) ?_ (fun _ z => z)
  rw [num_frac p q hq]
  by_cases hc : q / (Int.gcd p q : Int) = 1
  · rw [if_pos hc]
    exact pd_if (pb_eq hr.units (pd_var 1) pd_int (by walk_at "sh") (by walk_at "sh")) (fun _ => pd_var 0) (fun h => by simp [PyData.eqv, hc] at h)
  · rw [if_neg hc]
    exact pd_if (pb_eq hr.units (pd_var 1) pd_int (by walk_at "sh") (by walk_at "sh")) (fun h => absurd (by simpa [PyData.eqv] using h) hc) (fun _ => pd_tup (pl_cons (pd_var 0) (pl_cons (pd_var 1) pl_nil)))
theorem sc_added : FnScope ["one", "other", "above", "under", "its", "below_it"] ["one", "other"] (defScope (top 21)) := ⟨rfl, rfl, rfl, by decide +kernel, rfl, by decide +kernel, by decide +kernel⟩
theorem c_added (T : Txt K mg) : C8.Cal P w K mg base 3 "added" (spP K R_added) [] := by
  refine okP T.t_added sc_added (fun _ _ _ _ _ _ us hl => match us, hl with | [_, _], _ => rfl) (fun ds d h => ?_) (fun f cdv A outer s H E m ds d hr h => ?_)
  · obtain ⟨x, y, n, m', rfl, hx, hy, hnm, hC, rfl⟩ := h
    rfl
  obtain ⟨x, y, n, m', rfl, hx, hy, hnm, hC, rfl⟩ := h
  refine ss_asg (pd_tup (pl_cons (pd_call (c_halves T) hr (by decide) rfl (pl_cons (pd_var 0) pl_nil) (by exact rel_halves)) (pl_cons (pd_call (c_halves T) hr (by decide) rfl (pl_cons (pd_var 1) pl_nil) (by exact rel_halves)) pl_nil))) (g_tup rfl (g_cons (g_tup rfl (g_cons (g_name 2 sc_added.nd) (g_cons (g_name 3 sc_added.nd) g_nil))) (g_cons (g_tup rfl (g_cons (g_name 4 sc_added.nd) (g_cons (g_name 5 sc_added.nd) g_nil))) g_nil))) ?_
  exact ss_ret (pd_call (c_lowest T) hr (by decide) rfl (pl_cons (pd_add (pd_mul (pd_var 2) (pd_var 5) (by walk_at "cm")) (pd_mul (pd_var 4) (pd_var 3) (by walk_at "cm"))) (pl_cons (pd_mul (pd_var 3) (pd_var 5) (by walk_at "cm")) pl_nil)) (by exact (rel_lowest (Int.mul_pos (den_pos x) (den_pos y)) (mul_bd (nd_bd hx.dn) (nd_bd hy.dn)) (by omega)))) (fun _ z => z.trans (by rw [add_frac]))
theorem sc_turned : FnScope ["number", "above", "under"] ["number"] (defScope (top 22)) := ⟨rfl, rfl, rfl, by decide +kernel, rfl, by decide +kernel, by decide +kernel⟩
theorem c_turned (T : Txt K mg) : C8.Cal P w K mg base 2 "turned" (spP K R_turned) [] := by
  refine okP T.t_turned sc_turned (fun _ _ _ _ _ _ us hl => match us, hl with | [_], _ => rfl) (fun ds d h => ?_) (fun f cdv A outer s H E m ds d hr h => ?_)
  · obtain ⟨x, rfl, rfl⟩ := h
    rfl
  obtain ⟨x, rfl, rfl⟩ := h
  refine ss_asg (pd_call (c_halves T) hr (by decide) rfl (pl_cons (pd_var 0) pl_nil) (by exact rel_halves)) (g_tup rfl (g_cons (g_name 1 sc_turned.nd) (g_cons (g_name 2 sc_turned.nd) g_nil))) ?_
  refine ss_ret (S := Is (num (-x))) ?_ (fun _ z => z)
  rw [num_neg]
  by_cases hc : x.den = 1
  · rw [if_pos hc]
    exact pd_if (pb_eq hr.units (pd_var 2) pd_int (by walk_at "sh") (by walk_at "sh")) (fun _ => pd_neg (pd_var 1)) (fun h => by simp [PyData.eqv, hc] at h)
  · rw [if_neg hc]
    exact pd_if (pb_eq hr.units (pd_var 2) pd_int (by walk_at "sh") (by walk_at "sh")) (fun h => absurd (by simpa [PyData.eqv] using h) (show ¬ (x.den : Int) = 1 by omega)) (fun _ => pd_tup (pl_cons (pd_neg (pd_var 1)) (pl_cons (pd_var 2) pl_nil)))
theorem sc_less_by : FnScope ["one", "other"] ["one", "other"] (defScope (top 23)) := ⟨rfl, rfl, rfl, by decide +kernel, rfl, by decide +kernel, by decide +kernel⟩
theorem c_less_by (T : Txt K mg) : C8.Cal P w K mg base 4 "less_by" (spP K R_less_by) [] := by
  refine okP T.t_less_by sc_less_by (fun _ _ _ _ _ _ us hl => match us, hl with | [_, _], _ => rfl) (fun ds d h => ?_) (fun f cdv A outer s H E m ds d hr h => ?_)
  · obtain ⟨x, y, n, m', rfl, hx, hy, hnm, hC, rfl⟩ := h
    rfl
  obtain ⟨x, y, n, m', rfl, hx, hy, hnm, hC, rfl⟩ := h
  exact ss_ret (pd_call (c_added T) hr (by decide) rfl (pl_cons (pd_var 0) (pl_cons (pd_call (c_turned T) hr (by decide) rfl (pl_cons (pd_var 1) pl_nil) (by exact rel_turned)) pl_nil)) (by exact (rel_added (h := hnm)))) (fun _ z => z.trans (by rw [← Rat.sub_eq_add_neg]))
theorem sc_product : FnScope ["one", "other", "above", "under", "its", "below_it"] ["one", "other"] (defScope (top 24)) := ⟨rfl, rfl, rfl, by decide +kernel, rfl, by decide +kernel, by decide +kernel⟩
theorem c_product (T : Txt K mg) : C8.Cal P w K mg base 3 "product" (spP K R_product) [] := by
  refine okP T.t_product sc_product (fun _ _ _ _ _ _ us hl => match us, hl with | [_, _], _ => rfl) (fun ds d h => ?_) (fun f cdv A outer s H E m ds d hr h => ?_)
  · obtain ⟨x, y, n, m', rfl, hx, hy, hnm, hC, rfl⟩ := h
    rfl
  obtain ⟨x, y, n, m', rfl, hx, hy, hnm, hC, rfl⟩ := h
  refine ss_asg (pd_tup (pl_cons (pd_call (c_halves T) hr (by decide) rfl (pl_cons (pd_var 0) pl_nil) (by exact rel_halves)) (pl_cons (pd_call (c_halves T) hr (by decide) rfl (pl_cons (pd_var 1) pl_nil) (by exact rel_halves)) pl_nil))) (g_tup rfl (g_cons (g_tup rfl (g_cons (g_name 2 sc_product.nd) (g_cons (g_name 3 sc_product.nd) g_nil))) (g_cons (g_tup rfl (g_cons (g_name 4 sc_product.nd) (g_cons (g_name 5 sc_product.nd) g_nil))) g_nil))) ?_
  exact ss_ret (pd_call (c_lowest T) hr (by decide) rfl (pl_cons (pd_mul (pd_var 2) (pd_var 4) (by walk_at "cm")) (pl_cons (pd_mul (pd_var 3) (pd_var 5) (by walk_at "cm")) pl_nil)) (by exact (rel_lowest (Int.mul_pos (den_pos x) (den_pos y)) (mul_bd (nd_bd hx.dn) (nd_bd hy.dn)) (by omega)))) (fun _ z => z.trans (by rw [mul_frac]))
theorem sc_part_by : FnScope ["one", "other", "above", "under", "its", "below_it"] ["one", "other"] (defScope (top 25)) := ⟨rfl, rfl, rfl, by decide +kernel, rfl, by decide +kernel, by decide +kernel⟩
theorem c_part_by (T : Txt K mg) : C8.Cal P w K mg base 3 "part_by" (spP K R_part_by) [] := by
  refine okP T.t_part_by sc_part_by (fun _ _ _ _ _ _ us hl => match us, hl with | [_, _], _ => rfl) (fun ds d h => ?_) (fun f cdv A outer s H E m ds d hr h => ?_)
  · obtain ⟨x, y, n, m', rfl, hx, hy, hnm, hC, rfl⟩ := h
    rfl
  obtain ⟨x, y, n, m', rfl, hx, hy, hnm, hC, rfl⟩ := h
  refine ss_asg (pd_tup (pl_cons (pd_call (c_halves T) hr (by decide) rfl (pl_cons (pd_var 0) pl_nil) (by exact rel_halves)) (pl_cons (pd_call (c_halves T) hr (by decide) rfl (pl_cons (pd_var 1) pl_nil) (by exact rel_halves)) pl_nil))) (g_tup rfl (g_cons (g_tup rfl (g_cons (g_name 2 sc_part_by.nd) (g_cons (g_name 3 sc_part_by.nd) g_nil))) (g_cons (g_tup rfl (g_cons (g_name 4 sc_part_by.nd) (g_cons (g_name 5 sc_part_by.nd) g_nil))) g_nil))) ?_
  exact ss_ret (pd_call (c_lowest T) hr (by decide) rfl (pl_cons (pd_mul (pd_var 2) (pd_var 5) (by walk_at "cm")) (pl_cons (pd_mul (pd_var 3) (pd_var 4) (by walk_at "cm")) pl_nil)) (by exact (rel_lowest (Int.mul_pos (den_pos x) (num_pos hC)) (mul_bd (nd_bd hx.dn) hy.up) (by omega)))) (fun _ z => z.trans (by rw [div_frac x y (fun e => by rw [e] at hC; exact absurd hC (by decide))]))
theorem sc_below : FnScope ["one", "other", "above", "under", "its", "below_it"] ["one", "other"] (defScope (top 26)) := ⟨rfl, rfl, rfl, by decide +kernel, rfl, by decide +kernel, by decide +kernel⟩
theorem c_below (T : Txt K mg) : C8.Cal P w K mg base 2 "below" (spP K R_below) [] := by
  refine okP T.t_below sc_below (fun _ _ _ _ _ _ us hl => match us, hl with | [_, _], _ => rfl) (fun ds d h => ?_) (fun f cdv A outer s H E m ds d hr h => ?_)
  · obtain ⟨x, y, n, m', rfl, hx, hy, hnm, rfl⟩ := h
    rfl
  obtain ⟨x, y, n, m', rfl, hx, hy, hnm, rfl⟩ := h
  refine ss_asg (pd_tup (pl_cons (pd_call (c_halves T) hr (by decide) rfl (pl_cons (pd_var 0) pl_nil) (by exact rel_halves)) (pl_cons (pd_call (c_halves T) hr (by decide) rfl (pl_cons (pd_var 1) pl_nil) (by exact rel_halves)) pl_nil))) (g_tup rfl (g_cons (g_tup rfl (g_cons (g_name 2 sc_below.nd) (g_cons (g_name 3 sc_below.nd) g_nil))) (g_cons (g_tup rfl (g_cons (g_name 4 sc_below.nd) (g_cons (g_name 5 sc_below.nd) g_nil))) g_nil))) ?_
  exact ss_ret (pd_lt (pd_mul (pd_var 2) (pd_var 5) (by walk_at "cm")) (pd_mul (pd_var 4) (pd_var 3) (by walk_at "cm"))) (fun _ z => z.trans (by rw [decide_eq_decide.mpr (Rat.lt_iff x y)]))
theorem sc_sign_in : FnScope ["number", "above"] ["number"] (defScope (top 27)) := ⟨rfl, rfl, rfl, by decide +kernel, rfl, by decide +kernel, by decide +kernel⟩
theorem c_sign_in (T : Txt K mg) : C8.Cal P w K mg base 2 "sign_in" (spP K R_sign_in) [] := by
  refine okP T.t_sign_in sc_sign_in (fun _ _ _ _ _ _ us hl => match us, hl with | [_], _ => rfl) (fun ds d h => ?_) (fun f cdv A outer s H E m ds d hr h => ?_)
  · obtain ⟨x, rfl, hx, rfl⟩ := h
    rfl
  obtain ⟨x, rfl, hx, rfl⟩ := h
  have h0 := ratpos hx
  refine ss_set1 1 (pd_ixT (pd_call (c_halves T) hr (by decide) rfl (pl_cons (pd_var 0) pl_nil) (by exact rel_halves)) pd_int) ?_ sc_sign_in.nd
  exact ss_ret (pd_sub (pd_toIntB (pd_gt (pd_var 1) pd_int) rfl T.f_int) (pd_toIntB (pd_lt (pd_var 1) pd_int) rfl T.f_int)) (fun _ z => z.trans (by
    have e : decide (x.num < 0) = false := decide_eq_false (by omega)
    rw [e]
    by_cases h : 0 < x.num
    · rw [decide_eq_true h, if_pos h]; rfl
    · rw [decide_eq_false h, if_neg h]; rfl))
theorem sc_square : FnScope ["number"] ["number"] (defScope (top 28)) := ⟨rfl, rfl, rfl, by decide +kernel, rfl, by decide +kernel, by decide +kernel⟩
theorem c_square (T : Txt K mg) : C8.Cal P w K mg base 4 "square" (spP K R_square) [] := by
  refine okP T.t_square sc_square (fun _ _ _ _ _ _ us hl => match us, hl with | [_], _ => rfl) (fun ds d h => ?_) (fun f cdv A outer s H E m ds d hr h => ?_)
  · obtain ⟨x, n, rfl, hx, hn, rfl⟩ := h
    rfl
  obtain ⟨x, n, rfl, hx, hn, rfl⟩ := h
  exact ss_ret (pd_call (c_product T) hr (by decide) rfl (pl_cons (pd_var 0) (pl_cons (pd_var 0) pl_nil)) (by exact (rel_product (h := hn)))) (fun _ z => z)
theorem sc_root_in : FnScope ["number", "above", "under", "high", "low"] ["number"] (defScope (top 29)) := ⟨rfl, rfl, rfl, by decide +kernel, rfl, by decide +kernel, by decide +kernel⟩
theorem c_root_in (T : Txt K mg) : C8.Cal P w K mg base 3 "root_in" (spP K R_root_in) [] := by
  refine okP T.t_root_in sc_root_in (fun _ _ _ _ _ _ us hl => match us, hl with | [_], _ => rfl) (fun ds d h => ?_) (fun f cdv A outer s H E m ds d hr h => ?_)
  · obtain ⟨x, n, rfl, h0, hx, hn, rfl⟩ := h
    rfl
  obtain ⟨x, n, rfl, h0, hx, hn, rfl⟩ := h
  have hn0 := ratpos h0
  have hd0 := den_pos x
  have r1 := rt_abs hn0 hx.up
  have r2 := rt_abs (Int.le_of_lt hd0) (nd_bd hx.dn)
  refine ss_asg (pd_call (c_halves T) hr (by decide) rfl (pl_cons (pd_var 0) pl_nil) (by exact rel_halves)) (g_tup rfl (g_cons (g_name 1 sc_root_in.nd) (g_cons (g_name 2 sc_root_in.nd) g_nil))) ?_
  refine ss_par 3 4 rfl sc_root_in.nd (pl_cons (pd_isqrt (pd_var 1) hn0 hx.up (by omega) rfl T.q_isqrt) (pl_cons (pd_isqrt (pd_var 2) (Int.le_of_lt hd0) (nd_bd hx.dn) (by omega) rfl T.q_isqrt) pl_nil)) ?_
  refine ss_ret (S := Is (rootD x)) ?_ (fun _ z => z)
  unfold rootD sqr
  by_cases hc : rt x.num * rt x.num = x.num ∧ rt x.den * rt x.den = x.den
  · rw [if_pos hc]
    have hl : 0 < rt x.den := by
      have h1 := (rt_le (Int.le_of_lt hd0)).1
      rcases Int.lt_or_eq_of_le h1 with h | h
      · exact h
      · rw [← h] at hc
        have := hc.2
        omega
    exact pd_if (pb_w (pbw_and (pb_eq hr.units (pd_mul (pd_var 3) (pd_var 3) (by walk_at "cm")) (pd_var 1) (by walk_at "sh") (by walk_at "sh")) (fun _ => (pbw_and1 (pb_eq hr.units (pd_mul (pd_var 4) (pd_var 4) (by walk_at "cm")) (pd_var 2) (by walk_at "sh") (by walk_at "sh")))))) (fun _ => pd_call (c_lowest T) hr (by decide) rfl (pl_cons (pd_var 3) (pl_cons (pd_var 4) pl_nil)) (rel_lowest hl r2 (by omega))) (fun h => by simp [PyData.eqv, hc.1, hc.2] at h)
  · rw [if_neg hc]
    exact pd_if (pb_w (pbw_and (pb_eq hr.units (pd_mul (pd_var 3) (pd_var 3) (by walk_at "cm")) (pd_var 1) (by walk_at "sh") (by walk_at "sh")) (fun _ => (pbw_and1 (pb_eq hr.units (pd_mul (pd_var 4) (pd_var 4) (by walk_at "cm")) (pd_var 2) (by walk_at "sh") (by walk_at "sh")))))) (fun h => absurd (by simpa [PyData.eqv] using h) hc) (fun _ => pd_non)
end
end Cv

set_option Elab.async false
set_option linter.all false
set_option maxRecDepth 100000
set_option maxHeartbeats 4000000
namespace Cv
open PySem PySem.Spec PyProof.Rows L2


/-! ### places -/
structure Pl where
  px : Rat
  py : Rat
  ax : Rat
  ay : Rat
  r : Rat
def Pl.d (p : Pl) : PyData := .tuple [pt p.px p.py, pt p.ax p.ay, num p.r]
/-- the one form of a point gone on by an aside times the root of a number -/
def plX (ax ay : Rat) : Int := ax.num * (ay.den : Int)
def plY (ax ay : Rat) : Int := ay.num * (ax.den : Int)
def plG (ax ay : Rat) : Int := (Int.gcd (plX ax ay) (plY ax ay) : Int)
def plN (px py ax ay r : Rat) : Pl :=
  if r = 0 ∨ (ax = 0 ∧ ay = 0) then ⟨px, py, 0, 0, 0⟩ else match sqr r with
    | some w => ⟨px + ax * w, py + ay * w, 0, 0, 0⟩
    | none => ⟨px, py, ((plX ax ay / plG ax ay : Int) : Rat), ((plY ax ay / plG ax ay : Int) : Rat), r * ((plG ax ay : Rat) / (((ax.den : Int) * (ay.den : Int) : Int) : Rat) * ((plG ax ay : Rat) / (((ax.den : Int) * (ay.den : Int) : Int) : Rat)))⟩
theorem num0 : num 0 = .int 0 := num_int 0
theorem pt00 : pt 0 0 = .tuple [.int 0, .int 0] := by simp only [pt, num0]
theorem pt_lay (x y : Rat) : (pt x y).canLay0 = true := by simp [PyData.canLay0, PyData.canLayAll0, num_lay]
theorem pt_depth (x y : Rat) : (pt x y).depth ≤ 2 := by
  have h1 := num_depth x
  have h2 := num_depth y
  simp only [PyData.depth, PyData.depthAll]
  omega
theorem pt_shaped (x y : Rat) : SeqAt.shaped (pt x y) = true := shp (pt_lay x y) (Nat.le_trans (pt_depth x y) (by decide))
theorem pl_shaped (p : Pl) : SeqAt.shaped p.d = true := by
  have h1 := pt_depth p.px p.py
  have h2 := pt_depth p.ax p.ay
  have h3 := num_depth p.r
  refine shp ?_ ?_
  · unfold Pl.d
    simp only [PyData.canLay0, PyData.canLayAll0, num_lay, Bool.and_true]
  · unfold Pl.d
    simp only [PyData.depth, PyData.depthAll] at *
    omega
theorem eqv_pt (a b c e : Rat) : PyData.eqv (pt a b) (pt c e) = (decide (a = c) && decide (b = e)) := by
  simp only [PyData.eqv, PyData.eqvAll, num_eqv, Bool.and_true]
theorem eqv_pt0 (a b : Rat) : PyData.eqv (pt a b) (.tuple [.int 0, .int 0]) = (decide (a = 0) && decide (b = 0)) := by rw [← pt00, eqv_pt]
theorem eqv_n0 (a : Rat) : PyData.eqv (num a) (.int 0) = decide (a = 0) := by rw [← num0, num_eqv]
theorem eqv_n1 (a : Rat) : PyData.eqv (num a) (.int 1) = decide (a = 1) := by rw [← num_int 1, num_eqv]; rfl
theorem half_pow {a k : Nat} {n : Nat} (h : a * a < 2 ^ n) (hk : n ≤ k + k) : a < 2 ^ k := by
  rcases Nat.lt_or_ge a (2 ^ k) with c | c
  · exact c
  · exfalso
    have h1 : 2 ^ k * 2 ^ k ≤ a * a := Nat.mul_le_mul c c
    have h2 : 2 ^ n ≤ 2 ^ k * 2 ^ k := by
      rw [← Nat.pow_add]
      exact Nat.pow_le_pow_right (by decide) hk
    omega
theorem sqr_eq {r w : Rat} (h0 : 0 ≤ r) (h : sqr r = some w) : w * w = r ∧ 0 ≤ w := by
  unfold sqr at h
  by_cases c : rt r.num * rt r.num = r.num ∧ rt r.den * rt r.den = r.den
  · rw [if_pos c] at h
    have e := Option.some.inj h
    subst e
    have hn0 := ratpos h0
    have hd0 := den_pos r
    have r1 := rt_le hn0
    have r2 := rt_le (Int.le_of_lt hd0)
    have hb : 0 < rt r.den := by
      rcases Int.lt_or_eq_of_le r2.1 with h | h
      · exact h
      · rw [← h] at c
        have := c.2
        omega
    constructor
    · have e1 : (rt r.num : Rat) * (rt r.num : Rat) = (r.num : Rat) := by rw [← Rat.intCast_mul, c.1]
      have e2 : (rt r.den : Rat) * (rt r.den : Rat) = ((r.den : Int) : Rat) := by rw [← Rat.intCast_mul, c.2]
      have hr := rat_nd r
      have h1 := den_ne r
      generalize (rt r.num : Rat) = a at *
      generalize (rt r.den : Rat) = b at *
      rw [← e1, ← e2] at hr
      rw [← e2] at h1
      rw [← hr]
      have hb0 : b ≠ 0 := fun z => h1 (by rw [z, Rat.zero_mul])
      grind
    · rw [frac_eq _ _ hb]
      have := Rat.divInt_nonneg (a := rt r.num) (b := rt r.den) r1.1 (Int.le_of_lt hb)
      rw [Rat.divInt_eq_div] at this
      rw [← frac_eq _ _ hb]
      exact this
  · rw [if_neg c] at h
    cases h
theorem sqr_bd {r w : Rat} {n k : Nat} (h0 : 0 ≤ r) (b : Bd r n) (hk : n ≤ k + k) (h : sqr r = some w) : Bd w k := by
  unfold sqr at h
  by_cases c : rt r.num * rt r.num = r.num ∧ rt r.den * rt r.den = r.den
  · rw [if_pos c] at h
    have e := Option.some.inj h
    subst e
    have hn0 := ratpos h0
    have hd0 := den_pos r
    have r1 := rt_le hn0
    have r2 := rt_le (Int.le_of_lt hd0)
    have hb : 0 < rt r.den := by
      rcases Int.lt_or_eq_of_le r2.1 with h | h
      · exact h
      · rw [← h] at c
        have := c.2
        omega
    refine bd_frac hb (half_pow (n := n) ?_ hk) (half_pow (n := n) ?_ hk)
    · rw [← Int.natAbs_mul, c.1]
      exact b.up
    · rw [← Int.natAbs_mul, c.2]
      exact nd_bd b.dn
  · rw [if_neg c] at h
    cases h
theorem sqr_zero : sqr 0 = some 0 := by decide +kernel
theorem plG_pos {ax ay : Rat} (h : ¬ (ax = 0 ∧ ay = 0)) : 0 < plG ax ay := by
  unfold plG
  have : Int.gcd (plX ax ay) (plY ax ay) ≠ 0 := fun e => h (by
    obtain ⟨h1, h2⟩ := Int.gcd_eq_zero_iff.mp e
    unfold plX at h1
    unfold plY at h2
    have d1 := den_pos ax
    have d2 := den_pos ay
    rcases Int.mul_eq_zero.mp h1 with z | z
    · rcases Int.mul_eq_zero.mp h2 with z2 | z2
      · exact ⟨Rat.num_eq_zero.mp z, Rat.num_eq_zero.mp z2⟩
      · omega
    · omega)
  omega
theorem plG_bd {ax ay : Rat} {n m : Nat} (a : Bd ax n) (b : Bd ay m) (h : ¬ (ax = 0 ∧ ay = 0)) : (plG ax ay).natAbs < 2 ^ (n + m) := by
  have h1 : (plX ax ay).natAbs < 2 ^ (n + m) := mul_bd a.up (nd_bd b.dn)
  have h2 : (plY ax ay).natAbs < 2 ^ (n + m) := by
    rw [Nat.add_comm]
    exact mul_bd b.up (nd_bd a.dn)
  have hg := plG_pos h
  unfold plG at *
  by_cases hx : plX ax ay = 0
  · have hy : plY ax ay ≠ 0 := fun e => by
      rw [hx, e] at hg
      exact absurd hg (by decide)
    have := Nat.gcd_le_right (plX ax ay).natAbs (by omega : 0 < (plY ax ay).natAbs)
    have e : Int.gcd (plX ax ay) (plY ax ay) = Nat.gcd (plX ax ay).natAbs (plY ax ay).natAbs := rfl
    omega
  · have := Nat.gcd_le_left (plY ax ay).natAbs (by omega : 0 < (plX ax ay).natAbs)
    have e : Int.gcd (plX ax ay) (plY ax ay) = Nat.gcd (plX ax ay).natAbs (plY ax ay).natAbs := rfl
    omega
structure PlB (px py ax ay r : Rat) (n1 n2 n3 : Nat) : Prop where
  r0 : 0 ≤ r
  b1 : Bd px n1
  b2 : Bd py n1
  b3 : Bd ax n2
  b4 : Bd ay n2
  b5 : Bd r n3
  h : 2 * n1 + 2 * n2 + n3 ≤ 7900 ∧ 8 * n2 + n3 ≤ 7900
def R_placed : List PyData → PyData → Prop := fun ds d => ∃ (px py ax ay r : Rat) (n1 n2 n3 : Nat), ds = [pt px py, pt ax ay, num r] ∧ PlB px py ax ay r n1 n2 n3 ∧ d = (plN px py ax ay r).d
def R_place_of := R_placed
theorem rel_place_of {p q e : PyData} {px py ax ay r : Rat} {n1 n2 n3 : Nat} [hp : IsPt p px py] [hq : IsPt q ax ay] [he : IsNum e r] (h : PlB px py ax ay r n1 n2 n3) : R_place_of [p, q, e] (plN px py ax ay r).d := ⟨px, py, ax, ay, r, n1, n2, n3, by rw [hp.eq, hq.eq, he.eq], h, rfl⟩
def R_need_point : List PyData → PyData → Prop := fun ds d => ∃ (x y : Rat) (s : Str), ds = [pt x y, .str s] ∧ d = pt x y
theorem rel_need_point {p : PyData} {x y : Rat} {s : Str} [hp : IsPt p x y] : R_need_point [p, .str s] (pt x y) := ⟨x, y, s, by rw [hp.eq], rfl⟩
def R_root_over : List PyData → PyData → Prop := fun ds d => ∃ (h p : Rat) (n m : Nat), ds = [num h, num p] ∧ Bd h n ∧ Bd p m ∧ n + 3 * m + 20 ≤ 8000 ∧ d = num (h * p - (1 + p) * (1/2) * ((1 + p) * (1/2)))
theorem rel_root_over {p q : PyData} {a b : Rat} {n m : Nat} [hp : IsNum p a] [hq : IsNum q b] [b1 : Bd a n] [b2 : Bd b m] (h : n + 3 * m + 20 ≤ 8000 := by decide) : R_root_over [p, q] (num (a * b - (1 + b) * (1/2) * ((1 + b) * (1/2)))) := ⟨a, b, n, m, by rw [hp.eq, hq.eq], b1, b2, h, rfl⟩
def R_pins_of : List PyData → PyData → Prop := fun ds d => ∃ (h f : Rat) (n m : Nat), ds = [num h, num f] ∧ Bd h n ∧ Bd f m ∧ n + m + 10 ≤ 8000 ∧ d = .tuple [pt (h - f) 0, pt (h - f * (1/2)) 0]
theorem rel_pins_of {p q : PyData} {a b : Rat} {n m : Nat} [hp : IsNum p a] [hq : IsNum q b] [b1 : Bd a n] [b2 : Bd b m] (h : n + m + 10 ≤ 8000 := by decide) : R_pins_of [p, q] (.tuple [pt (a - b) 0, pt (a - b * (1/2)) 0]) := ⟨a, b, n, m, by rw [hp.eq, hq.eq], b1, b2, h, rfl⟩
instance bdHalf : Bd (1/2) 2 := ⟨by decide +kernel, by decide +kernel⟩
theorem pd_oneshl {X : Cx} {m : Md} {g : List Sl} {a b : Expr} {pos : Pos} {k : Nat} (ha : PD X m g a (Is (.int 1))) (hb : PD X m g b (Is (.int (k : Int)))) (h : k ≤ 134217727) : PD X m g (.BinOp a .LShift b pos) (Is (.int (2 ^ k))) :=
  pd_bin2 (Qo := fun _ _ _ => True) (pe_op op_oneShl ha hb) fun x y u v H Q sx sy qx qy kk => by
    cases sx
    cases sy
    cases dp_int qx
    cases dp_int qy
    exact ⟨k, rfl, rfl, h, kk _ _ rfl fun _ => .int _⟩
theorem pd_bits {X : Cx} {m : Md} {g : List Sl} {o : Expr} {apos pos : Pos} {i : Int} (ho : PD X m g o (Is (.int i))) (hbase : attributeBase o "bit_length" X.env (eval o X.env) = eval o X.env := by rfl) (hline : (apos.endLine == pos.line) = true := by rfl) :
    PD X m g (.Call (.Attribute o "bit_length" apos) [] [] pos) (Is (.int (Builtin.Int.intBits i : Nat))) := PE.wk (pe_bits ho hbase hline) fun σ H Q ⟨o, k⟩ => ⟨o, fun u y H1 n1 s1 q1 => by
  cases s1
  cases dp_int q1
  exact ⟨i, rfl, k _ _ H1 n1 rfl (.int _)⟩⟩

local macro_rules | `(tactic| walk_at "nb") => `(tactic| (first | exact Bd.up | exact nd_bd Bd.dn | assumption | (apply mul_bd <;> walk_at "nb") | (apply add_bd <;> walk_at "nb")))
local macro_rules | `(tactic| walk_at "cm") => `(tactic| (apply mulx_ok; (walk_at "nb"); (walk_at "nb"); omega))
local macro_rules | `(tactic| walk_at "sh") => `(tactic| (first | exact num_shaped _ | exact shp_int _ | exact shp_int2 _ _ | exact shp_none))
local macro_rules | `(tactic| walk_at "sh") => `(tactic| (first | exact num_shaped _ | exact pt_shaped _ _ | exact pl_shaped _ | exact shp_int _ | exact shp_int2 _ _ | exact shp_none))
section
variable {P : Program} {w : World} {K : PySem.W.Frag} {mg : Str → Option Value} {base : Heap}

theorem sc_shifted : FnScope ["point", "other"] ["point", "other"] (defScope (top 32)) := ⟨rfl, rfl, rfl, by decide +kernel, rfl, by decide +kernel, by decide +kernel⟩
theorem c_shifted (T : Txt K mg) : C8.Cal P w K mg base 4 "shifted" (spP K R_shifted) [] := by
  refine okP T.t_shifted sc_shifted (fun _ _ _ _ _ _ us hl => match us, hl with | [_, _], _ => rfl) (fun ds d h => ?_) (fun f cdv A outer s H E m ds d hr h => ?_)
  · obtain ⟨a, b, c, e, n1, n2, n3, n4, rfl, b1, b2, b3, b4, h1, h2, rfl⟩ := h
    rfl
  obtain ⟨a, b, c, e, n1, n2, n3, n4, rfl, b1, b2, b3, b4, h1, h2, rfl⟩ := h
  exact ss_ret (pd_tup (pl_cons (pd_call (c_added T) hr (by decide) rfl (pl_cons (pd_ixT (pd_var 0) pd_int) (pl_cons (pd_ixT (pd_var 1) pd_int) pl_nil)) (by exact (rel_added (h := h1)))) (pl_cons (pd_call (c_added T) hr (by decide) rfl (pl_cons (pd_ixT (pd_var 0) pd_int) (pl_cons (pd_ixT (pd_var 1) pd_int) pl_nil)) (by exact (rel_added (h := h2)))) pl_nil))) (fun _ z => z)
theorem sc_moved : FnScope ["point", "other"] ["point", "other"] (defScope (top 38)) := ⟨rfl, rfl, rfl, by decide +kernel, rfl, by decide +kernel, by decide +kernel⟩
theorem c_moved (T : Txt K mg) : C8.Cal P w K mg base 4 "moved" (spP K R_moved) [] := by
  refine okP T.t_moved sc_moved (fun _ _ _ _ _ _ us hl => match us, hl with | [_, _], _ => rfl) (fun ds d h => ?_) (fun f cdv A outer s H E m ds d hr h => ?_)
  · obtain ⟨a, b, c, e, n1, n2, n3, n4, rfl, b1, b2, b3, b4, h1, h2, rfl⟩ := h
    rfl
  obtain ⟨a, b, c, e, n1, n2, n3, n4, rfl, b1, b2, b3, b4, h1, h2, rfl⟩ := h
  exact ss_ret (pd_tup (pl_cons (pd_call (c_added T) hr (by decide) rfl (pl_cons (pd_ixT (pd_var 0) pd_int) (pl_cons (pd_ixT (pd_var 1) pd_int) pl_nil)) (by exact (rel_added (h := h1)))) (pl_cons (pd_call (c_added T) hr (by decide) rfl (pl_cons (pd_ixT (pd_var 0) pd_int) (pl_cons (pd_ixT (pd_var 1) pd_int) pl_nil)) (by exact (rel_added (h := h2)))) pl_nil))) (fun _ z => z)
theorem sc_grown : FnScope ["point", "number"] ["point", "number"] (defScope (top 33)) := ⟨rfl, rfl, rfl, by decide +kernel, rfl, by decide +kernel, by decide +kernel⟩
theorem c_grown (T : Txt K mg) : C8.Cal P w K mg base 4 "grown" (spP K R_grown) [] := by
  refine okP T.t_grown sc_grown (fun _ _ _ _ _ _ us hl => match us, hl with | [_, _], _ => rfl) (fun ds d h => ?_) (fun f cdv A outer s H E m ds d hr h => ?_)
  · obtain ⟨a, b, k, n1, n2, n3, rfl, b1, b2, b3, h1, h2, rfl⟩ := h
    rfl
  obtain ⟨a, b, k, n1, n2, n3, rfl, b1, b2, b3, h1, h2, rfl⟩ := h
  exact ss_ret (pd_tup (pl_cons (pd_call (c_product T) hr (by decide) rfl (pl_cons (pd_ixT (pd_var 0) pd_int) (pl_cons (pd_var 1) pl_nil)) (by exact (rel_product (h := h1)))) (pl_cons (pd_call (c_product T) hr (by decide) rfl (pl_cons (pd_ixT (pd_var 0) pd_int) (pl_cons (pd_var 1) pl_nil)) (by exact (rel_product (h := h2)))) pl_nil))) (fun _ z => z)
theorem sc_scaled : FnScope ["point", "number"] ["point", "number"] (defScope (top 39)) := ⟨rfl, rfl, rfl, by decide +kernel, rfl, by decide +kernel, by decide +kernel⟩
theorem c_scaled (T : Txt K mg) : C8.Cal P w K mg base 4 "scaled" (spP K R_scaled) [] := by
  refine okP T.t_scaled sc_scaled (fun _ _ _ _ _ _ us hl => match us, hl with | [_, _], _ => rfl) (fun ds d h => ?_) (fun f cdv A outer s H E m ds d hr h => ?_)
  · obtain ⟨a, b, k, n1, n2, n3, rfl, b1, b2, b3, h1, h2, rfl⟩ := h
    rfl
  obtain ⟨a, b, k, n1, n2, n3, rfl, b1, b2, b3, h1, h2, rfl⟩ := h
  exact ss_ret (pd_tup (pl_cons (pd_call (c_product T) hr (by decide) rfl (pl_cons (pd_ixT (pd_var 0) pd_int) (pl_cons (pd_var 1) pl_nil)) (by exact (rel_product (h := h1)))) (pl_cons (pd_call (c_product T) hr (by decide) rfl (pl_cons (pd_ixT (pd_var 0) pd_int) (pl_cons (pd_var 1) pl_nil)) (by exact (rel_product (h := h2)))) pl_nil))) (fun _ z => z)
theorem sc_square_of : FnScope ["point"] ["point"] (defScope (top 40)) := ⟨rfl, rfl, rfl, by decide +kernel, rfl, by decide +kernel, by decide +kernel⟩
theorem c_square_of (T : Txt K mg) : C8.Cal P w K mg base 5 "square_of" (spP K R_square_of) [] := by
  refine okP T.t_square_of sc_square_of (fun _ _ _ _ _ _ us hl => match us, hl with | [_], _ => rfl) (fun ds d h => ?_) (fun f cdv A outer s H E m ds d hr h => ?_)
  · obtain ⟨a, b, n1, n2, rfl, b1, b2, h1, rfl⟩ := h
    rfl
  obtain ⟨a, b, n1, n2, rfl, b1, b2, h1, rfl⟩ := h
  exact ss_ret (pd_call (c_added T) hr (by decide) rfl (pl_cons (pd_call (c_square T) hr (by decide) rfl (pl_cons (pd_ixT (pd_var 0) pd_int) pl_nil) (by exact (rel_square (h := by omega)))) (pl_cons (pd_call (c_square T) hr (by decide) rfl (pl_cons (pd_ixT (pd_var 0) pd_int) pl_nil) (by exact (rel_square (h := by omega)))) pl_nil)) (by exact (rel_added (h := h1)))) (fun _ z => z)
theorem sc_to_left : FnScope ["point", "side"] ["point", "side"] (defScope (top 41)) := ⟨rfl, rfl, rfl, by decide +kernel, rfl, by decide +kernel, by decide +kernel⟩
theorem c_to_left (T : Txt K mg) : C8.Cal P w K mg base 4 "to_left" (spP K R_to_left) [] := by
  refine okP T.t_to_left sc_to_left (fun _ _ _ _ _ _ us hl => match us, hl with | [_, _], _ => rfl) (fun ds d h => ?_) (fun f cdv A outer s H E m ds d hr h => ?_)
  · obtain ⟨a, b, s', n1, n2, n3, rfl, b1, b2, b3, h1, h2, rfl⟩ := h
    rfl
  obtain ⟨a, b, s', n1, n2, n3, rfl, b1, b2, b3, h1, h2, rfl⟩ := h
  exact ss_ret (pd_tup (pl_cons (pd_call (c_product T) hr (by decide) rfl (pl_cons (pd_call (c_turned T) hr (by decide) rfl (pl_cons (pd_ixT (pd_var 0) pd_int) pl_nil) (by exact rel_turned)) (pl_cons (pd_var 1) pl_nil)) (by exact (rel_product (h := h2)))) (pl_cons (pd_call (c_product T) hr (by decide) rfl (pl_cons (pd_ixT (pd_var 0) pd_int) (pl_cons (pd_var 1) pl_nil)) (by exact (rel_product (h := h1)))) pl_nil))) (fun _ z => z)
theorem sc_pins_of : FnScope ["h", "far"] ["h", "far"] (defScope (top 47)) := ⟨rfl, rfl, rfl, by decide +kernel, rfl, by decide +kernel, by decide +kernel⟩
theorem c_pins_of (T : Txt K mg) : C8.Cal P w K mg base 5 "pins_of" (spP K R_pins_of) [] := by
  refine okP T.t_pins_of sc_pins_of (fun _ _ _ _ _ _ us hl => match us, hl with | [_, _], _ => rfl) (fun ds d h => ?_) (fun f cdv A outer s H E m ds d hr h => ?_)
  · obtain ⟨h', f', n, m', rfl, b1, b2, h1, rfl⟩ := h
    rfl
  obtain ⟨h', f', n, m', rfl, b1, b2, h1, rfl⟩ := h
  exact ss_ret (pd_tup (pl_cons (pd_tup (pl_cons (pd_call (c_less_by T) hr (by decide) rfl (pl_cons (pd_var 0) (pl_cons (pd_var 1) pl_nil)) (by exact (rel_less_by (h := by omega)))) (pl_cons pd_int pl_nil))) (pl_cons (pd_tup (pl_cons (pd_call (c_less_by T) hr (by decide) rfl (pl_cons (pd_var 0) (pl_cons (pd_call (c_product T) hr (by decide) rfl (pl_cons (pd_var 1) (pl_cons (pd_glob rfl T.k_HALF) pl_nil)) (by exact (rel_product (h := by omega)))) pl_nil)) (by exact (rel_less_by (h := by omega)))) (pl_cons pd_int pl_nil))) pl_nil))) (fun _ z => z.trans (by simp only [pt, num0]))
theorem sc_root_over : FnScope ["high", "part"] ["high", "part"] (defScope (top 48)) := ⟨rfl, rfl, rfl, by decide +kernel, rfl, by decide +kernel, by decide +kernel⟩
theorem c_root_over (T : Txt K mg) : C8.Cal P w K mg base 5 "root_over" (spP K R_root_over) [] := by
  refine okP T.t_root_over sc_root_over (fun _ _ _ _ _ _ us hl => match us, hl with | [_, _], _ => rfl) (fun ds d h => ?_) (fun f cdv A outer s H E m ds d hr h => ?_)
  · obtain ⟨h', p', n, m', rfl, b1, b2, h1, rfl⟩ := h
    rfl
  obtain ⟨h', p', n, m', rfl, b1, b2, h1, rfl⟩ := h
  exact ss_ret (pd_call (c_less_by T) hr (by decide) rfl (pl_cons (pd_call (c_product T) hr (by decide) rfl (pl_cons (pd_var 0) (pl_cons (pd_var 1) pl_nil)) (by exact (rel_product (h := by omega)))) (pl_cons (pd_call (c_square T) hr (by decide) rfl (pl_cons (pd_call (c_product T) hr (by decide) rfl (pl_cons (pd_call (c_added T) hr (by decide) rfl (pl_cons pd_int (pl_cons (pd_var 1) pl_nil)) (by exact (rel_added (h := by omega)))) (pl_cons (pd_glob rfl T.k_HALF) pl_nil)) (by exact (rel_product (h := by omega)))) pl_nil) (by exact (rel_square (h := by omega)))) pl_nil)) (by exact (rel_less_by (h := by omega)))) (fun _ z => z)
theorem sc_need_point : FnScope ["value", "part"] ["value", "part"] (defScope (top 17)) := ⟨rfl, rfl, rfl, by decide +kernel, rfl, by decide +kernel, by decide +kernel⟩
theorem c_need_point (T : Txt K mg) : C8.Cal P w K mg base 5 "need_point" (spP K R_need_point) [] := by
  refine okP T.t_need_point sc_need_point (fun _ _ _ _ _ _ us hl => match us, hl with | [_, _], _ => rfl) (fun ds d h => ?_) (fun f cdv A outer s H E m ds d hr h => ?_)
  · obtain ⟨x, y, s', rfl, rfl⟩ := h
    rfl
  obtain ⟨x, y, s', rfl, rfl⟩ := h
  refine ss_ifR (pb_not (pb_val (pd_call (c_is_point T) hr (by decide) rfl (pl_cons (pd_var 0) pl_nil) (by exact rel_is_point)))) (fun e => by cases e) (fun e => ?_)
  exact ss_ret (pd_call (c_kept_row T) hr (by decide) rfl (pl_cons (pd_var 0) pl_nil) (by exact rel_kept_row)) (fun _ z => z)
theorem sc_placed : FnScope ["point", "aside", "root", "whole", "part", "x", "y", "above", "under", "its", "below_it"] ["point", "aside", "root"] (defScope (top 34)) := ⟨rfl, rfl, rfl, by decide +kernel, rfl, by decide +kernel, by decide +kernel⟩
theorem c_placed (T : Txt K mg) : C8.Cal P w K mg base 5 "placed" (spP K R_placed) [] := by
  refine okP T.t_placed sc_placed (fun _ _ _ _ _ _ us hl => match us, hl with | [_, _, _], _ => rfl) (fun ds d h => ?_) (fun f cdv A outer s H E m ds d hr h => ?_)
  · obtain ⟨px, py, ax, ay, r, n1, n2, n3, rfl, ⟨r0, b1, b2, b3, b4, b5, hh⟩, rfl⟩ := h
    rfl
  obtain ⟨px, py, ax, ay, r, n1, n2, n3, rfl, ⟨r0, b1, b2, b3, b4, b5, hh⟩, rfl⟩ := h
  refine ss_ifR (pb_w (pbw_or (pb_eq hr.units (pd_var 2) pd_int (by walk_at "sh") (by walk_at "sh")) (fun _ => (pbw_or1 (pb_eq hr.units (pd_var 1) (pd_glob rfl T.k_NONE) (by walk_at "sh") (by walk_at "sh")))))) (fun e => ?_) (fun e => ?_)
  · refine ss_ret (pd_tup (pl_cons (pd_var 0) (pl_cons (pd_glob rfl T.k_NONE) (pl_cons pd_int pl_nil)))) (fun _ z => z.trans ?_)
    rw [eqv_n0, eqv_pt0] at e
    have e2 : r = 0 ∨ (ax = 0 ∧ ay = 0) := by simpa using e
    unfold plN
    rw [if_pos e2]
    unfold Pl.d
    simp only [pt, num0]
  · rw [eqv_n0, eqv_pt0] at e
    have e2 : ¬ (r = 0 ∨ (ax = 0 ∧ ay = 0)) := fun z => by
      rcases z with z | ⟨z1, z2⟩
      · rw [decide_eq_true z] at e; simp at e
      · rw [decide_eq_true z1, decide_eq_true z2] at e; simp at e
    have e3 : ¬ (ax = 0 ∧ ay = 0) := fun z => e2 (.inr z)
    refine ss_set1 3 (pd_call (c_root_in T) hr (by decide) rfl (pl_cons (pd_var 2) pl_nil) (by exact (rel_root_in r0 (by omega)))) ?_ sc_placed.nd
    have hN : plN px py ax ay r = match sqr r with
        | some w => ⟨px + ax * w, py + ay * w, 0, 0, 0⟩
        | none => ⟨px, py, ((plX ax ay / plG ax ay : Int) : Rat), ((plY ax ay / plG ax ay : Int) : Rat), r * ((plG ax ay : Rat) / (((ax.den : Int) * (ay.den : Int) : Int) : Rat) * ((plG ax ay : Rat) / (((ax.den : Int) * (ay.den : Int) : Int) : Rat)))⟩ := by
      unfold plN
      rw [if_neg e2]
    rw [hN]
    unfold rootD
    cases hs : sqr r with
    | some w =>
      have bw : Bd w n3 := sqr_bd r0 b5 (by omega) hs
      have hw : isNoneD (num w) = false := by rcases num_cases w with ⟨e, _⟩ | ⟨e, _⟩ <;> rw [e] <;> rfl
      refine ss_ifR (pb_notN (pd_var 3)) (fun _ => ?_) (fun e => by rw [hw] at e; cases e)
      refine ss_ret (pd_tup (pl_cons (pd_call (c_shifted T) hr (by decide) rfl (pl_cons (pd_var 0) (pl_cons (pd_call (c_grown T) hr (by decide) rfl (pl_cons (pd_var 1) (pl_cons (pd_var 3) pl_nil)) (by exact (rel_grown (by omega) (by omega)))) pl_nil)) (by exact (rel_shifted (by omega) (by omega)))) (pl_cons (pd_glob rfl T.k_NONE) (pl_cons pd_int pl_nil)))) (fun _ z => z.trans ?_)
      unfold Pl.d
      simp only [pt, num0]
    | none =>
      refine ss_ifR (pb_notN (pd_var 3)) (fun e => by cases e) (fun _ => ?_)
      refine ss_asg (pd_tup (pl_cons (pd_call (c_halves T) hr (by decide) rfl (pl_cons (pd_ixT (pd_var 1) pd_int) pl_nil) (by exact rel_halves)) (pl_cons (pd_call (c_halves T) hr (by decide) rfl (pl_cons (pd_ixT (pd_var 1) pd_int) pl_nil) (by exact rel_halves)) pl_nil))) (g_tup rfl (g_cons (g_tup rfl (g_cons (g_name 7 sc_placed.nd) (g_cons (g_name 8 sc_placed.nd) g_nil))) (g_cons (g_tup rfl (g_cons (g_name 9 sc_placed.nd) (g_cons (g_name 10 sc_placed.nd) g_nil))) g_nil))) ?_
      refine ss_par 5 6 rfl sc_placed.nd (pl_cons (pd_mul (pd_var 7) (pd_var 10) (by walk_at "cm")) (pl_cons (pd_mul (pd_var 9) (pd_var 8) (by walk_at "cm")) pl_nil)) ?_
      refine ss_set1 4 (pd_call (c_common T) hr (by decide) rfl (pl_cons (pd_var 5) (pl_cons (pd_var 6) pl_nil)) (by exact rel_common)) ?_ sc_placed.nd
      have hg := plG_pos e3
      have hgb := plG_bd b3 b4 e3
      have hcd : ∀ i, CDivW i (plG ax ay) := fun i => ⟨hg, Nat.lt_of_lt_of_le (Nat.log2_lt (by omega) |>.mpr (bd_mono hgb (by omega : n2 + n2 ≤ 8999))) (by decide)⟩
      have hdd : (0 : Int) < (ax.den : Int) * (ay.den : Int) := Int.mul_pos (den_pos ax) (den_pos ay)
      have hdb : ((ax.den : Int) * (ay.den : Int)).natAbs < 2 ^ (n2 + n2) := mul_bd (nd_bd b3.dn) (nd_bd b4.dn)
      have bq : Bd ((plG ax ay : Rat) / (((ax.den : Int) * (ay.den : Int) : Int) : Rat)) (n2 + n2) := bd_frac hdd hgb hdb
      have bq2 : Bd ((((Int.gcd (ax.num * (ay.den : Int)) (ay.num * (ax.den : Int)) : Nat) : Int) : Rat) / (((ax.den : Int) * (ay.den : Int) : Int) : Rat)) (n2 + n2) := bq
      refine ss_ret (pd_tup (pl_cons (pd_var 0) (pl_cons (pd_tup (pl_cons (pd_div (pd_var 5) (pd_var 4) (hcd _)) (pl_cons (pd_div (pd_var 6) (pd_var 4) (hcd _)) pl_nil))) (pl_cons (pd_call (c_product T) hr (by decide) rfl (pl_cons (pd_var 2) (pl_cons (pd_call (c_square T) hr (by decide) rfl (pl_cons (pd_call (c_lowest T) hr (by decide) rfl (pl_cons (pd_var 4) (pl_cons (pd_mul (pd_var 8) (pd_var 10) (by walk_at "cm")) pl_nil)) (by exact (rel_lowest hdd hdb (by omega)))) pl_nil) (by exact (rel_square (h := by omega)))) pl_nil)) (by exact (rel_product (h := by omega)))) pl_nil)))) (fun _ z => z.trans ?_)
      unfold Pl.d
      simp only [pt, num_int]
      rfl
theorem sc_place_of : FnScope ["point", "aside", "root", "mine", "more"] ["point", "aside", "root"] (defScope (top 35)) := ⟨rfl, rfl, rfl, by decide +kernel, rfl, by decide +kernel, by decide +kernel⟩
theorem c_place_of (T : Txt K mg) : C8.Cal P w K mg base 6 "place_of" (spP K R_place_of) [] := by
  refine okP T.t_place_of sc_place_of (fun _ _ _ _ _ _ us hl => match us, hl with | [_, _, _], _ => rfl) (fun ds d h => ?_) (fun f cdv A outer s H E m ds d hr h => ?_)
  · obtain ⟨px, py, ax, ay, r, n1, n2, n3, rfl, hb, rfl⟩ := h
    rfl
  obtain ⟨px, py, ax, ay, r, n1, n2, n3, rfl, hb, rfl⟩ := h
  refine ss_set1 3 (pd_call (c_need_point T) hr (by decide) rfl (pl_cons (pd_var 0) (pl_cons pd_str pl_nil)) (by exact rel_need_point)) ?_ sc_place_of.nd
  refine ss_set1 4 (pd_call (c_need_point T) hr (by decide) rfl (pl_cons (pd_var 1) (pl_cons pd_str pl_nil)) (by exact rel_need_point)) ?_ sc_place_of.nd
  refine ss_ifR (pb_w (pbw_or (pb_not (pb_val (pd_call (c_is_number T) hr (by decide) rfl (pl_cons (pd_var 2) pl_nil) (by exact rel_is_number)))) (fun _ => (pbw_or1 (pb_lt (pd_call (c_sign_in T) hr (by decide) rfl (pl_cons (pd_call (c_kept T) hr (by decide) rfl (pl_cons (pd_var 2) pl_nil) (by exact rel_kept)) pl_nil) (by exact (rel_sign_in hb.r0))) pd_int))))) (fun e => absurd (of_decide_eq_true (by simpa using e)) (by split <;> decide)) (fun e => ?_)
  exact ss_ret (pd_call (c_placed T) hr (by decide) rfl (pl_cons (pd_var 3) (pl_cons (pd_var 4) (pl_cons (pd_call (c_kept T) hr (by decide) rfl (pl_cons (pd_var 2) pl_nil) (by exact rel_kept)) pl_nil))) (by exact ⟨px, py, ax, ay, r, n1, n2, n3, rfl, hb, rfl⟩)) (fun _ z => z)
end
end Cv

set_option Elab.async false
set_option linter.all false
set_option maxRecDepth 100000
set_option maxHeartbeats 4000000
namespace Cv
open PySem PySem.Spec PyProof.Rows L2


def R__law_low := R_lowest
theorem rel__law_low {p q : Int} {n : Nat} (h : 0 < q) (hb : q.natAbs < 2 ^ n) (hn : n ≤ 8999) : R__law_low [.int p, .int q] (num ((p : Rat) / (q : Rat))) := rel_lowest h hb hn
def R__law_two := R_halves
theorem rel__law_two {d : PyData} {r : Rat} [a : IsNum d r] : R__law_two [d] (.tuple [.int r.num, .int (r.den : Int)]) := rel_halves
def R__law_sum := R_added
theorem rel__law_sum {dx dy : PyData} {x y : Rat} {n m : Nat} [a : IsNum dx x] [b : IsNum dy y] [bx : Bd x n] [by' : Bd y m] (h : n + m ≤ 8000 := by decide) : R__law_sum [dx, dy] (num (x + y)) := rel_added h
def R__law_by := R_product
theorem rel__law_by {dx dy : PyData} {x y : Rat} {n m : Nat} [a : IsNum dx x] [b : IsNum dy y] [bx : Bd x n] [by' : Bd y m] (h : n + m ≤ 8000 := by decide) : R__law_by [dx, dy] (num (x * y)) := rel_product h
def R__law_over := R_part_by
theorem rel__law_over {dx dy : PyData} {x y : Rat} {n m : Nat} [a : IsNum dx x] [b : IsNum dy y] [bx : Bd x n] [by' : Bd y m] (c : 0 < y) (h : n + m ≤ 8000 := by decide) : R__law_over [dx, dy] (num (x / y)) := rel_part_by c h
def R__law_is_below := R_below
theorem rel__law_is_below {dx dy : PyData} {x y : Rat} {n m : Nat} [a : IsNum dx x] [b : IsNum dy y] [bx : Bd x n] [by' : Bd y m] (h : n + m ≤ 8000 := by decide) : R__law_is_below [dx, dy] (.bool (decide (x < y))) := rel_below h
def R__law_less : List PyData → PyData → Prop := fun ds d => ∃ (x y : Rat) (n m : Nat), ds = [num x, num y] ∧ Bd x n ∧ Bd y m ∧ n + m ≤ 7999 ∧ d = num (x - y)
theorem rel__law_less {dx dy : PyData} {x y : Rat} {n m : Nat} [a : IsNum dx x] [b : IsNum dy y] [bx : Bd x n] [by' : Bd y m] (h : n + m ≤ 7999 := by decide) : R__law_less [dx, dy] (num (x - y)) := ⟨x, y, n, m, by rw [a.eq, b.eq], bx, by', h, rfl⟩
def R__law_move := R_shifted
theorem rel__law_move {p q : PyData} {a b c e : Rat} {n1 n2 n3 n4 : Nat} [hp : IsPt p a b] [hq : IsPt q c e] [b1 : Bd a n1] [b2 : Bd b n2] [b3 : Bd c n3] [b4 : Bd e n4] (h : n1 + n3 ≤ 8000 := by decide) (h' : n2 + n4 ≤ 8000 := by decide) : R__law_move [p, q] (pt (a + c) (b + e)) := rel_shifted h h'
def R__law_scale := R_grown
theorem rel__law_scale {p q : PyData} {a b k : Rat} {n1 n2 n3 : Nat} [hp : IsPt p a b] [hq : IsNum q k] [b1 : Bd a n1] [b2 : Bd b n2] [b3 : Bd k n3] (h : n1 + n3 ≤ 8000 := by decide) (h' : n2 + n3 ≤ 8000 := by decide) : R__law_scale [p, q] (pt (a * k) (b * k)) := rel_grown h h'
def R__law_off := R_square_of
theorem rel__law_off {p : PyData} {a b : Rat} {n1 n2 : Nat} [hp : IsPt p a b] [b1 : Bd a n1] [b2 : Bd b n2] (h : (n1 + n1) + (n2 + n2) ≤ 8000 := by decide) : R__law_off [p] (num (a * a + b * b)) := rel_square_of h
def R__law_way : List PyData → PyData → Prop := fun ds d => ∃ (a b c e : Rat) (n1 n2 n3 n4 : Nat), ds = [pt a b, pt c e] ∧ Bd a n1 ∧ Bd b n2 ∧ Bd c n3 ∧ Bd e n4 ∧ n1 + n3 ≤ 7999 ∧ n2 + n4 ≤ 7999 ∧ d = pt (c - a) (e - b)
theorem rel__law_way {p q : PyData} {a b c e : Rat} {n1 n2 n3 n4 : Nat} [hp : IsPt p a b] [hq : IsPt q c e] [b1 : Bd a n1] [b2 : Bd b n2] [b3 : Bd c n3] [b4 : Bd e n4] (h : n1 + n3 ≤ 7999 := by decide) (h' : n2 + n4 ≤ 7999 := by decide) : R__law_way [p, q] (pt (c - a) (e - b)) := ⟨a, b, c, e, n1, n2, n3, n4, by rw [hp.eq, hq.eq], b1, b2, b3, b4, h, h', rfl⟩
def R__law_whole_root : List PyData → PyData → Prop := fun ds d => ∃ (n : Int) (k : Nat), ds = [.int n] ∧ 0 ≤ n ∧ n.natAbs < 2 ^ k ∧ k ≤ 8000 ∧ d = .int (rt n)
theorem rel__law_whole_root {n : Int} {k : Nat} (h0 : 0 ≤ n) (h1 : n.natAbs < 2 ^ k) (h2 : k ≤ 8000) : R__law_whole_root [.int n] (.int (rt n)) := ⟨n, k, rfl, h0, h1, h2, rfl⟩
def R__law_root := R_root_in
def R__law_place := R_placed
theorem rel__law_place {p q e : PyData} {px py ax ay r : Rat} {n1 n2 n3 : Nat} [hp : IsPt p px py] [hq : IsPt q ax ay] [he : IsNum e r] (h : PlB px py ax ay r n1 n2 n3) : R__law_place [p, q, e] (plN px py ax ay r).d := ⟨px, py, ax, ay, r, n1, n2, n3, by rw [hp.eq, hq.eq, he.eq], h, rfl⟩
instance bdM1 : Bd (-1) 1 := ⟨by decide +kernel, by decide +kernel⟩
/-- a step of the search for a root -/
theorem rt_step {n a : Int} (h0 : 0 ≤ n) (ha : 0 < a) : rt n ≤ (a + n / a) / 2 := by
  obtain ⟨r0, r1, _⟩ := rt_le h0
  generalize rt n = r at *
  have h1 : n < (n / a + 1) * a := by
    have := Int.lt_ediv_add_one_mul_self n ha
    exact this
  generalize n / a = q at *
  rcases Int.lt_or_le ((a + q) / 2) r with c | c
  · exfalso
    have h2 : q + 1 ≤ 2 * r - a := by omega
    have h3 : (q + 1) * a ≤ (2 * r - a) * a := Int.mul_le_mul_of_nonneg_right h2 (Int.le_of_lt ha)
    have h4 : 0 ≤ (r - a) * (r - a) := by
      rcases Int.le_total 0 (r - a) with z | z
      · exact Int.mul_nonneg z z
      · exact Int.mul_nonneg_of_nonpos_of_nonpos z z
    have h5 : (r - a) * (r - a) = r * r - (2 * r - a) * a := by grind
    omega
  · exact c
theorem rt_end {n a : Int} (h0 : 0 ≤ n) (ha : rt n ≤ a) (h : a * a ≤ n) : a = rt n := by
  obtain ⟨r0, r1, r2⟩ := rt_le h0
  generalize rt n = r at *
  rcases Int.lt_or_eq_of_le ha with c | c
  · exfalso
    have h1 : (r + 1) * (r + 1) ≤ a * a := by
      have h2 : (r + 1) * (r + 1) ≤ a * (r + 1) := Int.mul_le_mul_of_nonneg_right (by omega) (by omega)
      have h3 : a * (r + 1) ≤ a * a := Int.mul_le_mul_of_nonneg_left (by omega) (by omega)
      omega
    omega
  · exact c.symm
theorem rt_small {n : Int} (h0 : 0 ≤ n) (h : n < 2) : rt n = n := by
  have : n = 0 ∨ n = 1 := by omega
  rcases this with rfl | rfl <;> decide +kernel
theorem lt_start (n : Int) (h0 : 0 ≤ n) : n < 2 ^ ((Builtin.Int.intBits n + 1) / 2) * 2 ^ ((Builtin.Int.intBits n + 1) / 2) := by
  have h1 : n.natAbs < 2 ^ (Builtin.Int.intBits n) := by
    unfold Builtin.Int.intBits
    split
    · rename_i h
      have : n = 0 := by simpa using h
      subst this
      decide
    · exact Nat.lt_log2_self
  have h2 : (2 : Nat) ^ (Builtin.Int.intBits n) ≤ 2 ^ ((Builtin.Int.intBits n + 1) / 2) * 2 ^ ((Builtin.Int.intBits n + 1) / 2) := by
    rw [← Nat.pow_add]
    exact Nat.pow_le_pow_right (by decide) (by omega)
  have h3 : ((n.natAbs : Nat) : Int) < ((2 ^ ((Builtin.Int.intBits n + 1) / 2) * 2 ^ ((Builtin.Int.intBits n + 1) / 2) : Nat) : Int) := by omega
  rw [Int.natCast_mul, Int.natCast_pow] at h3
  have e : ((n.natAbs : Nat) : Int) = n := by omega
  rw [e] at h3
  exact h3
theorem rt_pos {n : Int} (h : 1 ≤ n) : 1 ≤ rt n := by
  obtain ⟨r0, r1, r2⟩ := rt_le (by omega : 0 ≤ n)
  rcases Int.lt_or_le (rt n) 1 with c | c
  · have : rt n = 0 := by omega
    rw [this] at r2
    omega
  · exact c

local macro_rules | `(tactic| walk_at "nb") => `(tactic| (first | exact Bd.up | exact nd_bd Bd.dn | assumption | (apply mul_bd <;> walk_at "nb") | (apply add_bd <;> walk_at "nb")))
local macro_rules | `(tactic| walk_at "cm") => `(tactic| (apply mulx_ok; (walk_at "nb"); (walk_at "nb"); omega))
local macro_rules | `(tactic| walk_at "sh") => `(tactic| (first | exact num_shaped _ | exact shp_int _ | exact shp_int2 _ _ | exact shp_none))
local macro_rules | `(tactic| walk_at "sh") => `(tactic| (first | exact num_shaped _ | exact pt_shaped _ _ | exact pl_shaped _ | exact shp_int _ | exact shp_int2 _ _ | exact shp_none))
section
variable {P : Program} {w : World} {K : PySem.W.Frag} {mg : Str → Option Value} {base : Heap}

theorem sc__law_low : FnScope ["_law_above", "_law_under", "_law_one_here", "_law_other"] ["_law_above", "_law_under"] (defScope (top 57)) := ⟨rfl, rfl, rfl, by decide +kernel, rfl, by decide +kernel, by decide +kernel⟩
theorem c__law_low (T : Txt K mg) : C8.Cal P w K mg base 1 "_law_low" (spP K R__law_low) [] := by
  refine okP T.t__law_low sc__law_low (fun _ _ _ _ _ _ us hl => match us, hl with | [_, _], _ => rfl) (fun ds d h => ?_) (fun f cdv A outer s H E m ds d hr h => ?_)
  · obtain ⟨p, q, n, rfl, hq, hb, hn, rfl⟩ := h
    rfl
  obtain ⟨p, q, n, rfl, hq, hb, hn, rfl⟩ := h
  have hg0 : 0 < (Int.gcd p q : Int) := by
    have : 0 < Int.gcd p q := Int.gcd_pos_of_ne_zero_right _ (by omega)
    omega
  have hgb : ((Int.gcd p q : Int)).natAbs < 2 ^ n := by
    have : Int.gcd p q ≤ q.natAbs := Nat.gcd_le_right _ (by omega)
    omega
  have hd : ∀ i, CDivW i (Int.gcd p q : Int) := fun i => ⟨hg0, Nat.lt_of_lt_of_le (Nat.log2_lt (by omega) |>.mpr (bd_mono hgb hn)) (by decide)⟩
  refine ss_par 2 3 rfl sc__law_low.nd (pl_cons (pd_abs (pd_var 0) rfl T.f_abs) (pl_cons (pd_abs (pd_var 1) rfl T.f_abs) pl_nil)) ?_
  refine ss_while (ι := Nat × Nat) (fun i => Nat.gcd i.1 i.2 = Int.gcd p q) (fun i => [.d (.int p), .d (.int q), .d (.int (i.1 : Int)), .d (.int (i.2 : Int))]) (fun i => decide ((0 : Int) < (i.2 : Int))) (fun i => (i.2, i.1 % i.2)) (fun i => i.2) (p.natAbs, q.natAbs) (fgt_refl _) rfl (fun i hi => ?_) (fun i hi ht => ?_) (fun i hi ht => ?_) (fun i hi ht => ?_) PassesOwn.never
  · exact (pb_gt (pd_var 3) pd_int)
  · have h0 : (0 : Int) < (i.2 : Int) := of_decide_eq_true ht
    refine ss_par 2 3 rfl sc__law_low.nd (pl_cons (pd_var 3) (pl_cons (pd_mod (pd_toInt (pd_var 2) rfl T.f_int) (pd_var 3) h0) pl_nil)) ?_
    exact ss_nil rfl
  · have h0 : (0 : Int) < (i.2 : Int) := of_decide_eq_true ht
    have h1 : 0 < i.2 := by omega
    refine ⟨?_, Nat.mod_lt _ h1⟩
    show Nat.gcd i.2 (i.1 % i.2) = Int.gcd p q
    rw [← hi, Nat.gcd_comm i.1 i.2, Nat.gcd_rec i.2 i.1, Nat.gcd_comm]
  · have h0 : i.2 = 0 := by
      have := of_decide_eq_false ht
      omega
    rw [h0, Nat.gcd_zero_right] at hi
    rw [hi, h0]
    refine ss_set1 2 (pd_if (pb_lt (pd_var 1) pd_int) (fun hc => absurd (of_decide_eq_true hc) (by omega)) (fun hc => pd_var 2)) ?_ sc__law_low.nd
    refine ss_par 0 1 rfl sc__law_low.nd (pl_cons (pd_div (pd_var 0) (pd_var 2) (hd _)) (pl_cons (pd_div (pd_var 1) (pd_var 2) (hd _)) pl_nil)) ?_
    refine ss_ret (S := Is (num ((p : Rat) / (q : Rat)))) ?_ (fun _ z => z)
    rw [num_frac p q hq]
    by_cases hc : q / (Int.gcd p q : Int) = 1
    · rw [if_pos hc]
      exact pd_if (pb_eq hr.units (pd_var 1) pd_int (by walk_at "sh") (by walk_at "sh")) (fun _ => pd_var 0) (fun h => by simp [PyData.eqv, hc] at h)
    · rw [if_neg hc]
      exact pd_if (pb_eq hr.units (pd_var 1) pd_int (by walk_at "sh") (by walk_at "sh")) (fun h => absurd (by simpa [PyData.eqv] using h) hc) (fun _ => pd_tup (pl_cons (pd_var 0) (pl_cons (pd_var 1) pl_nil)))
theorem sc__law_two : FnScope ["_law_number_here"] ["_law_number_here"] (defScope (top 58)) := ⟨rfl, rfl, rfl, by decide +kernel, rfl, by decide +kernel, by decide +kernel⟩
theorem c__law_two (T : Txt K mg) : C8.Cal P w K mg base 1 "_law_two" (spP K R__law_two) [] := by
  refine okP T.t__law_two sc__law_two (fun _ _ _ _ _ _ us hl => match us, hl with | [_], _ => rfl) (fun ds d h => ?_) (fun f cdv A outer s H E m ds d hr h => ?_)
  · obtain ⟨r, rfl, rfl⟩ := h
    rfl
  obtain ⟨r, rfl, rfl⟩ := h
  rcases num_cases r with ⟨e, h1⟩ | ⟨e, _⟩
  all_goals rw [e]
  · exact ss_ret (pd_if (pb_val (pd_isi (T := "int") (pd_var 0) rfl T.f_isinstance rfl T.f_int (by decide +kernel) (k_int _))) (fun hc => pd_tup (pl_cons (pd_var 0) (pl_cons pd_int pl_nil))) (fun hc => by cases hc)) (fun _ z => z.trans (by rw [h1]; rfl))
  · exact ss_ret (pd_if (pb_val (pd_isi (T := "int") (pd_var 0) rfl T.f_isinstance rfl T.f_int (by decide +kernel) (k_int _))) (fun hc => by cases hc) (fun hc => (pd_tup (pl_cons (pd_ixT (pd_var 0) pd_int) (pl_cons (pd_ixT (pd_var 0) pd_int) pl_nil))))) (fun _ z => z)
theorem sc__law_sum : FnScope ["_law_one_here", "_law_other", "_law_a", "_law_b", "_law_c", "_law_d"] ["_law_one_here", "_law_other"] (defScope (top 59)) := ⟨rfl, rfl, rfl, by decide +kernel, rfl, by decide +kernel, by decide +kernel⟩
theorem c__law_sum (T : Txt K mg) : C8.Cal P w K mg base 2 "_law_sum" (spP K R__law_sum) [] := by
  refine okP T.t__law_sum sc__law_sum (fun _ _ _ _ _ _ us hl => match us, hl with | [_, _], _ => rfl) (fun ds d h => ?_) (fun f cdv A outer s H E m ds d hr h => ?_)
  · obtain ⟨x, y, n, m', rfl, hx, hy, hnm, hC, rfl⟩ := h
    rfl
  obtain ⟨x, y, n, m', rfl, hx, hy, hnm, hC, rfl⟩ := h
  refine ss_asg (pd_tup (pl_cons (pd_call (c__law_two T) hr (by decide) rfl (pl_cons (pd_var 0) pl_nil) (by exact rel__law_two)) (pl_cons (pd_call (c__law_two T) hr (by decide) rfl (pl_cons (pd_var 1) pl_nil) (by exact rel__law_two)) pl_nil))) (g_tup rfl (g_cons (g_tup rfl (g_cons (g_name 2 sc__law_sum.nd) (g_cons (g_name 3 sc__law_sum.nd) g_nil))) (g_cons (g_tup rfl (g_cons (g_name 4 sc__law_sum.nd) (g_cons (g_name 5 sc__law_sum.nd) g_nil))) g_nil))) ?_
  exact ss_ret (pd_call (c__law_low T) hr (by decide) rfl (pl_cons (pd_add (pd_mul (pd_var 2) (pd_var 5) (by walk_at "cm")) (pd_mul (pd_var 4) (pd_var 3) (by walk_at "cm"))) (pl_cons (pd_mul (pd_var 3) (pd_var 5) (by walk_at "cm")) pl_nil)) (by exact (rel__law_low (Int.mul_pos (den_pos x) (den_pos y)) (mul_bd (nd_bd hx.dn) (nd_bd hy.dn)) (by omega)))) (fun _ z => z.trans (by rw [add_frac]))
theorem sc__law_by : FnScope ["_law_one_here", "_law_other", "_law_a", "_law_b", "_law_c", "_law_d"] ["_law_one_here", "_law_other"] (defScope (top 60)) := ⟨rfl, rfl, rfl, by decide +kernel, rfl, by decide +kernel, by decide +kernel⟩
theorem c__law_by (T : Txt K mg) : C8.Cal P w K mg base 2 "_law_by" (spP K R__law_by) [] := by
  refine okP T.t__law_by sc__law_by (fun _ _ _ _ _ _ us hl => match us, hl with | [_, _], _ => rfl) (fun ds d h => ?_) (fun f cdv A outer s H E m ds d hr h => ?_)
  · obtain ⟨x, y, n, m', rfl, hx, hy, hnm, hC, rfl⟩ := h
    rfl
  obtain ⟨x, y, n, m', rfl, hx, hy, hnm, hC, rfl⟩ := h
  refine ss_asg (pd_tup (pl_cons (pd_call (c__law_two T) hr (by decide) rfl (pl_cons (pd_var 0) pl_nil) (by exact rel__law_two)) (pl_cons (pd_call (c__law_two T) hr (by decide) rfl (pl_cons (pd_var 1) pl_nil) (by exact rel__law_two)) pl_nil))) (g_tup rfl (g_cons (g_tup rfl (g_cons (g_name 2 sc__law_by.nd) (g_cons (g_name 3 sc__law_by.nd) g_nil))) (g_cons (g_tup rfl (g_cons (g_name 4 sc__law_by.nd) (g_cons (g_name 5 sc__law_by.nd) g_nil))) g_nil))) ?_
  exact ss_ret (pd_call (c__law_low T) hr (by decide) rfl (pl_cons (pd_mul (pd_var 2) (pd_var 4) (by walk_at "cm")) (pl_cons (pd_mul (pd_var 3) (pd_var 5) (by walk_at "cm")) pl_nil)) (by exact (rel__law_low (Int.mul_pos (den_pos x) (den_pos y)) (mul_bd (nd_bd hx.dn) (nd_bd hy.dn)) (by omega)))) (fun _ z => z.trans (by rw [mul_frac]))
theorem sc__law_less : FnScope ["_law_one_here", "_law_other"] ["_law_one_here", "_law_other"] (defScope (top 61)) := ⟨rfl, rfl, rfl, by decide +kernel, rfl, by decide +kernel, by decide +kernel⟩
theorem c__law_less (T : Txt K mg) : C8.Cal P w K mg base 3 "_law_less" (spP K R__law_less) [] := by
  refine okP T.t__law_less sc__law_less (fun _ _ _ _ _ _ us hl => match us, hl with | [_, _], _ => rfl) (fun ds d h => ?_) (fun f cdv A outer s H E m ds d hr h => ?_)
  · obtain ⟨x, y, n, m', rfl, hx, hy, hnm, rfl⟩ := h
    rfl
  obtain ⟨x, y, n, m', rfl, hx, hy, hnm, rfl⟩ := h
  exact ss_ret (pd_call (c__law_sum T) hr (by decide) rfl (pl_cons (pd_var 0) (pl_cons (pd_call (c__law_by T) hr (by decide) rfl (pl_cons (pd_var 1) (pl_cons (pd_neg pd_int) pl_nil)) (by exact rel__law_by (h := by omega))) pl_nil)) (by exact rel__law_sum (h := by omega))) (fun _ z => z.trans (by rw [show x + y * -1 = x - y by grind]))
theorem sc__law_over : FnScope ["_law_one_here", "_law_other", "_law_a", "_law_b", "_law_c", "_law_d"] ["_law_one_here", "_law_other"] (defScope (top 62)) := ⟨rfl, rfl, rfl, by decide +kernel, rfl, by decide +kernel, by decide +kernel⟩
theorem c__law_over (T : Txt K mg) : C8.Cal P w K mg base 2 "_law_over" (spP K R__law_over) [] := by
  refine okP T.t__law_over sc__law_over (fun _ _ _ _ _ _ us hl => match us, hl with | [_, _], _ => rfl) (fun ds d h => ?_) (fun f cdv A outer s H E m ds d hr h => ?_)
  · obtain ⟨x, y, n, m', rfl, hx, hy, hnm, hC, rfl⟩ := h
    rfl
  obtain ⟨x, y, n, m', rfl, hx, hy, hnm, hC, rfl⟩ := h
  refine ss_asg (pd_tup (pl_cons (pd_call (c__law_two T) hr (by decide) rfl (pl_cons (pd_var 0) pl_nil) (by exact rel__law_two)) (pl_cons (pd_call (c__law_two T) hr (by decide) rfl (pl_cons (pd_var 1) pl_nil) (by exact rel__law_two)) pl_nil))) (g_tup rfl (g_cons (g_tup rfl (g_cons (g_name 2 sc__law_over.nd) (g_cons (g_name 3 sc__law_over.nd) g_nil))) (g_cons (g_tup rfl (g_cons (g_name 4 sc__law_over.nd) (g_cons (g_name 5 sc__law_over.nd) g_nil))) g_nil))) ?_
  exact ss_ret (pd_call (c__law_low T) hr (by decide) rfl (pl_cons (pd_mul (pd_var 2) (pd_var 5) (by walk_at "cm")) (pl_cons (pd_mul (pd_var 3) (pd_var 4) (by walk_at "cm")) pl_nil)) (by exact (rel__law_low (Int.mul_pos (den_pos x) (num_pos hC)) (mul_bd (nd_bd hx.dn) hy.up) (by omega)))) (fun _ z => z.trans (by rw [div_frac x y (fun e => by rw [e] at hC; exact absurd hC (by decide))]))
theorem sc__law_is_below : FnScope ["_law_one_here", "_law_other", "_law_a", "_law_b", "_law_c", "_law_d"] ["_law_one_here", "_law_other"] (defScope (top 63)) := ⟨rfl, rfl, rfl, by decide +kernel, rfl, by decide +kernel, by decide +kernel⟩
theorem c__law_is_below (T : Txt K mg) : C8.Cal P w K mg base 2 "_law_is_below" (spP K R__law_is_below) [] := by
  refine okP T.t__law_is_below sc__law_is_below (fun _ _ _ _ _ _ us hl => match us, hl with | [_, _], _ => rfl) (fun ds d h => ?_) (fun f cdv A outer s H E m ds d hr h => ?_)
  · obtain ⟨x, y, n, m', rfl, hx, hy, hnm, rfl⟩ := h
    rfl
  obtain ⟨x, y, n, m', rfl, hx, hy, hnm, rfl⟩ := h
  refine ss_asg (pd_tup (pl_cons (pd_call (c__law_two T) hr (by decide) rfl (pl_cons (pd_var 0) pl_nil) (by exact rel__law_two)) (pl_cons (pd_call (c__law_two T) hr (by decide) rfl (pl_cons (pd_var 1) pl_nil) (by exact rel__law_two)) pl_nil))) (g_tup rfl (g_cons (g_tup rfl (g_cons (g_name 2 sc__law_is_below.nd) (g_cons (g_name 3 sc__law_is_below.nd) g_nil))) (g_cons (g_tup rfl (g_cons (g_name 4 sc__law_is_below.nd) (g_cons (g_name 5 sc__law_is_below.nd) g_nil))) g_nil))) ?_
  exact ss_ret (pd_lt (pd_mul (pd_var 2) (pd_var 5) (by walk_at "cm")) (pd_mul (pd_var 4) (pd_var 3) (by walk_at "cm"))) (fun _ z => z.trans (by rw [decide_eq_decide.mpr (Rat.lt_iff x y)]))
theorem sc__law_move : FnScope ["_law_one_here", "_law_other"] ["_law_one_here", "_law_other"] (defScope (top 64)) := ⟨rfl, rfl, rfl, by decide +kernel, rfl, by decide +kernel, by decide +kernel⟩
theorem c__law_move (T : Txt K mg) : C8.Cal P w K mg base 3 "_law_move" (spP K R__law_move) [] := by
  refine okP T.t__law_move sc__law_move (fun _ _ _ _ _ _ us hl => match us, hl with | [_, _], _ => rfl) (fun ds d h => ?_) (fun f cdv A outer s H E m ds d hr h => ?_)
  · obtain ⟨a, b, c, e, n1, n2, n3, n4, rfl, b1, b2, b3, b4, h1, h2, rfl⟩ := h
    rfl
  obtain ⟨a, b, c, e, n1, n2, n3, n4, rfl, b1, b2, b3, b4, h1, h2, rfl⟩ := h
  exact ss_ret (pd_tup (pl_cons (pd_call (c__law_sum T) hr (by decide) rfl (pl_cons (pd_ixT (pd_var 0) pd_int) (pl_cons (pd_ixT (pd_var 1) pd_int) pl_nil)) (by exact rel__law_sum (h := h1))) (pl_cons (pd_call (c__law_sum T) hr (by decide) rfl (pl_cons (pd_ixT (pd_var 0) pd_int) (pl_cons (pd_ixT (pd_var 1) pd_int) pl_nil)) (by exact rel__law_sum (h := h2))) pl_nil))) (fun _ z => z)
theorem sc__law_scale : FnScope ["_law_point", "_law_number_here"] ["_law_point", "_law_number_here"] (defScope (top 65)) := ⟨rfl, rfl, rfl, by decide +kernel, rfl, by decide +kernel, by decide +kernel⟩
theorem c__law_scale (T : Txt K mg) : C8.Cal P w K mg base 3 "_law_scale" (spP K R__law_scale) [] := by
  refine okP T.t__law_scale sc__law_scale (fun _ _ _ _ _ _ us hl => match us, hl with | [_, _], _ => rfl) (fun ds d h => ?_) (fun f cdv A outer s H E m ds d hr h => ?_)
  · obtain ⟨a, b, k, n1, n2, n3, rfl, b1, b2, b3, h1, h2, rfl⟩ := h
    rfl
  obtain ⟨a, b, k, n1, n2, n3, rfl, b1, b2, b3, h1, h2, rfl⟩ := h
  exact ss_ret (pd_tup (pl_cons (pd_call (c__law_by T) hr (by decide) rfl (pl_cons (pd_ixT (pd_var 0) pd_int) (pl_cons (pd_var 1) pl_nil)) (by exact rel__law_by (h := h1))) (pl_cons (pd_call (c__law_by T) hr (by decide) rfl (pl_cons (pd_ixT (pd_var 0) pd_int) (pl_cons (pd_var 1) pl_nil)) (by exact rel__law_by (h := h2))) pl_nil))) (fun _ z => z)
theorem sc__law_off : FnScope ["_law_point"] ["_law_point"] (defScope (top 66)) := ⟨rfl, rfl, rfl, by decide +kernel, rfl, by decide +kernel, by decide +kernel⟩
theorem c__law_off (T : Txt K mg) : C8.Cal P w K mg base 3 "_law_off" (spP K R__law_off) [] := by
  refine okP T.t__law_off sc__law_off (fun _ _ _ _ _ _ us hl => match us, hl with | [_], _ => rfl) (fun ds d h => ?_) (fun f cdv A outer s H E m ds d hr h => ?_)
  · obtain ⟨a, b, n1, n2, rfl, b1, b2, h1, rfl⟩ := h
    rfl
  obtain ⟨a, b, n1, n2, rfl, b1, b2, h1, rfl⟩ := h
  exact ss_ret (pd_call (c__law_sum T) hr (by decide) rfl (pl_cons (pd_call (c__law_by T) hr (by decide) rfl (pl_cons (pd_ixT (pd_var 0) pd_int) (pl_cons (pd_ixT (pd_var 0) pd_int) pl_nil)) (by exact rel__law_by (h := by omega))) (pl_cons (pd_call (c__law_by T) hr (by decide) rfl (pl_cons (pd_ixT (pd_var 0) pd_int) (pl_cons (pd_ixT (pd_var 0) pd_int) pl_nil)) (by exact rel__law_by (h := by omega))) pl_nil)) (by exact rel__law_sum (h := h1))) (fun _ z => z)
theorem sc__law_way : FnScope ["_law_one_here", "_law_other"] ["_law_one_here", "_law_other"] (defScope (top 67)) := ⟨rfl, rfl, rfl, by decide +kernel, rfl, by decide +kernel, by decide +kernel⟩
theorem c__law_way (T : Txt K mg) : C8.Cal P w K mg base 4 "_law_way" (spP K R__law_way) [] := by
  refine okP T.t__law_way sc__law_way (fun _ _ _ _ _ _ us hl => match us, hl with | [_, _], _ => rfl) (fun ds d h => ?_) (fun f cdv A outer s H E m ds d hr h => ?_)
  · obtain ⟨a, b, c, e, n1, n2, n3, n4, rfl, b1, b2, b3, b4, h1, h2, rfl⟩ := h
    rfl
  obtain ⟨a, b, c, e, n1, n2, n3, n4, rfl, b1, b2, b3, b4, h1, h2, rfl⟩ := h
  exact ss_ret (pd_call (c__law_move T) hr (by decide) rfl (pl_cons (pd_var 1) (pl_cons (pd_call (c__law_scale T) hr (by decide) rfl (pl_cons (pd_var 0) (pl_cons (pd_neg pd_int) pl_nil)) (by exact rel__law_scale (by omega) (by omega))) pl_nil)) (by exact rel__law_move (by omega) (by omega))) (fun _ z => z.trans (by rw [show c + a * -1 = c - a by grind, show e + b * -1 = e - b by grind]))
theorem sc__law_whole_root : FnScope ["_law_number_here", "_law_found"] ["_law_number_here"] (defScope (top 69)) := ⟨rfl, rfl, rfl, by decide +kernel, rfl, by decide +kernel, by decide +kernel⟩
theorem c__law_whole_root (T : Txt K mg) : C8.Cal P w K mg base 1 "_law_whole_root" (spP K R__law_whole_root) [] := by
  refine okP T.t__law_whole_root sc__law_whole_root (fun _ _ _ _ _ _ us hl => match us, hl with | [_], _ => rfl) (fun ds d h => ?_) (fun f cdv A outer s H E m ds d hr h => ?_)
  · obtain ⟨n, k, rfl, h0, hk, hk2, rfl⟩ := h
    rfl
  obtain ⟨n, k, rfl, h0, hk, hk2, rfl⟩ := h
  refine ss_ifR (pb_lt (pd_var 0) pd_int) (fun e => ?_) (fun e => ?_)
  · exact ss_ret (pd_var 0) (fun _ z => z.trans (by rw [rt_small h0 (of_decide_eq_true e)]))
  · have h2 : 2 ≤ n := by
      have := of_decide_eq_false e
      omega
    have hbits : Builtin.Int.intBits n ≤ 8000 := Nat.le_trans (PyProof.Rows.intBits_le hk) hk2
    have hr1 := rt_pos (by omega : 1 ≤ n)
    have hpow : (2 : Int) ^ ((Builtin.Int.intBits n + 1) / 2) < 2 ^ 8001 := by
      have : (2 : Nat) ^ ((Builtin.Int.intBits n + 1) / 2) < 2 ^ 8001 := Nat.pow_lt_pow_right (by decide) (by omega)
      exact_mod_cast this
    refine ss_set1 1 (pd_oneshl pd_int (pd_le (pd_div (pd_add (pd_bits (pd_var 0)) pd_int) pd_int (wide_div (b := 2) (by decide) (by decide) (by decide) (by decide))) (S := Is (.int (((Builtin.Int.intBits n + 1) / 2 : Nat) : Int))) fun _ z => z.trans (by simp)) (by omega)) ?_ sc__law_whole_root.nd
    refine ss_while (ι := Int) (fun a => rt n ≤ a ∧ a < 2 ^ 8001) (fun a => [.d (.int n), .d (.int a)]) (fun a => decide (n < a * a)) (fun a => (a + n / a) / 2) (fun a => a.toNat) (2 ^ ((Builtin.Int.intBits n + 1) / 2)) (fgt_refl _) ⟨?_, hpow⟩ (fun a ha => ?_) (fun a ha ht => ?_) (fun a ha ht => ?_) (fun a ha ht => ?_) PassesOwn.never
    · have h3 := lt_start n h0
      have h4 := (rt_le h0).2.1
      have hc : (0 : Int) ≤ 2 ^ ((Builtin.Int.intBits n + 1) / 2) := L2.two_pow_nn _
      generalize (2 : Int) ^ ((Builtin.Int.intBits n + 1) / 2) = c at *
      rcases Int.lt_or_le c (rt n) with z | z
      · exfalso
        have h5 : c * c ≤ rt n * c := Int.mul_le_mul_of_nonneg_right (by omega) hc
        have h6 : rt n * c ≤ rt n * rt n := Int.mul_le_mul_of_nonneg_left (by omega) (by omega)
        omega
      · exact z
    · have ha2 : a.natAbs < 2 ^ 8001 := by
        have : (a.natAbs : Int) < ((2 ^ 8001 : Nat) : Int) := by
          rw [Int.natCast_pow]
          have : ((2 : Nat) : Int) = 2 := rfl
          rw [this]
          omega
        omega
      exact pb_gt (pd_mul (pd_var 1) (pd_var 1) (mulx_ok ha2 ha2 (by omega))) (pd_var 0)
    · have ha2 : a.natAbs < 2 ^ 8001 := by
        have : (a.natAbs : Int) < ((2 ^ 8001 : Nat) : Int) := by
          rw [Int.natCast_pow]
          have : ((2 : Nat) : Int) = 2 := rfl
          rw [this]
          omega
        omega
      refine ss_set1 1 (pd_div (pd_add (pd_var 1) (pd_div (pd_var 0) (pd_var 1) (wide_div (b := 8001) (by omega) ha2 (by decide) (by decide)))) pd_int (wide_div (b := 2) (by decide) (by decide) (by decide) (by decide))) ?_ sc__law_whole_root.nd
      exact ss_nil rfl
    · have h3 : n < a * a := of_decide_eq_true ht
      have h4 : n / a < a := Int.ediv_lt_of_lt_mul (by omega) h3
      have h5 : 0 ≤ n / a := Int.ediv_nonneg h0 (by omega)
      refine ⟨⟨rt_step h0 (by omega), ?_⟩, ?_⟩
      · omega
      · omega
    · have h3 : ¬ n < a * a := of_decide_eq_false ht
      exact ss_ret (pd_var 1) (fun _ z => z.trans (by rw [rt_end h0 ha.1 (by omega)]))
theorem sc__law_root : FnScope ["_law_number_here", "_law_above", "_law_under", "_law_high", "_law_low_here"] ["_law_number_here"] (defScope (top 70)) := ⟨rfl, rfl, rfl, by decide +kernel, rfl, by decide +kernel, by decide +kernel⟩
theorem c__law_root (T : Txt K mg) : C8.Cal P w K mg base 2 "_law_root" (spP K R__law_root) [] := by
  refine okP T.t__law_root sc__law_root (fun _ _ _ _ _ _ us hl => match us, hl with | [_], _ => rfl) (fun ds d h => ?_) (fun f cdv A outer s H E m ds d hr h => ?_)
  · obtain ⟨x, n, rfl, h0, hx, hn, rfl⟩ := h
    rfl
  obtain ⟨x, n, rfl, h0, hx, hn, rfl⟩ := h
  have hn0 := ratpos h0
  have hd0 := den_pos x
  have r1 := rt_abs hn0 hx.up
  have r2 := rt_abs (Int.le_of_lt hd0) (nd_bd hx.dn)
  refine ss_asg (pd_call (c__law_two T) hr (by decide) rfl (pl_cons (pd_var 0) pl_nil) (by exact rel__law_two)) (g_tup rfl (g_cons (g_name 1 sc__law_root.nd) (g_cons (g_name 2 sc__law_root.nd) g_nil))) ?_
  refine ss_par 3 4 rfl sc__law_root.nd (pl_cons (pd_call (c__law_whole_root T) hr (by decide) rfl (pl_cons (pd_var 1) pl_nil) (rel__law_whole_root hn0 hx.up hn)) (pl_cons (pd_call (c__law_whole_root T) hr (by decide) rfl (pl_cons (pd_var 2) pl_nil) (rel__law_whole_root (Int.le_of_lt hd0) (nd_bd hx.dn) hn)) pl_nil)) ?_
  refine ss_ret (S := Is (rootD x)) ?_ (fun _ z => z)
  unfold rootD sqr
  by_cases hc : rt x.num * rt x.num = x.num ∧ rt x.den * rt x.den = x.den
  · rw [if_pos hc]
    have hl : 0 < rt x.den := by
      have h1 := (rt_le (Int.le_of_lt hd0)).1
      rcases Int.lt_or_eq_of_le h1 with h | h
      · exact h
      · rw [← h] at hc
        have := hc.2
        omega
    exact pd_if (pb_w (pbw_and (pb_eq hr.units (pd_mul (pd_var 3) (pd_var 3) (by walk_at "cm")) (pd_var 1) (by walk_at "sh") (by walk_at "sh")) (fun _ => (pbw_and1 (pb_eq hr.units (pd_mul (pd_var 4) (pd_var 4) (by walk_at "cm")) (pd_var 2) (by walk_at "sh") (by walk_at "sh")))))) (fun _ => (pd_call (c__law_low T) hr (by decide) rfl (pl_cons (pd_var 3) (pl_cons (pd_var 4) pl_nil)) (by exact rel__law_low hl r2 (by omega)))) (fun h => by simp [PyData.eqv, hc.1, hc.2] at h)
  · rw [if_neg hc]
    exact pd_if (pb_w (pbw_and (pb_eq hr.units (pd_mul (pd_var 3) (pd_var 3) (by walk_at "cm")) (pd_var 1) (by walk_at "sh") (by walk_at "sh")) (fun _ => (pbw_and1 (pb_eq hr.units (pd_mul (pd_var 4) (pd_var 4) (by walk_at "cm")) (pd_var 2) (by walk_at "sh") (by walk_at "sh")))))) (fun h => absurd (by simpa [PyData.eqv] using h) hc) (fun _ => pd_non)
theorem sc__law_place : FnScope ["_law_point", "_law_aside", "_law_root_here", "_law_told", "_law_times", "_law_one_here", "_law_other", "_law_a", "_law_b", "_law_c", "_law_d"] ["_law_point", "_law_aside", "_law_root_here"] (defScope (top 71)) := ⟨rfl, rfl, rfl, by decide +kernel, rfl, by decide +kernel, by decide +kernel⟩
theorem c__law_place (T : Txt K mg) : C8.Cal P w K mg base 4 "_law_place" (spP K R__law_place) [] := by
  refine okP T.t__law_place sc__law_place (fun _ _ _ _ _ _ us hl => match us, hl with | [_, _, _], _ => rfl) (fun ds d h => ?_) (fun f cdv A outer s H E m ds d hr h => ?_)
  · obtain ⟨px, py, ax, ay, r, n1, n2, n3, rfl, ⟨r0, b1, b2, b3, b4, b5, hh⟩, rfl⟩ := h
    rfl
  obtain ⟨px, py, ax, ay, r, n1, n2, n3, rfl, ⟨r0, b1, b2, b3, b4, b5, hh⟩, rfl⟩ := h
  refine ss_set1 3 (pd_call (c__law_root T) hr (by decide) rfl (pl_cons (pd_var 2) pl_nil) (by exact (⟨r, n3, rfl, r0, b5, by omega, rfl⟩ : R__law_root _ _))) ?_ sc__law_place.nd
  unfold rootD
  cases hs : sqr r with
  | some w =>
    have bw : Bd w n3 := sqr_bd r0 b5 (by omega) hs
    have hw : isNoneD (num w) = false := by rcases num_cases w with ⟨e, _⟩ | ⟨e, _⟩ <;> rw [e] <;> rfl
    refine ss_ifR (pb_notN (pd_var 3)) (fun _ => ?_) (fun e => by rw [hw] at e; cases e)
    refine ss_ret (pd_tup (pl_cons (pd_call (c__law_move T) hr (by decide) rfl (pl_cons (pd_var 0) (pl_cons (pd_call (c__law_scale T) hr (by decide) rfl (pl_cons (pd_var 1) (pl_cons (pd_var 3) pl_nil)) (by exact (rel__law_scale (by omega) (by omega)))) pl_nil)) (by exact (rel__law_move (by omega) (by omega)))) (pl_cons (pd_tup (pl_cons pd_int (pl_cons pd_int pl_nil))) (pl_cons pd_int pl_nil)))) (fun _ z => z.trans ?_)
    unfold plN
    by_cases hz : r = 0 ∨ (ax = 0 ∧ ay = 0)
    · rw [if_pos hz]
      unfold Pl.d
      have hz2 : ax * w = 0 ∧ ay * w = 0 := by
        rcases hz with z | ⟨z1, z2⟩
        · subst z
          rw [sqr_zero] at hs
          have e := Option.some.inj hs
          rw [← e]
          exact ⟨Rat.mul_zero _, Rat.mul_zero _⟩
        · rw [z1, z2]
          exact ⟨Rat.zero_mul _, Rat.zero_mul _⟩
      simp only [pt, num0, hz2.1, hz2.2, Rat.add_zero]
    · rw [if_neg hz, hs]
      unfold Pl.d
      simp only [pt, num0]
  | none =>
    refine ss_ifR (pb_notN (pd_var 3)) (fun e => by cases e) (fun _ => ?_)
    have hr0 : r ≠ 0 := fun z => by
      rw [z, sqr_zero] at hs
      cases hs
    refine ss_ifR (pb_eq hr.units (pd_var 1) (pd_tup (pl_cons pd_int (pl_cons pd_int pl_nil))) (by walk_at "sh") (by walk_at "sh")) (fun e => ?_) (fun e => ?_)
    · refine ss_ret (pd_tup (pl_cons (pd_var 0) (pl_cons (pd_tup (pl_cons pd_int (pl_cons pd_int pl_nil))) (pl_cons pd_int pl_nil)))) (fun _ z => z.trans ?_)
      rw [eqv_pt0] at e
      have e2 : r = 0 ∨ (ax = 0 ∧ ay = 0) := .inr (by simpa using e)
      unfold plN
      rw [if_pos e2]
      unfold Pl.d
      simp only [pt, num0]
    · rw [eqv_pt0] at e
      have e3 : ¬ (ax = 0 ∧ ay = 0) := fun ⟨z1, z2⟩ => by
        rw [decide_eq_true z1, decide_eq_true z2] at e
        cases e
      have e2 : ¬ (r = 0 ∨ (ax = 0 ∧ ay = 0)) := fun z => z.elim hr0 e3
      refine ss_asg (pd_tup (pl_cons (pd_call (c__law_two T) hr (by decide) rfl (pl_cons (pd_ixT (pd_var 1) pd_int) pl_nil) (by exact rel__law_two)) (pl_cons (pd_call (c__law_two T) hr (by decide) rfl (pl_cons (pd_ixT (pd_var 1) pd_int) pl_nil) (by exact rel__law_two)) pl_nil))) (g_tup rfl (g_cons (g_tup rfl (g_cons (g_name 7 sc__law_place.nd) (g_cons (g_name 8 sc__law_place.nd) g_nil))) (g_cons (g_tup rfl (g_cons (g_name 9 sc__law_place.nd) (g_cons (g_name 10 sc__law_place.nd) g_nil))) g_nil))) ?_
      refine ss_par 5 6 rfl sc__law_place.nd (pl_cons (pd_abs (pd_mul (pd_var 7) (pd_var 10) (by walk_at "cm")) rfl T.f_abs) (pl_cons (pd_abs (pd_mul (pd_var 9) (pd_var 8) (by walk_at "cm")) rfl T.f_abs) pl_nil)) ?_
      have hg := plG_pos e3
      have hgb := plG_bd b3 b4 e3
      have hcd : ∀ i, CDivW i (plG ax ay) := fun i => ⟨hg, Nat.lt_of_lt_of_le (Nat.log2_lt (by omega) |>.mpr (bd_mono hgb (by omega : n2 + n2 ≤ 8999))) (by decide)⟩
      have hdd : (0 : Int) < (ax.den : Int) * (ay.den : Int) := Int.mul_pos (den_pos ax) (den_pos ay)
      have hdb : ((ax.den : Int) * (ay.den : Int)).natAbs < 2 ^ (n2 + n2) := mul_bd (nd_bd b3.dn) (nd_bd b4.dn)
      have bq : Bd ((plG ax ay : Rat) / (((ax.den : Int) * (ay.den : Int) : Int) : Rat)) (n2 + n2) := bd_frac hdd hgb hdb
      refine ss_while (ι := Nat × Nat) (fun i => Nat.gcd i.1 i.2 = Int.gcd (plX ax ay) (plY ax ay)) (fun i => [.d (pt px py), .d (pt ax ay), .d (num r), .d (.none), .no, .d (.int (i.1 : Int)), .d (.int (i.2 : Int)), .d (.int ax.num), .d (.int (ax.den : Int)), .d (.int ay.num), .d (.int (ay.den : Int))]) (fun i => decide ((0 : Int) < (i.2 : Int))) (fun i => (i.2, i.1 % i.2)) (fun i => i.2) ((plX ax ay).natAbs, (plY ax ay).natAbs) (fgt_refl _) rfl (fun i hi => ?_) (fun i hi ht => ?_) (fun i hi ht => ?_) (fun i hi ht => ?_) PassesOwn.never
      · exact (pb_gt (pd_var 6) pd_int)
      · have h0 : (0 : Int) < (i.2 : Int) := of_decide_eq_true ht
        refine ss_par 5 6 rfl sc__law_place.nd (pl_cons (pd_var 6) (pl_cons (pd_mod (pd_toInt (pd_var 5) rfl T.f_int) (pd_var 6) h0) pl_nil)) ?_
        exact ss_nil rfl
      · have h0 : (0 : Int) < (i.2 : Int) := of_decide_eq_true ht
        have h1 : 0 < i.2 := by omega
        refine ⟨?_, Nat.mod_lt _ h1⟩
        show Nat.gcd i.2 (i.1 % i.2) = Int.gcd (plX ax ay) (plY ax ay)
        rw [← hi, Nat.gcd_comm i.1 i.2, Nat.gcd_rec i.2 i.1, Nat.gcd_comm]
      · have h0 : i.2 = 0 := by
          have := of_decide_eq_false ht
          omega
        rw [h0, Nat.gcd_zero_right] at hi
        have hi2 : (i.1 : Int) = plG ax ay := by unfold plG; rw [← hi]
        rw [hi2, h0]
        refine ss_set1 4 (pd_call (c__law_low T) hr (by decide) rfl (pl_cons (pd_var 5) (pl_cons (pd_mul (pd_var 8) (pd_var 10) (by walk_at "cm")) pl_nil)) (by exact rel__law_low hdd hdb (by omega))) ?_ sc__law_place.nd
        refine ss_ret (pd_tup (pl_cons (pd_var 0) (pl_cons (pd_tup (pl_cons (pd_div (pd_mul (pd_var 7) (pd_var 10) (by walk_at "cm")) (pd_var 5) (hcd _)) (pl_cons (pd_div (pd_mul (pd_var 9) (pd_var 8) (by walk_at "cm")) (pd_var 5) (hcd _)) pl_nil))) (pl_cons (pd_call (c__law_by T) hr (by decide) rfl (pl_cons (pd_var 2) (pl_cons (pd_call (c__law_by T) hr (by decide) rfl (pl_cons (pd_var 4) (pl_cons (pd_var 4) pl_nil)) (by exact rel__law_by (h := by omega))) pl_nil)) (by exact rel__law_by (h := by omega))) pl_nil)))) (fun _ z => z.trans ?_)
        unfold plN
        rw [if_neg e2, hs]
        unfold Pl.d
        simp only [pt, num_int]
        rfl
end
end Cv

set_option Elab.async false
set_option linter.all false
set_option maxRecDepth 100000
set_option maxHeartbeats 4000000
namespace Cv
open PySem PySem.Spec PyProof.Rows L2


theorem units65 {k : Nat} {A : Around} (r : Room k A) : A.units + 65 < cLine := by have := r.un; omega
/-! x not in a tuple -/
def rNotInDT (K : PySem.W.Frag) : R2 := fun x y H Q => ∃ d ds, Dp K H x d ∧ Dp K H y (.tuple ds) ∧ SeqAt.shaped d = true ∧ SeqAt.shaped (.tuple ds) = true ∧ Q (.bl (!ds.any fun z => PyData.eqv z d)) H
theorem op_notInDT {X : Cx} (hu : X.A.units + 65 < cLine) : OpR X (compareOp .NotIn) (rNotInDT X.K) := by
  intro pins s σ H x y v u Q I rx ry h
  obtain ⟨d, ds, hd, he, sd, se, q⟩ := h
  obtain ⟨as, r1⟩ := Dp.reads I d x v hd rx
  obtain ⟨bs, r2⟩ := Dp.reads I (.tuple ds) y u he ry
  exact SeqAt.notIn_tuple_reads r2 r1 (SeqAt.canLay_of_shaped se) (SeqAt.canLay_of_shaped sd) (room_in_shaped sd hu) ⟨.bl _, H, I, rfl, q⟩
section
variable {X : Cx} {m : Md} {g : List Sl} {a b : Expr} {pos : Pos}
theorem w_nin {x : PyData} {ys : List PyData} (h1 : SeqAt.shaped x = true) (h2 : SeqAt.shaped (.tuple ys) = true) (σ : L2.St) (H : Hp) (Q : VK) : tI X.K m g (Is (.bool (!ys.any fun z => PyData.eqv z x))) σ H Q → tOp (rNotInDT X.K) (tI X.K m g (Is x)) (tI X.K m g (Is (.tuple ys))) σ H Q := fun ⟨o, k⟩ => ⟨o, fun u x H1 n1 s1 q1 => ⟨o.step n1, fun v y H2 n2 s2 q2 => by
  cases s1
  cases s2
  exact ⟨_, _, dp_mono (del_same _ _) _ _ (n2.dp q1), dp_mono (del_same _ _) _ _ q2, h1, h2, k _ _ H2 (n1.trans n2) rfl (.bl _)⟩⟩⟩
theorem pb_nin {x : PyData} {ys : List PyData} (hu : X.A.units + 65 < cLine) (ha : PD X m g a (Is x)) (hb : PD X m g b (Is (.tuple ys))) (h1 : SeqAt.shaped x = true) (h2 : SeqAt.shaped (.tuple ys) = true) (hm : behindInMarks .NotIn b = false := by rfl) : PB X m g (.Compare a [.NotIn] [b] pos) (Is (!ys.any fun z => PyData.eqv z x)) := pb_test (pt_cmpR (op_notInDT hu) ha hb hm) (w_nin h1 h2)
end
theorem bdLe {x : Rat} {n m : Nat} (b : Bd x n) (h : n ≤ m) : Bd x m := ⟨Nat.lt_of_lt_of_le b.up (Nat.pow_le_pow_right (by decide) h), Nat.lt_of_lt_of_le b.dn (Nat.pow_le_pow_right (by decide) h)⟩
structure PB' (p : Pl) (np na nr : Nat) : Prop where
  b1 : Bd p.px np
  b2 : Bd p.py np
  b3 : Bd p.ax na
  b4 : Bd p.ay na
  b5 : Bd p.r nr
  r0 : 0 ≤ p.r
def oD : Option Rat → PyData
  | some r => num r
  | none => .none
/-- the square of how far one place is from another; none if it is no number of this form -/
def farO (P Q : Pl) : Option Rat := if P.r ≠ Q.r ∧ P.r ≠ 0 ∧ Q.r ≠ 0 then none else
  if (Q.px - P.px) * (Q.ax - P.ax) + (Q.py - P.py) * (Q.ay - P.ay) = 0 then
    some ((Q.px - P.px) * (Q.px - P.px) + (Q.py - P.py) * (Q.py - P.py) + ((Q.ax - P.ax) * (Q.ax - P.ax) + (Q.ay - P.ay) * (Q.ay - P.ay)) * (if P.r = 0 then Q.r else P.r)) else none
def R__law_far : List PyData → PyData → Prop := fun ds d => ∃ (P Q : Pl) (np na nr : Nat), ds = [P.d, Q.d] ∧ PB' P np na nr ∧ PB' Q np na nr ∧ 8 * np + 8 * na + nr + 40 ≤ 8000 ∧ d = oD (farO P Q)
theorem rel__law_far {P Q : Pl} {np na nr : Nat} (h1 : PB' P np na nr) (h2 : PB' Q np na nr) (h : 8 * np + 8 * na + nr + 40 ≤ 8000 := by decide) : R__law_far [P.d, Q.d] (oD (farO P Q)) := ⟨P, Q, np, na, nr, rfl, h1, h2, h, rfl⟩
/-- the place in the middle, of the one form -/
def midP (P Q : Pl) : Pl := plN ((P.px + Q.px) * (1/2)) ((P.py + Q.py) * (1/2)) ((P.ax + Q.ax) * (1/2)) ((P.ay + Q.ay) * (1/2)) (if (P.ax + Q.ax) * (1/2) = 0 ∧ (P.ay + Q.ay) * (1/2) = 0 then 0 else if P.r = 0 then Q.r else P.r)
def midB (R P Q : Pl) : Bool := if P.r ≠ Q.r ∧ P.r ≠ 0 ∧ Q.r ≠ 0 then false else PyData.eqv R.d (midP P Q).d
def R__law_in_midst : List PyData → PyData → Prop := fun ds d => ∃ (R P Q : Pl) (np na nr : Nat), ds = [R.d, P.d, Q.d] ∧ PB' P np na nr ∧ PB' Q np na nr ∧ 4 * np + 4 * na + nr + 40 ≤ 7900 ∧ 16 * na + nr + 40 ≤ 7900 ∧ d = .bool (midB R P Q)
theorem rel__law_in_midst {R P Q : Pl} {np na nr : Nat} (h1 : PB' P np na nr) (h2 : PB' Q np na nr) (h : 4 * np + 4 * na + nr + 40 ≤ 7900 := by decide) (h' : 16 * na + nr + 40 ≤ 7900 := by decide) : R__law_in_midst [R.d, P.d, Q.d] (.bool (midB R P Q)) := ⟨R, P, Q, np, na, nr, rfl, h1, h2, h, h', rfl⟩
theorem num2_shaped (x y : Rat) : SeqAt.shaped (.tuple [num x, num y]) = true := pt_shaped x y
theorem nin_num (x y : Rat) : (![num x, num y].any fun z => PyData.eqv z (.int 0)) = (decide (x ≠ 0) && decide (y ≠ 0)) := by
  simp only [List.any_cons, List.any_nil, eqv_n0, Bool.or_false, Bool.not_or]
  by_cases h1 : x = 0 <;> by_cases h2 : y = 0 <;> simp [h1, h2]
theorem cond_far (x y : Rat) : ((!PyData.eqv (num x) (num y)) && (![num x, num y].any fun z => PyData.eqv z (.int 0))) = decide (x ≠ y ∧ x ≠ 0 ∧ y ≠ 0) := by
  rw [nin_num, num_eqv]
  by_cases h : x = y <;> by_cases h1 : x = 0 <;> by_cases h2 : y = 0 <;> simp [h, h1, h2]

local macro_rules | `(tactic| walk_at "nb") => `(tactic| (first | exact Bd.up | exact nd_bd Bd.dn | assumption | (apply mul_bd <;> walk_at "nb") | (apply add_bd <;> walk_at "nb")))
local macro_rules | `(tactic| walk_at "cm") => `(tactic| (apply mulx_ok; (walk_at "nb"); (walk_at "nb"); omega))
local macro_rules | `(tactic| walk_at "sh") => `(tactic| (first | exact num_shaped _ | exact shp_int _ | exact shp_int2 _ _ | exact shp_none))
local macro_rules | `(tactic| walk_at "sh") => `(tactic| (first | exact num_shaped _ | exact pt_shaped _ _ | exact pl_shaped _ | exact shp_int _ | exact shp_int2 _ _ | exact shp_none))
section
variable {P : Program} {w : World} {K : PySem.W.Frag} {mg : Str → Option Value} {base : Heap}

theorem sc__law_far : FnScope ["_law_one_here", "_law_other", "_law_aside", "_law_cross", "_law_way_here", "_law_root_here"] ["_law_one_here", "_law_other"] (defScope (top 72)) := ⟨rfl, rfl, rfl, by decide +kernel, rfl, by decide +kernel, by decide +kernel⟩
theorem c__law_far (T : Txt K mg) : C8.Cal P w K mg base 5 "_law_far" (spP K R__law_far) [] := by
  refine okP T.t__law_far sc__law_far (fun _ _ _ _ _ _ us hl => match us, hl with | [_, _], _ => rfl) (fun ds d h => ?_) (fun f cdv A outer s H E m ds d hr h => ?_)
  · obtain ⟨⟨px, py, ax, ay, r⟩, ⟨qx, qy, cx, cy, r2⟩, np, na, nr, rfl, ⟨b1, b2, b3, b4, b5, r0⟩, ⟨d1, d2, d3, d4, d5, e0⟩, hB, rfl⟩ := h
    rfl
  obtain ⟨⟨px, py, ax, ay, r⟩, ⟨qx, qy, cx, cy, r2⟩, np, na, nr, rfl, ⟨b1, b2, b3, b4, b5, r0⟩, ⟨d1, d2, d3, d4, d5, e0⟩, hB, rfl⟩ := h
  simp only at b1 b2 b3 b4 b5 r0 d1 d2 d3 d4 d5 e0
  have b6 : Bd (if r = 0 then r2 else r) nr := by
    by_cases z : r = 0
    · rw [if_pos z]; exact d5
    · rw [if_neg z]; exact b5
  refine ss_par 4 5 rfl sc__law_far.nd (pl_cons (pd_call (c__law_way T) hr (by decide) rfl (pl_cons (pd_ixT (pd_var 0) pd_int) (pl_cons (pd_ixT (pd_var 1) pd_int) pl_nil)) (by exact (rel__law_way (by omega) (by omega)))) (pl_cons (pd_if (S := Is (num (if r = 0 then r2 else r))) (pb_ne hr.units (pd_ixT (pd_var 0) pd_int) pd_int (by walk_at "sh") (by walk_at "sh")) (fun hc => pd_le (pd_ixT (pd_var 0) pd_int) (fun d z => z.trans (by rw [eqv_n0] at hc; rw [if_neg (by simpa using hc)]))) (fun hc => pd_le (pd_ixT (pd_var 1) pd_int) (fun d z => z.trans (by rw [eqv_n0] at hc; rw [if_pos (by simpa using hc)])))) pl_nil)) ?_
  refine ss_set1 2 (pd_call (c__law_way T) hr (by decide) rfl (pl_cons (pd_ixT (pd_var 0) pd_int) (pl_cons (pd_ixT (pd_var 1) pd_int) pl_nil)) (by exact (rel__law_way (by omega) (by omega)))) ?_ sc__law_far.nd
  refine ss_ifR (pb_w (pbw_and (pb_ne hr.units (pd_ixT (pd_var 0) pd_int) (pd_ixT (pd_var 1) pd_int) (by walk_at "sh") (by walk_at "sh")) (fun _ => (pbw_and1 (pb_nin (units65 hr) pd_int (pd_tup (pl_cons (pd_ixT (pd_var 0) pd_int) (pl_cons (pd_ixT (pd_var 1) pd_int) pl_nil))) (by walk_at "sh") (num2_shaped _ _)))))) (fun e => ?_) (fun e => ?_)
  · rw [cond_far] at e
    refine ss_ret pd_non (fun _ z => z.trans ?_)
    unfold farO
    rw [if_pos (of_decide_eq_true e)]
    rfl
  · rw [cond_far] at e
    have e2 := of_decide_eq_false e
    refine ss_set1 3 (pd_call (c__law_sum T) hr (by decide) rfl (pl_cons (pd_call (c__law_by T) hr (by decide) rfl (pl_cons (pd_ixT (pd_var 4) pd_int) (pl_cons (pd_ixT (pd_var 2) pd_int) pl_nil)) (by exact (rel__law_by (h := by omega)))) (pl_cons (pd_call (c__law_by T) hr (by decide) rfl (pl_cons (pd_ixT (pd_var 4) pd_int) (pl_cons (pd_ixT (pd_var 2) pd_int) pl_nil)) (by exact (rel__law_by (h := by omega)))) pl_nil)) (by exact (rel__law_sum (h := by omega)))) ?_ sc__law_far.nd
    refine ss_ret (S := Is (oD (farO ⟨px, py, ax, ay, r⟩ ⟨qx, qy, cx, cy, r2⟩))) ?_ (fun _ z => z)
    unfold farO
    rw [if_neg e2]
    by_cases hc : (qx - px) * (cx - ax) + (qy - py) * (cy - ay) = 0
    · rw [if_pos hc]
      exact pd_if (pb_eq hr.units (pd_var 3) pd_int (by walk_at "sh") (by walk_at "sh")) (fun _ => (pd_call (c__law_sum T) hr (by decide) rfl (pl_cons (pd_call (c__law_off T) hr (by decide) rfl (pl_cons (pd_var 4) pl_nil) (by exact (rel__law_off (h := by omega)))) (pl_cons (pd_call (c__law_by T) hr (by decide) rfl (pl_cons (pd_call (c__law_off T) hr (by decide) rfl (pl_cons (pd_var 2) pl_nil) (by exact (rel__law_off (h := by omega)))) (pl_cons (pd_var 5) pl_nil)) (by exact (rel__law_by (h := by omega)))) pl_nil)) (by exact (rel__law_sum (h := by omega))))) (fun z => by rw [eqv_n0, decide_eq_true hc] at z; cases z)
    · rw [if_neg hc]
      exact pd_if (pb_eq hr.units (pd_var 3) pd_int (by walk_at "sh") (by walk_at "sh")) (fun z => by rw [eqv_n0, decide_eq_false hc] at z; cases z) (fun _ => pd_non)
theorem sc__law_in_midst : FnScope ["_law_place_here", "_law_one_here", "_law_other", "_law_root_here", "_law_aside"] ["_law_place_here", "_law_one_here", "_law_other"] (defScope (top 73)) := ⟨rfl, rfl, rfl, by decide +kernel, rfl, by decide +kernel, by decide +kernel⟩
theorem c__law_in_midst (T : Txt K mg) : C8.Cal P w K mg base 5 "_law_in_midst" (spP K R__law_in_midst) [] := by
  refine okP T.t__law_in_midst sc__law_in_midst (fun _ _ _ _ _ _ us hl => match us, hl with | [_, _, _], _ => rfl) (fun ds d h => ?_) (fun f cdv A outer s H E m ds d hr h => ?_)
  · obtain ⟨⟨sx, sy, ex, ey, r3⟩, ⟨px, py, ax, ay, r⟩, ⟨qx, qy, cx, cy, r2⟩, np, na, nr, rfl, ⟨b1, b2, b3, b4, b5, r0⟩, ⟨d1, d2, d3, d4, d5, e0⟩, hB, hB2, rfl⟩ := h
    rfl
  obtain ⟨⟨sx, sy, ex, ey, r3⟩, ⟨px, py, ax, ay, r⟩, ⟨qx, qy, cx, cy, r2⟩, np, na, nr, rfl, ⟨b1, b2, b3, b4, b5, r0⟩, ⟨d1, d2, d3, d4, d5, e0⟩, hB, hB2, rfl⟩ := h
  simp only at b1 b2 b3 b4 b5 r0 d1 d2 d3 d4 d5 e0
  have b6 : Bd (if r = 0 then r2 else r) nr := by
    by_cases z : r = 0
    · rw [if_pos z]; exact d5
    · rw [if_neg z]; exact b5
  have r6 : 0 ≤ (if r = 0 then r2 else r) := by
    by_cases z : r = 0
    · rw [if_pos z]; exact e0
    · rw [if_neg z]; exact r0
  refine ss_ifR (pb_w (pbw_and (pb_ne hr.units (pd_ixT (pd_var 1) pd_int) (pd_ixT (pd_var 2) pd_int) (by walk_at "sh") (by walk_at "sh")) (fun _ => (pbw_and1 (pb_nin (units65 hr) pd_int (pd_tup (pl_cons (pd_ixT (pd_var 1) pd_int) (pl_cons (pd_ixT (pd_var 2) pd_int) pl_nil))) (by walk_at "sh") (num2_shaped _ _)))))) (fun e => ?_) (fun e => ?_)
  · rw [cond_far] at e
    refine ss_ret pd_bl (fun _ z => z.trans ?_)
    unfold midB
    rw [if_pos (of_decide_eq_true e)]
  · rw [cond_far] at e
    have e2 := of_decide_eq_false e
    refine ss_par 3 4 rfl sc__law_in_midst.nd (pl_cons (pd_if (S := Is (num (if r = 0 then r2 else r))) (pb_ne hr.units (pd_ixT (pd_var 1) pd_int) pd_int (by walk_at "sh") (by walk_at "sh")) (fun hc => pd_le (pd_ixT (pd_var 1) pd_int) (fun d z => z.trans (by rw [eqv_n0] at hc; rw [if_neg (by simpa using hc)]))) (fun hc => pd_le (pd_ixT (pd_var 2) pd_int) (fun d z => z.trans (by rw [eqv_n0] at hc; rw [if_pos (by simpa using hc)])))) (pl_cons (pd_call (c__law_scale T) hr (by decide) rfl (pl_cons (pd_call (c__law_move T) hr (by decide) rfl (pl_cons (pd_ixT (pd_var 1) pd_int) (pl_cons (pd_ixT (pd_var 2) pd_int) pl_nil)) (by exact (rel__law_move (by omega) (by omega)))) (pl_cons (pd_tup (pl_cons pd_int (pl_cons pd_int pl_nil))) pl_nil)) (by exact (rel__law_scale (by omega) (by omega)))) pl_nil)) ?_
    have b7 : Bd (if (ax + cx) * (1/2) = 0 ∧ (ay + cy) * (1/2) = 0 then 0 else if r = 0 then r2 else r) (nr + 1) := by
      by_cases z : (ax + cx) * (1/2) = 0 ∧ (ay + cy) * (1/2) = 0
      · rw [if_pos z]; exact bdLe bd0 (by omega)
      · rw [if_neg z]; exact bdLe b6 (by omega)
    have r7 : 0 ≤ (if (ax + cx) * (1/2) = 0 ∧ (ay + cy) * (1/2) = 0 then 0 else if r = 0 then r2 else r) := by
      by_cases z : (ax + cx) * (1/2) = 0 ∧ (ay + cy) * (1/2) = 0
      · rw [if_pos z]; exact Rat.le_refl
      · rw [if_neg z]; exact r6
    have c1 : Bd ((px + qx) * (1/2)) (np + np + 1 + 2) := bdMul
    have c2 : Bd ((py + qy) * (1/2)) (np + np + 1 + 2) := bdMul
    have c3 : Bd ((ax + cx) * (1/2)) (na + na + 1 + 2) := bdMul
    have c4 : Bd ((ay + cy) * (1/2)) (na + na + 1 + 2) := bdMul
    refine ss_ret (S := Is (.bool (PyData.eqv (Pl.d ⟨sx, sy, ex, ey, r3⟩) (midP ⟨px, py, ax, ay, r⟩ ⟨qx, qy, cx, cy, r2⟩).d))) ?_ (fun _ z => z.trans ?_)
    · refine pd_eq hr.units (pd_var 0) ?_ (pl_shaped _) (pl_shaped _)
      refine pd_call (c__law_place T) hr (by decide) rfl (pl_cons (pd_call (c__law_scale T) hr (by decide) rfl (pl_cons (pd_call (c__law_move T) hr (by decide) rfl (pl_cons (pd_ixT (pd_var 1) pd_int) (pl_cons (pd_ixT (pd_var 2) pd_int) pl_nil)) (by exact (rel__law_move (by omega) (by omega)))) (pl_cons (pd_tup (pl_cons pd_int (pl_cons pd_int pl_nil))) pl_nil)) (by exact (rel__law_scale (by omega) (by omega)))) (pl_cons (pd_var 4) (pl_cons (pd_if (S := Is (num (if (ax + cx) * (1/2) = 0 ∧ (ay + cy) * (1/2) = 0 then 0 else if r = 0 then r2 else r))) (pb_ne hr.units (pd_var 4) (pd_tup (pl_cons pd_int (pl_cons pd_int pl_nil))) (by walk_at "sh") (by walk_at "sh")) (fun hc => pd_le (pd_var 3) (fun d z => z.trans ?_)) (fun hc => pd_le pd_int (fun d z => z.trans ?_))) pl_nil))) (by exact (rel__law_place ⟨r7, c1, c2, c3, c4, b7, by omega⟩))
      · rw [eqv_pt0] at hc
        have hc2 : ¬ ((ax + cx) * (1/2) = 0 ∧ (ay + cy) * (1/2) = 0) := fun z => by
          rw [decide_eq_true z.1, decide_eq_true z.2] at hc
          cases hc
        rw [if_neg hc2]
      · rw [eqv_pt0] at hc
        have hc2 : (ax + cx) * (1/2) = 0 ∧ (ay + cy) * (1/2) = 0 := by simpa using hc
        rw [if_pos hc2, num0]
    · unfold midB
      rw [if_neg e2]
end
end Cv

set_option Elab.async false
set_option linter.all false
set_option maxRecDepth 100000
set_option maxHeartbeats 2000000
/-! A list that grows by statements: hidden while it grows. -/
namespace Cv
open PySem PySem.Spec PyProof.Rows L2
theorem kp_cons {zs : List Addr} {H H' : Hp} {D : Addr} (k : Kp zs H H') : Kp (D :: zs) H H' := fun b u e => by
  obtain ⟨h1, h2⟩ := del_some e
  have nb : b ∉ zs := fun z => h1 (List.mem_cons_of_mem _ z)
  have e3 := k b u (by rw [del_out nb]; exact h2)
  rw [del_out h1]
  exact (del_some e3).2
def Md.gr (K : PySem.W.Frag) (m : Md) (D : Addr) (ds : List PyData) : Md := ⟨D :: m.zs, fun H => m.W (del [D] H) ∧ ∃ acc, H D = some (.lst acc) ∧ DpAll K (del (D :: m.zs) H) acc ds, fun H H' s h => ⟨m.mono _ _ (same_del s) h.1, let ⟨acc, e, q⟩ := h.2; ⟨acc, s D _ e, dps_mono (same_del s) _ _ q⟩⟩⟩
/-- statements inside: what they come to is told of the mode outside -/
def tO (K : PySem.W.Frag) (mo m : Md) (g : List Sl) (R : PyData → Prop) (N : List Sl → Prop) : TS := fun D σ H => Okk K m g σ H ∧ (∀ v d H', Kp m.zs H H' → Alc mo.zs H' → mo.W H' → R d → Dp K (del mo.zs H') v d → D.rt v H') ∧
  ∀ g' σ' H', Kp m.zs H H' → Alc mo.zs H' → mo.W H' → N g' → Okk K mo g' σ' H' → D.nx σ' H'
theorem repS_len {K : PySem.W.Frag} {H : Hp} : ∀ {g : List Sl} {σ : L2.St}, RepS K H g σ → g.length = σ.length
  | [], [], _ => rfl
  | _ :: _, _ :: _, ⟨_, h⟩ => congrArg (· + 1) (repS_len h)
  | [], _ :: _, h => h.elim
  | _ :: _, [], h => h.elim
theorem repS_of {K : PySem.W.Frag} {H : Hp} : ∀ {g : List Sl} {σ : L2.St}, g.length = σ.length → (∀ (i : Nat) (x : Sl) (o : Option V), g[i]? = some x → σ[i]? = some o → SlOk K H x o) → RepS K H g σ
  | [], [], _, _ => trivial
  | s :: g, o :: σ, e, h => ⟨h 0 s o rfl rfl, repS_of (Nat.succ.inj e) fun i x o e1 e2 => h (i + 1) x o e1 e2⟩
  | [], _ :: _, e, _ => by cases e
  | _ :: _, [], e, _ => by cases e
/-- forgetting by places -/
theorem repS_less {K : PySem.W.Frag} {H : Hp} {g g' : List Sl} {σ : L2.St} (r : RepS K H g σ) (hl : g'.length = g.length) (h : ∀ (i : Nat) (x : Sl), g'[i]? = some x → x = .no ∨ g[i]? = some x) : RepS K H g' σ := by
  refine repS_of (hl.trans (repS_len r)) fun i x o e1 e2 => ?_
  rcases h i x e1 with e | e
  · subst e
    trivial
  · obtain ⟨o', e3, q⟩ := repS_get r e
    rw [e2] at e3
    cases e3
    exact q
theorem setD_len : ∀ (g : List Sl) (ix : List Nat) (ds : List PyData), (setD g ix ds).length = g.length
  | g, i :: is, d :: ds => by
    show (setD (g.set i (.d d)) is ds).length = _
    rw [setD_len, List.length_set]
  | _, [], _ => rfl
  | _, _ :: _, [] => rfl
theorem setD_get : ∀ (g : List Sl) (ix : List Nat) (ds : List PyData) (j : Nat), j ∉ ix → (setD g ix ds)[j]? = g[j]?
  | g, i :: is, d :: ds, j, h => by
    show (setD (g.set i (.d d)) is ds)[j]? = _
    rw [setD_get _ is ds j fun z => h (List.mem_cons_of_mem _ z), List.getElem?_set_ne fun e => h (by rw [e]; exact List.mem_cons_self)]
  | _, [], _, _, _ => rfl
  | _, _ :: _, [], _, _ => rfl
theorem wipeG_len (g : List Sl) : ∀ vs : List Nat, (wipeG g vs).length = g.length
  | [] => rfl
  | v :: vs => by
    show ((wipeG g vs).set v .no).length = _
    rw [List.length_set, wipeG_len g vs]
theorem wipeG_mem (g : List Sl) : ∀ (vs : List Nat) (j : Nat) (x : Sl), j ∈ vs → (wipeG g vs)[j]? = some x → x = .no
  | v :: vs, j, x, h, e => by
    have e' : ((wipeG g vs).set v .no)[j]? = some x := e
    by_cases hj : v = j
    · subst hj
      rw [List.getElem?_set] at e'
      simp only [if_true] at e'
      split at e'
      · exact (Option.some.inj e').symm
      · cases e'
    · rw [List.getElem?_set_ne hj] at e'
      exact wipeG_mem g vs j x ((List.mem_cons.mp h).elim (fun z => absurd z.symm hj) id) e'
def TgK.ix : TgK → List Nat
  | .one i => [i]
  | .tup ix => ix
theorem tgk_less {K : PySem.W.Frag} {H : Hp} {t : TgK} {g : List Sl} {d : PyData} {σ : L2.St} (r : RepS K H (t.set (wipeG g t.ix) d) σ) : RepS K H (wipeG g t.ix) σ := by
  cases t with
  | one i =>
    refine repS_less r ?_ fun j x e => ?_
    · exact (List.length_set ..).symm
    · by_cases hj : i = j
      · exact .inl (wipeG_mem g [i] j x (by simp [hj]) e)
      · exact .inr ((List.getElem?_set_ne hj).trans e)
  | tup ix =>
    cases d with
    | tuple ds =>
      refine repS_less r ?_ fun j x e => ?_
      · exact (setD_len _ _ _).symm
      · by_cases hj : j ∈ ix
        · exact .inl (wipeG_mem g ix j x hj e)
        · exact .inr ((setD_get _ ix ds j hj).trans e)
    | _ => exact r
theorem tgk_own (t : TgK) : t.own t.ix := by
  cases t with
  | one i => exact List.mem_cons_self
  | tup ix => exact fun i h => h
section
variable {X : Cx} {mo : Md} {g : List Sl} {D : Addr} {R : PyData → Prop} {N : List Sl → Prop} {e : Expr} {es : List Expr} {rest : List Stmt} {pos pos1 pos2 apos : Pos} {ds : List PyData}
/-- x = [..], x to grow -/
theorem ss_hideL (i : Nat) {n : Str} {pos' : Pos} (ha : PL X mo g es (Is ds)) (hz : ds.length ≤ 1000) (hr : ∀ D, D ∉ mo.zs → PSs X rest (tO X.K mo (mo.gr X.K D ds) (g.set i (.v (.ref D))) R N)) (hN : X.N.Nodup) (hi : X.N[i]? = some n := by rfl) (hx : Loc X.env.scope n := by first | exact Or.inl rfl | exact Or.inr rfl)
    (hs : swapsWith (.List es pos1) (some (.Name n pos')) pos.line X.env = pure false := by rfl) (hf : X.fn n = true ∨ X.env.scope.names.lookup n = some .local := by first | exact .inl rfl | exact .inr rfl) : PQ X mo g (.Assign [.Name n pos'] (.List es pos1) pos :: rest) R N :=
  PSs.wk (pss_cons (ps_set hN hi hx (pe_lst ha) hs hf) (PSs.ex fun D => PSs.imp (hr D))) fun E σ H ⟨o, k1, k2⟩ => ⟨o, fun xs ds' H1 n1 s1 q1 => by
    cases s1
    have h4 : (1000 : Nat) < sizeLine := by decide
    refine ⟨by rw [dps_len q1]; omega, fun p hp => ?_⟩
    have nx : ∀ {H'}, Kp (p :: mo.zs) (upd H1 p (.lst xs)) H' → Alc mo.zs H' → mo.W H' → Nxt mo H H' := fun {H'} k a w => n1.trans ⟨kp_new hp n1.al k, a, w⟩
    refine ⟨p, n1.al.ne hp, ⟨?_, ⟨?_, xs, upd_same, ?_⟩, ?_⟩, fun v d H' k a w r q => k1 v d H' (nx k a w) r q, fun g' σ' H' k a w r o' => k2 g' σ' H' (nx k a w) r o'⟩
    · intro z hz
      rcases List.mem_cons.mp hz with e | hz
      · exact ⟨_, by rw [e, upd_same]⟩
      · obtain ⟨w, e⟩ := n1.al z hz
        exact ⟨w, by rw [upd_ne (ne_of_none e hp)]; exact e⟩
    · rw [del1_new hp]
      exact n1.w
    · rw [del_new hp]
      exact q1
    · show RepS X.K (del (p :: mo.zs) (upd H1 p (.lst xs))) _ _
      rw [del_new hp]
      exact repS_set (x := .v (.ref p)) rfl i (o.step n1).rp⟩
theorem set_self {σ : L2.St} {i : Nat} {o : Option V} (h : σ[i]? = some o) : σ.set i o = σ := by
  refine List.ext_getElem? fun j => ?_
  by_cases hj : i = j
  · subst hj
    rw [List.getElem?_set]
    have := (List.getElem?_eq_some_iff.mp h).1
    rw [if_pos rfl, if_pos this, h]
  · rw [List.getElem?_set_ne hj]
/-- it is data from here on -/
theorem o_show (i : Nat) (hD : D ∉ mo.zs) (hr : PQ X mo (g.set i (.d (.list ds))) rest R N) (hg : g[i]? = some (.v (.ref D)) := by rfl) : PSs X rest (tO X.K mo (mo.gr X.K D ds) g R N) := PSs.wk hr fun E σ H ⟨o, k1, k2⟩ => by
  obtain ⟨w, acc, e1, e2⟩ := o.w
  have al : Alc mo.zs H := fun z hz => o.al z (List.mem_cons_of_mem _ hz)
  have wo : mo.W H := mo.mono _ _ (del_same _ _) w
  obtain ⟨ov, h1, h2⟩ := repS_get o.rp hg
  have h2' : ov = some (.ref D) := h2
  subst h2'
  have q : Dp X.K (del mo.zs H) (.ref D) (.list ds) := .lst (SqL.of (by rw [del_out hD]; exact e1)) (dps_mono (del_cons_same _ _ _) _ _ e2)
  have rp : RepS X.K (del mo.zs H) (g.set i (.d (.list ds))) σ := by
    have := repS_set (slOk_d q) i (repS_mono (del_cons_same _ _ _) o.rp)
    rw [set_self h1] at this
    exact this
  exact ⟨⟨al, wo, rp⟩, fun v d H' n => k1 v d H' (kp_cons n.kp) n.al n.w, fun g' σ' H' n => k2 g' σ' H' (kp_cons n.kp) n.al n.w⟩
/-- one statement that lets it grow -/
def tGr (K : PySem.W.Frag) (mo : Md) (D : Addr) (ds ds2 : List PyData) (g : List Sl) : TS := fun E σ H => Okk K (mo.gr K D ds) g σ H ∧ ∀ H', Kp (D :: mo.zs) H H' → Okk K (mo.gr K D (ds ++ ds2)) g σ H' → E.nx σ H'
theorem okk_gr {K : PySem.W.Frag} {σ : L2.St} {H H1 : Hp} {acc vs : List V} {ds2 : List PyData} (o : Okk K (mo.gr K D ds) g σ H) (n : Nxt (mo.gr K D ds) H H1) (e : H1 D = some (.lst acc)) (q : DpAll K (del (D :: mo.zs) H1) vs ds2) : Kp (D :: mo.zs) H (upd H1 D (.lst (acc ++ vs))) ∧ Okk K (mo.gr K D (ds ++ ds2)) g σ (upd H1 D (.lst (acc ++ vs))) := by
  have e0 : del (D :: mo.zs) (upd H1 D (.lst (acc ++ vs))) = del (D :: mo.zs) H1 := del_upd List.mem_cons_self
  obtain ⟨w, acc', e1, e2⟩ := n.w
  rw [e] at e1
  cases e1
  refine ⟨fun b u z => by rw [e0]; exact n.kp b u z, fun z hz => ?_, ⟨?_, _, upd_same, ?_⟩, ?_⟩
  · by_cases hz2 : z = D
    · exact ⟨_, by rw [hz2, upd_same]⟩
    · obtain ⟨w, ew⟩ := n.al z hz
      exact ⟨w, by rw [upd_ne hz2]; exact ew⟩
  · rw [del_upd List.mem_cons_self]
    exact w
  · rw [e0]
    exact dps_app e2 q
  · show RepS K (del (D :: mo.zs) _) g σ
    rw [e0]
    exact (o.step n).rp
theorem app_one (i : Nat) {n : Str} {d : PyData} (h : PD X (mo.gr X.K D ds) g e (Is d)) (hz : ds.length ≤ 1000) (hg : g[i]? = some (.v (.ref D)) := by rfl) (hN : X.N[i]? = some n := by rfl) (hv : Vis X.env.scope n := by first | exact Or.inl rfl | exact Or.inr (Or.inl rfl) | exact Or.inr (Or.inr rfl))
    (hd : (n == ("__debug__" : Str)) = false := by decide) (hcd : (n == ("__classdict__" : Str)) = false := by decide)
    (hbase : attributeBase (.Name n pos1) "append" X.env (eval (.Name n pos1) X.env) = eval (.Name n pos1) X.env := by rfl) (hfew : ((backTo pos2 (starEach [e] X.env)).all (fun x => !x.1) && (backToKw pos2 (keywordEach [] X.env)).all (fun x => x.1.isSome)
      && decide ([e].length + ([] : List Keyword).length + (if ([] : List Keyword).isEmpty then 0 else 1) < 30)) = true := by rfl)
    (hline : (apos.endLine == pos2.line) = true := by rfl) (hst : starEach [e] X.env = (false, eval e X.env) :: starEach [] X.env := by rfl)
    (hs : swapsWith (.Call (.Attribute (.Name n pos1) "append" apos) [e] [] pos2) none pos.line X.env = pure false := by rfl) : PS X (.Expr (.Call (.Attribute (.Name n pos1) "append" apos) [e] [] pos2) pos) (tGr X.K mo D ds [d] g) :=
  PS.wk (ps_expr (pe_bm PySem.F.plainAttrs_list PySem.F.slot_list_append PySem.F.type_list_append mt_append (pe_var hN hv hd hcd) (pl_cons h pl_nil hst) hbase hfew hline hst) hs) fun E σ H ⟨o, k⟩ => by
    obtain ⟨ov, h1, h2⟩ := repS_get o.rp hg
    have h2' : ov = some (.ref D) := h2
    subst h2'
    obtain ⟨w, acc, e1, e2⟩ := o.w
    refine ⟨_, h1, .inl ⟨rfl, _, SqL.of e1⟩, o, fun vs ds1 H1 n1 s1 q1 => ?_⟩
    cases s1
    obtain ⟨u, rfl, q2⟩ := dps1 q1
    obtain ⟨w1, acc1, e3, e4⟩ := n1.w
    obtain ⟨k2, o2⟩ := okk_gr o n1 e3 q1
    have h4 : (1000 : Nat) < sizeLine := by decide
    exact ⟨D, acc1, u, rfl, rfl, e3, by rw [dps_len e4]; omega, k _ k2 o2⟩
theorem ext_one (i : Nat) {n : Str} {ds2 : List PyData} {posl : Pos} (h : PL X (mo.gr X.K D ds) g es (Is ds2)) (hz : ds.length ≤ 1000) (hz2 : ds2.length ≤ 1000) (hg : g[i]? = some (.v (.ref D)) := by rfl) (hN : X.N[i]? = some n := by rfl) (hv : Vis X.env.scope n := by first | exact Or.inl rfl | exact Or.inr (Or.inl rfl) | exact Or.inr (Or.inr rfl))
    (hd : (n == ("__debug__" : Str)) = false := by decide) (hcd : (n == ("__classdict__" : Str)) = false := by decide)
    (hbase : attributeBase (.Name n pos1) "extend" X.env (eval (.Name n pos1) X.env) = eval (.Name n pos1) X.env := by rfl) (hfew : ((backTo pos2 (starEach [.List es posl] X.env)).all (fun x => !x.1) && (backToKw pos2 (keywordEach [] X.env)).all (fun x => x.1.isSome)
      && decide ([Expr.List es posl].length + ([] : List Keyword).length + (if ([] : List Keyword).isEmpty then 0 else 1) < 30)) = true := by rfl)
    (hline : (apos.endLine == pos2.line) = true := by rfl) (hst : starEach [.List es posl] X.env = (false, eval (.List es posl) X.env) :: starEach [] X.env := by rfl)
    (hs : swapsWith (.Call (.Attribute (.Name n pos1) "extend" apos) [.List es posl] [] pos2) none pos.line X.env = pure false := by rfl) : PS X (.Expr (.Call (.Attribute (.Name n pos1) "extend" apos) [.List es posl] [] pos2) pos) (tGr X.K mo D ds ds2 g) :=
  PS.wk (ps_expr (pe_bm PySem.F.plainAttrs_list PySem.F.slot_list_extend PySem.F.type_list_extend mt_extend (pe_var hN hv hd hcd) (pa_cons (pe_lst h) pa_nil hst) hbase hfew hline hst) hs) fun E σ H ⟨o, k⟩ => by
    obtain ⟨ov, h1, h2⟩ := repS_get o.rp hg
    have h2' : ov = some (.ref D) := h2
    subst h2'
    obtain ⟨w, acc, e1, e2⟩ := o.w
    have h4 : (3000 : Nat) < sizeLine := by decide
    refine ⟨_, h1, .inl ⟨rfl, _, SqL.of e1⟩, o, fun vs ds1 H1 n1 s1 q1 => ⟨by cases s1; rw [dps_len q1]; omega, fun b hb => ?_⟩⟩
    cases s1
    obtain ⟨w1, acc1, e3, e4⟩ := n1.w
    have n2 : Nxt (mo.gr X.K D ds) H (upd H1 b (.lst vs)) := n1.same (same_new hb)
    have e5 : upd H1 b (.lst vs) D = some (.lst acc1) := same_new hb _ _ e3
    obtain ⟨k2, o2⟩ := okk_gr o n2 e5 (dps_mono (same_del (same_new hb)) _ _ q1)
    exact ⟨D, b, acc1, vs, rfl, rfl, e5, upd_same, by rw [dps_len e4, dps_len q1]; omega, k _ k2 o2⟩
theorem o_step {st : Stmt} {ds2 : List PyData} (h : PS X st (tGr X.K mo D ds ds2 g)) (hr : PSs X rest (tO X.K mo (mo.gr X.K D (ds ++ ds2)) g R N)) : PSs X (st :: rest) (tO X.K mo (mo.gr X.K D ds) g R N) := PSs.wk (pss_cons h hr) fun E σ H ⟨o, k1, k2⟩ =>
  ⟨o, fun H' k o' => ⟨o', fun v d H2 kk => k1 v d H2 (k.trans kk), fun g' σ' H2 kk => k2 g' σ' H2 (k.trans kk)⟩⟩
/-- for target in a tuple: the list grows by one at each turn -/
theorem o_for {xs rs : List PyData} {iter tg : Expr} {st : Stmt} (t : TgK) (hc : X.calm = true) (hi : PD X (mo.gr X.K D ds) g iter (Is (.tuple xs))) (hk : ∀ d ∈ xs, t.ok d) (hrl : rs.length = xs.length)
    (hg : PG X tg (t.g X.K)) (hb : ∀ (k : Nat) (x y : PyData), xs[k]? = some x → rs[k]? = some y → PS X st (tGr X.K mo D (ds ++ rs.take k) [y] (t.set (wipeG g t.ix) x)))
    (hr : PSs X rest (tO X.K mo (mo.gr X.K D (ds ++ rs)) (wipeG g t.ix) R N)) (hp : PassesOwn (model X.prog X.w) X.A X.env X.xe) (hs : ∀ x, foldedSetIterable iter X.env x = pure x := by intro _; rfl) : PSs X (.For tg iter [st] [] pos :: rest) (tO X.K mo (mo.gr X.K D ds) g R N) := by
  have hB : PSs X [st] (fun E σ H => ∃ (k : Nat) (x y : PyData), (xs[k]? = some x ∧ rs[k]? = some y) ∧ tGr X.K mo D (ds ++ rs.take k) [y] (t.set (wipeG g t.ix) x) E σ H) := pss_one ⟨fun pins s σ H E I ⟨k, x, y, h, q⟩ => (hb k x y h.1 h.2).run pins s σ H E I q⟩
  refine PSs.wk (pss_cons (ps_for hp hc (pi_tup hi) hg hB hs) hr) fun E σ H ⟨o, k1, k2⟩ => ⟨o, fun v d H1 n1 s1 q1 => ?_⟩
  cases s1
  obtain ⟨a, vs, rfl, h1, h2⟩ := dp_tup q1
  refine ⟨a, rfl, ⟨vs, sqT_mono (del_same _ _) h1⟩, ?_⟩
  refine for_tup (K := X.K) (a := a) (xs := vs) (g := t.g X.K) (tb := fun E σ H => ∃ (k : Nat) (x y : PyData), (xs[k]? = some x ∧ rs[k]? = some y) ∧ tGr X.K mo D (ds ++ rs.take k) [y] (t.set (wipeG g t.ix) x) E σ H) (D := { nx := tO X.K mo (mo.gr X.K D (ds ++ rs)) (wipeG g t.ix) R N E, rt := E.rt, bk := E.bk, ct := E.ct }) (σ := σ) (H := H1) (fun k σ' H' => Kp (D :: mo.zs) H1 H' ∧ Okk X.K (mo.gr X.K D (ds ++ rs.take k)) (wipeG g t.ix) σ' H') ⟨Same.refl _, ?_⟩ (fun i σ' H' _ ⟨kk, _⟩ => sqT_mono (del_same _ _) (sqT_mono kk h1)) (fun k v σ' H' hv ⟨kk, ok⟩ => ?_) fun σ' H' ⟨kk, ok⟩ => ?_
  · rw [List.take_zero, List.append_nil]
    have o1 := o.step n1
    exact ⟨o1.al, o1.w, repS_less o1.rp (wipeG_len _ _) fun j x e => by
      by_cases hj : j ∈ t.ix
      · exact .inl (wipeG_mem g t.ix j x hj e)
      · refine .inr ?_
        have key : ∀ vs : List Nat, j ∉ vs → (wipeG g vs)[j]? = g[j]? := by
          intro vs
          induction vs with
          | nil => exact fun _ => rfl
          | cons w ws ih =>
            intro hn
            show ((wipeG g ws).set w .no)[j]? = g[j]?
            rw [List.getElem?_set_ne fun e => hn (by rw [e]; exact List.mem_cons_self), ih fun z => hn (List.mem_cons_of_mem _ z)]
        rw [← key t.ix hj]
        exact e⟩
  · obtain ⟨x, hx, qx⟩ := dps_get2 (dps_mono kk _ _ h2) hv
    have hk' : k < xs.length := (List.getElem?_eq_some_iff.mp hx).1
    have hy : rs[k]? = some rs[k] := List.getElem?_eq_getElem (by omega)
    refine tgk_run (K := X.K) (ow := t.ix) (tgk_own t) (hk x (List.mem_of_getElem? hx)) qx fun σ2 _ hg2 => ⟨k, x, rs[k], ⟨hx, hy⟩, ⟨ok.al, ok.w, hg2 _ ok.rp⟩, fun H2 kk2 ok2 => ⟨kk.trans kk2, ok2.al, ?_, tgk_less ok2.rp⟩⟩
    have e : ds ++ rs.take (k + 1) = ds ++ rs.take k ++ [rs[k]] := by rw [List.append_assoc, ← List.take_append_getElem (by omega : k < rs.length)]
    rw [e]
    exact ok2.w
  · have e : rs.take vs.length = rs := by rw [dps_len h2, ← hrl, List.take_length]
    rw [e] at ok
    exact ⟨ok, fun v d H2 k3 => k1 v d H2 (n1.kp.trans (kk.trans k3)), fun g' σ3 H2 k3 => k2 g' σ3 H2 (n1.kp.trans (kk.trans k3))⟩
end
/-! list + list -/
def rCatL (K : PySem.W.Frag) : R2 := fun x y H Q => ∃ l b xs zs, x = .ref l ∧ y = .ref b ∧ SqL K H l xs ∧ SqL K H b zs ∧ xs.length + zs.length ≤ sizeLine ∧ ∀ p, H p = none → Q (.ref p) (upd H p (.lst (xs ++ zs)))
theorem op_catL {X : Cx} : OpR X (binaryOp .Add) (rCatL X.K) := by
  intro pins s σ H x y v u Q I rx ry h
  obtain ⟨l, b, xs, zs, rfl, rfl, hH, hB, hz, q⟩ := h
  cases rx
  cases ry
  obtain ⟨its, r, p1, _⟩ := I.list hH
  obtain ⟨its2, r2, p2, _⟩ := I.list hB
  obtain ⟨⟨cls, dd, data, sl⟩, ho, hc, n, hd⟩ := id p1.isList
  obtain ⟨⟨cls2, dd2, data2, sl2⟩, ho2, hc2, n2, hd2⟩ := id p2.isList
  simp only at hc hd hc2 hd2
  subst hc hd hc2 hd2
  have e : its.toArray ++ its2.toArray = (its ++ its2).toArray := by simp
  refine concat_meets ⟨_, ho, rfl⟩ ⟨_, ho2, rfl⟩ noFill_list_add seq_list_add PySem.F.slot_list_add PySem.F.entry_list_add (PySem.F.args_list_add_2 _ _) (list_addW l b its.toArray its2.toArray n n2 dd dd2 sl sl2 (by rw [List.size_toArray, List.size_toArray, ← r.length, ← r2.length]; exact hz)) ⟨ho, ho2, ?_⟩
  rw [e]
  exact ⟨.ref _, _, I.lnew (t' := s.toks) (r.append r2) (by rw [List.length_append]; omega), rfl, q _ I.fresh⟩
theorem pd_cat {X : Cx} {m : Md} {g : List Sl} {a b : Expr} {pos : Pos} {ds es : List PyData} (ha : PD X m g a (Is (.list ds))) (hb : PD X m g b (Is (.list es))) (hz : ds.length + es.length ≤ 1000 := by first | exact Nat.le_of_ble_eq_true rfl | assumption) : PD X m g (.BinOp a .Add b pos) (Is (.list (ds ++ es))) :=
  pd_binH (pe_op op_catL ha hb) fun x y u v H Q al sx sy qx qy k => by
    cases sx
    cases sy
    obtain ⟨p, xs, rfl, h1, h2⟩ := dp_lst qx
    obtain ⟨p2, ys, rfl, h3, h4⟩ := dp_lst qy
    have h5 : (1000 : Nat) < sizeLine := by decide
    exact ⟨p, p2, xs, ys, rfl, rfl, sqL_mono (del_same _ _) h1, sqL_mono (del_same _ _) h3, by rw [dps_len h2, dps_len h4]; omega, fun q hq => k _ _ _ (same_new hq) rfl (dp_newL al hq (dps_app h2 h4))⟩
/-- .. of open sets -/
theorem pd_catS {X : Cx} {m : Md} {g : List Sl} {a b : Expr} {pos : Pos} {S1 S2 : List PyData → Prop} (ha : PD X m g a (fun d => ∃ ds, d = .list ds ∧ S1 ds ∧ ds.length ≤ 500)) (hb : PD X m g b (fun d => ∃ ds, d = .list ds ∧ S2 ds ∧ ds.length ≤ 500)) : PD X m g (.BinOp a .Add b pos) (fun d => ∃ ds es, d = .list (ds ++ es) ∧ S1 ds ∧ S2 es) :=
  pd_binH (pe_op op_catL ha hb) fun x y u v H Q al sx sy qx qy k => by
    obtain ⟨ds, rfl, s1, z1⟩ := sx
    obtain ⟨es, rfl, s2, z2⟩ := sy
    obtain ⟨p, xs, rfl, h1, h2⟩ := dp_lst qx
    obtain ⟨p2, ys, rfl, h3, h4⟩ := dp_lst qy
    have h5 : (1000 : Nat) < sizeLine := by decide
    exact ⟨p, p2, xs, ys, rfl, rfl, sqL_mono (del_same _ _) h1, sqL_mono (del_same _ _) h3, by rw [dps_len h2, dps_len h4]; omega, fun q hq => k _ _ _ (same_new hq) ⟨ds, es, rfl, s1, s2⟩ (dp_newL al hq (dps_app h2 h4))⟩
end Cv

set_option Elab.async false
set_option linter.all false
set_option maxRecDepth 100000
set_option maxHeartbeats 4000000
namespace Cv
open PySem PySem.Spec PyProof.Rows L2


def tupN (n : Nat) : PyData → Bool
  | .tuple l => l.length == n
  | _ => false
theorem tgk_all {ix : List Nat} {ds : List PyData} (h : ds.all (tupN ix.length) = true) : ∀ d ∈ ds, (TgK.tup ix).ok d := fun d hd => by
  have := List.all_eq_true.mp h d hd
  cases d with
  | tuple l => exact ⟨l, rfl, by simpa [tupN] using this⟩
  | _ => cases this
theorem plB_of {px py ax ay r : Rat} {a b c d e : Nat} (n1 n2 n3 : Nat) [i1 : Bd px a] [i2 : Bd py b] [i3 : Bd ax c] [i4 : Bd ay d] [i5 : Bd r e] (r0 : 0 ≤ r) (h1 : a ≤ n1 := by decide) (h2 : b ≤ n1 := by decide) (h3 : c ≤ n2 := by decide) (h4 : d ≤ n2 := by decide) (h5 : e ≤ n3 := by decide)
    (h : 2 * n1 + 2 * n2 + n3 ≤ 7900 ∧ 8 * n2 + n3 ≤ 7900 := by decide) : PlB px py ax ay r n1 n2 n3 := ⟨r0, bdLe i1 h1, bdLe i2 h2, bdLe i3 h3, bdLe i4 h4, bdLe i5 h5, h⟩
instance bd178 : Bd (17/8) 5 := ⟨by decide +kernel, by decide +kernel⟩
instance bd158 : Bd (15/8) 4 := ⟨by decide +kernel, by decide +kernel⟩
instance bd32 : Bd (3/2) 2 := ⟨by decide +kernel, by decide +kernel⟩
instance bd52 : Bd (5/2) 3 := ⟨by decide +kernel, by decide +kernel⟩
instance bd2516 : Bd (25/16) 5 := ⟨by decide +kernel, by decide +kernel⟩
instance bd28964 : Bd (289/64) 9 := ⟨by decide +kernel, by decide +kernel⟩
instance bd14 : Bd (1/4) 3 := ⟨by decide +kernel, by decide +kernel⟩
instance bdHalfM : Bd (-1/2) 2 := ⟨by decide +kernel, by decide +kernel⟩
/-- the numbers of a cell's places by h, the reach, the end: T, the way from Z, the part, both roots -/
def ceT (r : Rat) : Rat := r + 1
def ceX (h r vx : Rat) : Rat := vx - (h - (r + 1))
def ceY (vy : Rat) : Rat := vy - 0
def ceO (h r vx vy : Rat) : Rat := (vx - (h - (r + 1))) * (vx - (h - (r + 1))) + (vy - 0) * (vy - 0)
def ceP (h r vx vy : Rat) : Rat := (r + 1) * (r + 1) / ceO h r vx vy
def ceL (p : Rat) : Rat := 25/16 * p - (p + 1) * (p + 1) * (1/4)
def ceH (p : Rat) : Rat := 289/64 * p - (p + 1) * (p + 1) * (1/4)
/-- a place by its share of the way and its side -/
def plS (h r x y s : Rat) (k : Int) (u : Rat) : Pl := plN (h - (r + 1) + x * (s * (1/2))) (0 + y * (s * (1/2))) (y * -1 * (k : Rat)) (x * (k : Rat)) u
def plW (h r x y s : Rat) : Pl := ⟨h - (r + 1) + x * s, 0 + y * s, 0, 0, 0⟩
def plU (h r : Rat) : Pl := ⟨h - (r + 1) * (1/2), 0, 0, 0, 0⟩
def nine1 (h r x y p : Rat) (s0 : Int) : List Pl := [plS h r x y (p - 1) (1 * s0) (ceL p), plS h r x y (1 - p) (-1 * s0) (ceL p), plS h r x y (p + 3) (1 * s0) (ceL p), plS h r x y (p * 3 + 1) (-1 * s0) (ceL p)]
def nine2 (h r x y p : Rat) : List Pl := [plW h r x y 0, plW h r x y (p + 1), plW h r x y p]
def nineG (h r x y p : Rat) (s0 s1 : Int) : List Pl := nine1 h r x y p s0 ++ nine2 h r x y p ++ [plU h r] ++ [plS h r x y (p + 1) s1 (ceH p)]
def nineL (h r vx vy : Rat) (s0 s1 : Int) : List Pl := nineG h r (ceX h r vx) (ceY vy) (ceP h r vx vy) s0 s1
def R__law_nine : List PyData → PyData → Prop := fun ds d => ∃ (h r vx vy : Rat) (s0 s1 : Int), ds = [num h, num r, pt vx vy, .tuple [.int s0, .int s1]] ∧ Bd h 7 ∧ Bd r 20 ∧ Bd vx 38 ∧ Bd vy 7 ∧ (s0 = 1 ∨ s0 = -1) ∧ (s1 = 1 ∨ s1 = -1) ∧ 0 < ceO h r vx vy ∧
  d = if 0 < ceL (ceP h r vx vy) then .list ((nineL h r vx vy s0 s1).map Pl.d) else .none
theorem rel__law_nine {h r vx vy : Rat} {s0 s1 : Int} {p : PyData} [hp : IsPt p vx vy] (b1 : Bd h 7) (b2 : Bd r 20) (b3 : Bd vx 38) (b4 : Bd vy 7) (h0 : s0 = 1 ∨ s0 = -1) (h1 : s1 = 1 ∨ s1 = -1) (ho : 0 < ceO h r vx vy) :
    R__law_nine [num h, num r, p, .tuple [.int s0, .int s1]] (if 0 < ceL (ceP h r vx vy) then .list ((nineL h r vx vy s0 s1).map Pl.d) else .none) := ⟨h, r, vx, vy, s0, s1, by rw [hp.eq], b1, b2, b3, b4, h0, h1, ho, rfl⟩
theorem sq_nn (x : Rat) : 0 ≤ x * x := by
  rcases (Rat.le_total : 0 ≤ x ∨ x ≤ 0) with h | h
  · exact Rat.mul_nonneg h h
  · have h2 : 0 ≤ -x := by grind
    have := Rat.mul_nonneg h2 h2
    grind
theorem ceP_nn {h r vx vy : Rat} (ho : 0 < ceO h r vx vy) : 0 ≤ ceP h r vx vy := by
  unfold ceP
  rw [Rat.div_def]
  exact Rat.mul_nonneg (sq_nn _) (Rat.le_of_lt (Rat.inv_pos.mpr ho))
theorem ceH_nn {p : Rat} (hp : 0 ≤ p) (hl : 0 < ceL p) : 0 ≤ ceH p := by
  unfold ceL at hl
  unfold ceH
  grind
theorem bd_sgn {s : Int} (h : s = 1 ∨ s = -1) : Bd (s : Rat) 1 ∧ Bd ((1 * s : Int) : Rat) 1 ∧ Bd ((-1 * s : Int) : Rat) 1 ∧ CMulX 1 s ∧ CMulX (-1) s := by
  rcases h with rfl | rfl
  · exact ⟨⟨by decide +kernel, by decide +kernel⟩, ⟨by decide +kernel, by decide +kernel⟩, ⟨by decide +kernel, by decide +kernel⟩, mulx_ok (a := 2) (b := 2) (by decide) (by decide) (by decide), mulx_ok (a := 2) (b := 2) (by decide) (by decide) (by decide)⟩
  · exact ⟨⟨by decide +kernel, by decide +kernel⟩, ⟨by decide +kernel, by decide +kernel⟩, ⟨by decide +kernel, by decide +kernel⟩, mulx_ok (a := 2) (b := 2) (by decide) (by decide) (by decide), mulx_ok (a := 2) (b := 2) (by decide) (by decide) (by decide)⟩

local macro_rules | `(tactic| walk_at "nb") => `(tactic| (first | exact Bd.up | exact nd_bd Bd.dn | assumption | (apply mul_bd <;> walk_at "nb") | (apply add_bd <;> walk_at "nb")))
local macro_rules | `(tactic| walk_at "cm") => `(tactic| (apply mulx_ok; (walk_at "nb"); (walk_at "nb"); omega))
local macro_rules | `(tactic| walk_at "sh") => `(tactic| (first | exact num_shaped _ | exact shp_int _ | exact shp_int2 _ _ | exact shp_none))
local macro_rules | `(tactic| walk_at "sh") => `(tactic| (first | exact num_shaped _ | exact pt_shaped _ _ | exact pl_shaped _ | exact shp_int _ | exact shp_int2 _ _ | exact shp_none))
section
variable {P : Program} {w : World} {K : PySem.W.Frag} {mg : Str → Option Value} {base : Heap}

theorem sc__law_nine : FnScope ["_law_h", "_law_reach", "_law_v", "_law_sides", "_law_far_here", "_law_zero", "_law_way_here", "_law_part", "_law_more", "_law_left", "_law_found", "_law_share", "_law_low_here", "_law_high", "_law_side", "_law_root_here", "_law_square"] ["_law_h", "_law_reach", "_law_v", "_law_sides"] (defScope (top 77)) := ⟨rfl, rfl, rfl, by decide +kernel, rfl, by decide +kernel, by decide +kernel⟩
theorem c__law_nine (T : Txt K mg) : C8.Cal P w K mg base 5 "_law_nine" (spP K R__law_nine) [] := by
  refine okP T.t__law_nine sc__law_nine (fun _ _ _ _ _ _ us hl => match us, hl with | [_, _, _, _], _ => rfl) (fun ds d h => ?_) (fun f cdv A outer s H E m ds d hr h => ?_)
  · obtain ⟨h, r, vx, vy, s0, s1, rfl, b1, b2, b3, b4, h0, h1, hO, rfl⟩ := h
    rfl
  obtain ⟨h, r, vx, vy, s0, s1, rfl, b1, b2, b3, b4, h0, h1, hO, rfl⟩ := h
  obtain ⟨c1, c2, c3, c4, c5⟩ := bd_sgn h0
  obtain ⟨d1, d2, d3, d4, d5⟩ := bd_sgn h1
  have hP := ceP_nn hO
  have bO : Bd (ceO h r vx vy) 157 := (inferInstance : Bd ((vx - (h - (r + 1))) * (vx - (h - (r + 1))) + (vy - 0) * (vy - 0)) 157)
  refine ss_set1 4 (pd_call (c__law_sum T) hr (by decide) rfl (pl_cons (pd_var 1) (pl_cons pd_int pl_nil)) (by exact rel__law_sum)) ?_ sc__law_nine.nd
  refine ss_set1 5 (pd_tup (pl_cons (pd_call (c__law_less T) hr (by decide) rfl (pl_cons (pd_var 0) (pl_cons (pd_var 4) pl_nil)) (by exact rel__law_less)) (pl_cons pd_int pl_nil))) ?_ sc__law_nine.nd
  refine ss_set1 6 (pd_call (c__law_way T) hr (by decide) rfl (pl_cons (pd_var 5) (pl_cons (pd_var 2) pl_nil)) (by exact rel__law_way)) ?_ sc__law_nine.nd
  refine ss_set1 7 (pd_call (c__law_over T) hr (by decide) rfl (pl_cons (pd_call (c__law_by T) hr (by decide) rfl (pl_cons (pd_var 4) (pl_cons (pd_var 4) pl_nil)) (by exact rel__law_by)) (pl_cons (pd_call (c__law_off T) hr (by decide) rfl (pl_cons (pd_var 6) pl_nil) (by exact rel__law_off)) pl_nil)) (by exact (rel__law_over hO))) ?_ sc__law_nine.nd
  refine ss_set1 8 (pd_call (c__law_sum T) hr (by decide) rfl (pl_cons (pd_var 7) (pl_cons pd_int pl_nil)) (by exact rel__law_sum)) ?_ sc__law_nine.nd
  have bP : Bd (ceP h r vx vy) 201 := (inferInstance : Bd ((r + 1) * (r + 1) / ceO h r vx vy) 201)
  have bX : Bd (ceX h r vx) 69 := (inferInstance : Bd (vx - (h - (r + 1))) 69)
  have bY : Bd (ceY vy) 9 := (inferInstance : Bd (vy - 0) 9)
  change PQ _ _ [.d (num h), .d (num r), .d (pt vx vy), .d (.tuple [.int s0, .int s1]), .d (num (r + 1)), .d (.tuple [num (h - (r + 1)), .int 0]), .d (pt (ceX h r vx) (ceY vy)), .d (num (ceP h r vx vy)), .d (num (ceP h r vx vy + 1)), .no, .no, .no, .no, .no, .no, .no, .no] _ _ _
  unfold nineL
  have bL : Bd (ceL (ceP h r vx vy)) 616 := (inferInstance : Bd (25/16 * ceP h r vx vy - (ceP h r vx vy + 1) * (ceP h r vx vy + 1) * (1/4)) 616)
  have bH : Bd (ceH (ceP h r vx vy)) 620 := (inferInstance : Bd (289/64 * ceP h r vx vy - (ceP h r vx vy + 1) * (ceP h r vx vy + 1) * (1/4)) 620)
  generalize ceP h r vx vy = p at *
  generalize ceX h r vx = x at *
  generalize ceY vy = y at *
  clear bO hO
  refine ss_asg (PLc.pd <| plc_T (own := [("_law_square", 16)]) (ds := [.tuple [.int 25, .int 16], .tuple [.int 289, .int 64]]) (rs := [num (ceL p), num (ceH p)]) (.one 16) rfl sc__law_nine.nd (pd_tup (pl_cons (pd_tup (pl_cons pd_int (pl_cons pd_int pl_nil))) (pl_cons (pd_tup (pl_cons pd_int (pl_cons pd_int pl_nil))) pl_nil))) (blkOk_by (N := ["_law_h", "_law_reach", "_law_v", "_law_sides", "_law_far_here", "_law_zero", "_law_way_here", "_law_part", "_law_more", "_law_left", "_law_found", "_law_share", "_law_low_here", "_law_high", "_law_side", "_law_root_here", "_law_square"]) (sc := defScope (top 77)) (by decide +kernel)) (show 16 ∈ [16] by decide) (fun _ _ => trivial) (Nat.le_of_ble_eq_true rfl) rfl (fun _ _ _ _ _ => (pg_name sc__law_nine.nd rfl (Or.inl rfl))) (fun s H C cl fp i x' y' D acc hx hy => ?_)) (g_lst rfl (g_cons (g_name 12 sc__law_nine.nd) (g_cons (g_name 13 sc__law_nine.nd) g_nil))) ?_
  · match i, hx, hy with
    | 0, hx, hy => cases hx; cases hy; exact (pd_call (c__law_less T) hr (by decide) rfl (pl_cons (pd_call (c__law_by T) hr (by decide) rfl (pl_cons (pd_var 16) (pl_cons (pd_var 7) pl_nil)) (by exact rel__law_by)) (pl_cons (pd_call (c__law_by T) hr (by decide) rfl (pl_cons (pd_call (c__law_by T) hr (by decide) rfl (pl_cons (pd_var 8) (pl_cons (pd_var 8) pl_nil)) (by exact rel__law_by)) (pl_cons (pd_tup (pl_cons pd_int (pl_cons pd_int pl_nil))) pl_nil)) (by exact rel__law_by)) pl_nil)) (by exact rel__law_less))
    | 1, hx, hy => cases hx; cases hy; exact (pd_call (c__law_less T) hr (by decide) rfl (pl_cons (pd_call (c__law_by T) hr (by decide) rfl (pl_cons (pd_var 16) (pl_cons (pd_var 7) pl_nil)) (by exact rel__law_by)) (pl_cons (pd_call (c__law_by T) hr (by decide) rfl (pl_cons (pd_call (c__law_by T) hr (by decide) rfl (pl_cons (pd_var 8) (pl_cons (pd_var 8) pl_nil)) (by exact rel__law_by)) (pl_cons (pd_tup (pl_cons pd_int (pl_cons pd_int pl_nil))) pl_nil)) (by exact rel__law_by)) pl_nil)) (by exact rel__law_less))
    | _ + 2, hx, hy => cases hx
  refine ss_ifR (pb_not (pb_val (pd_call (c__law_is_below T) hr (by decide) rfl (pl_cons pd_int (pl_cons (pd_var 12) pl_nil)) (by exact rel__law_is_below)))) (fun e => ?_) (fun e => ?_)
  · have e2 : ¬ 0 < ceL p := by simpa using e
    rw [if_neg e2]
    exact ss_ret pd_non (fun _ z => z)
  have hL : 0 < ceL p := by simpa using e
  have hL0 := Rat.le_of_lt hL
  have hH0 := ceH_nn hP hL
  rw [if_pos hL]
  refine ss_set1 9 (pd_tup (pl_cons (pd_call (c__law_by T) hr (by decide) rfl (pl_cons (pd_ixT (pd_var 6) pd_int) (pl_cons (pd_neg pd_int) pl_nil)) (by exact rel__law_by)) (pl_cons (pd_ixT (pd_var 6) pd_int) pl_nil))) ?_ sc__law_nine.nd
  refine ss_hideL 10 pl_nil (Nat.le_of_ble_eq_true rfl) (fun D hD => ?_) sc__law_nine.nd
  refine o_for (xs := [.tuple [num (p - 1), .int 1, num (ceL p)], .tuple [num (1 - p), .int (-1), num (ceL p)], .tuple [num (p + 3), .int 1, num (ceL p)], .tuple [num (p * 3 + 1), .int (-1), num (ceL p)]]) (rs := (nine1 h r x y p s0).map Pl.d) (.tup [11, 14, 15]) rfl (pd_tup (pl_cons (pd_tup (pl_cons (pd_call (c__law_less T) hr (by decide) rfl (pl_cons (pd_var 7) (pl_cons pd_int pl_nil)) (by exact rel__law_less)) (pl_cons pd_int (pl_cons (pd_var 12) pl_nil)))) (pl_cons (pd_tup (pl_cons (pd_call (c__law_less T) hr (by decide) rfl (pl_cons pd_int (pl_cons (pd_var 7) pl_nil)) (by exact rel__law_less)) (pl_cons (pd_neg pd_int) (pl_cons (pd_var 12) pl_nil)))) (pl_cons (pd_tup (pl_cons (pd_call (c__law_sum T) hr (by decide) rfl (pl_cons (pd_var 7) (pl_cons pd_int pl_nil)) (by exact rel__law_sum)) (pl_cons pd_int (pl_cons (pd_var 12) pl_nil)))) (pl_cons (pd_tup (pl_cons (pd_call (c__law_sum T) hr (by decide) rfl (pl_cons (pd_call (c__law_by T) hr (by decide) rfl (pl_cons (pd_var 7) (pl_cons pd_int pl_nil)) (by exact rel__law_by)) (pl_cons pd_int pl_nil)) (by exact rel__law_sum)) (pl_cons (pd_neg pd_int) (pl_cons (pd_var 12) pl_nil)))) pl_nil))))) (tgk_all rfl) rfl (pg_tup rfl (pgs_cons (pg_name sc__law_nine.nd rfl (Or.inl rfl)) (pgs_cons (pg_name sc__law_nine.nd rfl (Or.inl rfl)) (pgs_cons (pg_name sc__law_nine.nd rfl (Or.inl rfl)) pgs_nil)))) (fun k x' y' hx hy => ?_) ?_ PassesOwn.never
  · match k, hx, hy with
    | 0, hx, hy => cases hx; cases hy; exact app_one 10 (pd_call (c__law_place T) hr (by decide) rfl (pl_cons (pd_call (c__law_move T) hr (by decide) rfl (pl_cons (pd_var 5) (pl_cons (pd_call (c__law_scale T) hr (by decide) rfl (pl_cons (pd_var 6) (pl_cons (pd_call (c__law_by T) hr (by decide) rfl (pl_cons (pd_var 11) (pl_cons (pd_tup (pl_cons pd_int (pl_cons pd_int pl_nil))) pl_nil)) (by exact rel__law_by)) pl_nil)) (by exact rel__law_scale)) pl_nil)) (by exact rel__law_move)) (pl_cons (pd_call (c__law_scale T) hr (by decide) rfl (pl_cons (pd_var 9) (pl_cons (pd_mul (pd_var 14) (pd_ixT (pd_var 3) pd_int) (by assumption)) pl_nil)) (by exact rel__law_scale)) (pl_cons (pd_var 15) pl_nil))) (by exact (rel__law_place (plB_of 307 71 620 hL0)))) (Nat.le_of_ble_eq_true rfl)
    | 1, hx, hy => cases hx; cases hy; exact app_one 10 (pd_call (c__law_place T) hr (by decide) rfl (pl_cons (pd_call (c__law_move T) hr (by decide) rfl (pl_cons (pd_var 5) (pl_cons (pd_call (c__law_scale T) hr (by decide) rfl (pl_cons (pd_var 6) (pl_cons (pd_call (c__law_by T) hr (by decide) rfl (pl_cons (pd_var 11) (pl_cons (pd_tup (pl_cons pd_int (pl_cons pd_int pl_nil))) pl_nil)) (by exact rel__law_by)) pl_nil)) (by exact rel__law_scale)) pl_nil)) (by exact rel__law_move)) (pl_cons (pd_call (c__law_scale T) hr (by decide) rfl (pl_cons (pd_var 9) (pl_cons (pd_mul (pd_var 14) (pd_ixT (pd_var 3) pd_int) (by assumption)) pl_nil)) (by exact rel__law_scale)) (pl_cons (pd_var 15) pl_nil))) (by exact (rel__law_place (plB_of 307 71 620 hL0)))) (Nat.le_of_ble_eq_true rfl)
    | 2, hx, hy => cases hx; cases hy; exact app_one 10 (pd_call (c__law_place T) hr (by decide) rfl (pl_cons (pd_call (c__law_move T) hr (by decide) rfl (pl_cons (pd_var 5) (pl_cons (pd_call (c__law_scale T) hr (by decide) rfl (pl_cons (pd_var 6) (pl_cons (pd_call (c__law_by T) hr (by decide) rfl (pl_cons (pd_var 11) (pl_cons (pd_tup (pl_cons pd_int (pl_cons pd_int pl_nil))) pl_nil)) (by exact rel__law_by)) pl_nil)) (by exact rel__law_scale)) pl_nil)) (by exact rel__law_move)) (pl_cons (pd_call (c__law_scale T) hr (by decide) rfl (pl_cons (pd_var 9) (pl_cons (pd_mul (pd_var 14) (pd_ixT (pd_var 3) pd_int) (by assumption)) pl_nil)) (by exact rel__law_scale)) (pl_cons (pd_var 15) pl_nil))) (by exact (rel__law_place (plB_of 307 71 620 hL0)))) (Nat.le_of_ble_eq_true rfl)
    | 3, hx, hy => cases hx; cases hy; exact app_one 10 (pd_call (c__law_place T) hr (by decide) rfl (pl_cons (pd_call (c__law_move T) hr (by decide) rfl (pl_cons (pd_var 5) (pl_cons (pd_call (c__law_scale T) hr (by decide) rfl (pl_cons (pd_var 6) (pl_cons (pd_call (c__law_by T) hr (by decide) rfl (pl_cons (pd_var 11) (pl_cons (pd_tup (pl_cons pd_int (pl_cons pd_int pl_nil))) pl_nil)) (by exact rel__law_by)) pl_nil)) (by exact rel__law_scale)) pl_nil)) (by exact rel__law_move)) (pl_cons (pd_call (c__law_scale T) hr (by decide) rfl (pl_cons (pd_var 9) (pl_cons (pd_mul (pd_var 14) (pd_ixT (pd_var 3) pd_int) (by assumption)) pl_nil)) (by exact rel__law_scale)) (pl_cons (pd_var 15) pl_nil))) (by exact (rel__law_place (plB_of 307 71 620 hL0)))) (Nat.le_of_ble_eq_true rfl)
    | _ + 4, hx, hy => cases hx
  refine o_for (xs := [.int 0, num (p + 1), num p]) (rs := (nine2 h r x y p).map Pl.d) (.one 11) rfl (pd_tup (pl_cons pd_int (pl_cons (pd_var 8) (pl_cons (pd_var 7) pl_nil)))) (fun _ _ => trivial) rfl (pg_name sc__law_nine.nd rfl (Or.inl rfl)) (fun k x' y' hx hy => ?_) ?_ PassesOwn.never
  · have key : ∀ s, (plW h r x y s).d = .tuple [pt (h - (r + 1) + x * s) (0 + y * s), .tuple [.int 0, .int 0], .int 0] := fun s => by unfold plW Pl.d; simp only [pt, num0]
    match k, hx, hy with
    | 0, hx, hy => cases hx; cases hy; exact app_one 10 (pd_le (pd_tup (pl_cons (pd_call (c__law_move T) hr (by decide) rfl (pl_cons (pd_var 5) (pl_cons (pd_call (c__law_scale T) hr (by decide) rfl (pl_cons (pd_var 6) (pl_cons (pd_var 11) pl_nil)) (by exact rel__law_scale)) pl_nil)) (by exact rel__law_move)) (pl_cons (pd_tup (pl_cons pd_int (pl_cons pd_int pl_nil))) (pl_cons pd_int pl_nil)))) (fun _ z => z.trans (key _).symm)) (Nat.le_of_ble_eq_true rfl)
    | 1, hx, hy => cases hx; cases hy; exact app_one 10 (pd_le (pd_tup (pl_cons (pd_call (c__law_move T) hr (by decide) rfl (pl_cons (pd_var 5) (pl_cons (pd_call (c__law_scale T) hr (by decide) rfl (pl_cons (pd_var 6) (pl_cons (pd_var 11) pl_nil)) (by exact rel__law_scale)) pl_nil)) (by exact rel__law_move)) (pl_cons (pd_tup (pl_cons pd_int (pl_cons pd_int pl_nil))) (pl_cons pd_int pl_nil)))) (fun _ z => z.trans (key _).symm)) (Nat.le_of_ble_eq_true rfl)
    | 2, hx, hy => cases hx; cases hy; exact app_one 10 (pd_le (pd_tup (pl_cons (pd_call (c__law_move T) hr (by decide) rfl (pl_cons (pd_var 5) (pl_cons (pd_call (c__law_scale T) hr (by decide) rfl (pl_cons (pd_var 6) (pl_cons (pd_var 11) pl_nil)) (by exact rel__law_scale)) pl_nil)) (by exact rel__law_move)) (pl_cons (pd_tup (pl_cons pd_int (pl_cons pd_int pl_nil))) (pl_cons pd_int pl_nil)))) (fun _ z => z.trans (key _).symm)) (Nat.le_of_ble_eq_true rfl)
    | _ + 3, hx, hy => cases hx
  refine o_step (app_one 10 (d := (plU h r).d) (pd_le (pd_tup (pl_cons (pd_tup (pl_cons (pd_call (c__law_less T) hr (by decide) rfl (pl_cons (pd_var 0) (pl_cons (pd_call (c__law_by T) hr (by decide) rfl (pl_cons (pd_var 4) (pl_cons (pd_tup (pl_cons pd_int (pl_cons pd_int pl_nil))) pl_nil)) (by exact rel__law_by)) pl_nil)) (by exact rel__law_less)) (pl_cons pd_int pl_nil))) (pl_cons (pd_tup (pl_cons pd_int (pl_cons pd_int pl_nil))) (pl_cons pd_int pl_nil)))) (fun _ z => z.trans (by unfold plU Pl.d; simp only [pt, num0]))) (Nat.le_of_ble_eq_true rfl)) ?_
  refine o_show 10 hD ?_
  refine ss_ret (pd_cat (pd_var 10) (pd_lst (pl_cons (pd_call (c__law_place T) hr (by decide) rfl (pl_cons (pd_call (c__law_move T) hr (by decide) rfl (pl_cons (pd_var 5) (pl_cons (pd_call (c__law_scale T) hr (by decide) rfl (pl_cons (pd_var 6) (pl_cons (pd_call (c__law_by T) hr (by decide) rfl (pl_cons (pd_var 8) (pl_cons (pd_tup (pl_cons pd_int (pl_cons pd_int pl_nil))) pl_nil)) (by exact rel__law_by)) pl_nil)) (by exact rel__law_scale)) pl_nil)) (by exact rel__law_move)) (pl_cons (pd_call (c__law_scale T) hr (by decide) rfl (pl_cons (pd_var 9) (pl_cons (pd_ixT (pd_var 3) pd_int) pl_nil)) (by exact rel__law_scale)) (pl_cons (pd_var 13) pl_nil))) (by exact (rel__law_place (plB_of 307 71 620 hH0)))) pl_nil))) (fun _ z => z.trans ?_)
  rfl
end
end Cv

set_option Elab.async false
set_option linter.all false
set_option maxRecDepth 100000
set_option maxHeartbeats 2000000
/-! dict(zip(range(..), a list)). -/
namespace PySem
open Sem (wp)
section
variable {prog : Program} {w : World} {A : Around} {E : Value → Shared → Prop} {s : Shared}
theorem cv_nextOf_range_item {it : Addr} {x left step : Int} {Q : Value → Shared → Prop} (hit : IsRangeIter s.heap it x left step) (hleft : 0 < left)
    (hQ : ∀ h', IsRangeIter h' it (x + step) (left - 1) step → Heap.SameBut it s.heap h' → Q (.int x s.toks) { s with heap := h', toks := s.toks + 1 }) : wpAny (model prog w) A (Builtin.SmallTypes.nextOf (.ref it)) Q E s := by
  have hT : s.TypeIs (.ref it) "range_iterator" := ⟨_, hit, rfl⟩
  unfold Builtin.SmallTypes.nextOf
  refine wpAny_bind (wpAny_callSpecial?_slot (name := Str.ofString "__next__") hT F.slot_range_iterator_next
    (call_meets F.slot_range_iterator_next hT F.entry_range_iterator_next (F.args_range_iterator_next_1 _) (AutoRange.range_iterator___next___range_iterator_1 it x left step (by omega)) ⟨hit, ?_⟩))
  exact wpAny_pure (hQ _ (Heap.get?_update_self _ (Heap.get?_update_self _ hit rfl) rfl) ((Heap.SameBut.update ..).trans (Heap.SameBut.update ..)))
theorem cv_nextOf_range_end {it : Addr} {x left step : Int} {Q : Value → Shared → Prop} (hh : A.handled = none) (hit : IsRangeIter s.heap it x left step) (hleft : left ≤ 0)
    (hE : ∀ h' e, Heap.ExtBut it s.heap h' → (∃ o, h'.get? e = some o ∧ o.cls = .type "StopIteration") → E (.ref e) { s with heap := h' }) : wpAny (model prog w) A (Builtin.SmallTypes.nextOf (.ref it)) Q E s := by
  have hT : s.TypeIs (.ref it) "range_iterator" := ⟨_, hit, rfl⟩
  unfold Builtin.SmallTypes.nextOf
  refine wpAny_bind (wpAny_callSpecial?_slot (name := Str.ofString "__next__") hT F.slot_range_iterator_next
    (wpAny_call_entry F.slot_range_iterator_next hT F.entry_range_iterator_next ?_ (F.args_range_iterator_next_1 _)))
  show wpAny _ _ (field (.ref it) 0 >>= _) _ _ s
  refine wpAny_bind (wpAny_field hit rfl (x := rawInt x) rfl ?_)
  show wpAny _ _ (field (.ref it) 1 >>= _) _ _ s
  refine wpAny_bind (wpAny_field hit rfl (x := rawInt left) rfl ?_)
  show wpAny _ _ (field (.ref it) 2 >>= _) _ _ s
  refine wpAny_bind (wpAny_field hit rfl (x := rawInt step) rfl ?_)
  show wpAny _ _ (if left ≤ 0 then _ else _) _ _ s
  rw [if_pos hleft]
  refine wpAny_bind (wpAny_rule ?_)
  refine wpAny_bind ?_
  show wpAny _ _ (newExc (.type "StopIteration") [] >>= _) _ _ _
  refine wpAny_bind ?_
  simp only [newExc, newTuple]
  refine wpAny_bind (wpAny_newObj_type ?_ (by size_fits))
  refine wpAny_bind (m := firstArgMember _ _) (wpAny_of_eq (a := Value.none) (by first | rfl | (simp only [firstArgMember]; rfl)) ?_)
  refine wpAny_newObj_type ?_ (by size_fits)
  simp only [raiseNew]
  refine wpAny_bind (wpAny_handled ?_)
  first | rw [show A.in1.handled = none from hh] | rw [hh]
  refine wpAny_bind (wpAny_pure (wpAny_throw ?_))
  exact hE _ _ (((Heap.ExtBut.refl it s.heap).push _).push _) ⟨_, Heap.get?_push_size _ rfl, rfl⟩
end
theorem cv_draws_range {prog : Program} {w : World} {A : Around} (hh : A.handled = none) (it : Addr) (a : Int) (n : Nat) :
    Draws prog w A it [it] n (fun i v => ∃ t, v = .int (a + i) t) (fun i h => IsRangeIter h it (a + (i : Nat)) ((n : Int) - (i : Nat)) 1) where
  live := fun _ _ st => ⟨_, st⟩
  frame := fun _ _ _ st hk => hk it (by simp) _ st
  item := fun i s Q E hi st hQ => by
    refine cv_nextOf_range_item st (by omega) fun h' hit' hs' => ?_
    refine hQ _ h' _ ⟨_, rfl⟩ ?_ hs'
    have e1 : a + ((i + 1 : Nat) : Int) = a + (i : Nat) + 1 := by omega
    have e2 : (n : Int) - ((i + 1 : Nat) : Int) = (n : Int) - (i : Nat) - 1 := by omega
    rw [e1, e2]
    exact hit'
  done := fun s Q E st hE => cv_nextOf_range_end hh st (by omega) hE
theorem cv_begins_range (r : Addr) (a b : Int) (t u v : Tok) (hs : Builtin.Range.small a b 1 = true) : Begins (.ref r) { cls := .type "range_iterator", data := .fields #[rawInt a, rawInt (Builtin.Range.rangeSize a b 1), rawInt 1] } fun h => IsRange h r a b 1 t u v where
  iter := fun prog w A E s Q hr h => wpAny_pyIter_range hr hs h
  keeps := fun h h' x hk => hk r _ x
  free := rfl
section
variable {prog : Program} {w : World} {A : Around} {E : Value → Shared → Prop} {s : Shared} {z TI TO T i1 i2 : Addr} {fp1 fp2 : List Addr} {n1 n2 i : Nat} {P1 P2 : Nat → Value → Prop} {St1 St2 : Nat → Heap → Prop} {a1 a2 : Value} {f : Bool} {oT : Obj}
theorem cv_zip_held_item {Q : Value → Shared → Prop} (S : ZipSep2 z TI TO i1 i2 fp1 fp2) (D1 : Draws prog w A i1 fp1 n1 P1 St1) (D2 : Draws prog w A i2 fp2 n2 P2 St2)
    (hz : IsZipHeld s.heap z TI TO T f) (hT : s.heap.get? T = some oT) (hTI : IsTupOf2 s.heap TI (.ref i1) (.ref i2)) (st1 : St1 i s.heap) (st2 : St2 i s.heap) (hlt1 : i < n1) (hlt2 : i < n2)
    (hQ : ∀ x1 x2 h' tk, P1 i x1 → P2 i x2 → IsZipHeld h' z TI TO T true → St1 (i + 1) h' → St2 (i + 1) h' → IsTupOf2 h' s.heap.objs.size x1 x2 →
      (∀ c o, c ≠ z → c ≠ i1 → c ≠ i2 → s.heap.get? c = some o → h'.get? c = some o) → Q (.ref s.heap.objs.size) { s with heap := h', toks := tk }) :
    wpAny (model prog w) A (Builtin.«zip.__next__» ⟨[.ref z], []⟩) (fun fin s' => ∃ v, fin = .done (.ret v) ∧ Q v s') E s := by
  obtain ⟨hp, g, d, tk0, os⟩ := s
  show wpAny _ _ (field (.ref z) 2 >>= _) _ _ _
  refine wpAny_bind (wpAny_field hz rfl (x := .bool false) rfl ?_)
  show wpAny _ _ (field (.ref z) 3 >>= _) _ _ _
  refine wpAny_bind (wpAny_field hz rfl (x := .ref TI) rfl ?_)
  refine wpAny_bind (wpAny_seqItems hTI rfl ?_)
  show wpAny _ _ (Builtin.SmallTypes.ownedTupleIsFree (.ref z) >>= _) _ _ _
  refine wpAny_bind (wpAny_tupleHeld_zip hz hT fun h₁ hz₁ hs₁ => ?_)
  replace hs₁ : Heap.SameBut z hp h₁ := hs₁
  simp only [Bool.false_eq_true, if_false]
  refine wpAny_bind ?_
  rw [← Array.forIn_toList]
  simp only [List.forIn_cons, List.forIn_nil]
  refine wpAny_bind (wpAny_bind (wpAny_holding ?_))
  show wpAny _ _ (Builtin.SmallTypes.nextOf (.ref i1) >>= _) _ _ ⟨h₁, g, d, tk0, os⟩
  refine wpAny_bind (D1.item i _ _ _ hlt1 (D1.over st1 hs₁ S.zf1) fun x1 p1 tk1 hx1 sn1 hp1 => wpAny_pure ?_)
  replace hp1 : Heap.SameBut i1 h₁ p1 := hp1
  refine wpAny_pure ?_
  refine wpAny_bind (wpAny_bind (wpAny_holding ?_))
  show wpAny _ _ (Builtin.SmallTypes.nextOf (.ref i2) >>= _) _ _ ⟨p1, g, d, tk1, os⟩
  refine wpAny_bind (D2.item i _ _ _ hlt2 (D2.over (D2.over st2 hs₁ S.zf2) hp1 S.sep1_2) fun x2 p2 tk2 hx2 sn2 hp2 => wpAny_pure ?_)
  replace hp2 : Heap.SameBut i2 p1 p2 := hp2
  refine wpAny_pure (wpAny_pure ?_)
  show wpAny _ _ (newTuple [x1, x2] >>= _) _ _ _
  refine wpAny_bind (wpAny_newTuple ?_)
  have hsz : p2.objs.size = hp.objs.size := by rw [hp2.1, hp1.1, hs₁.1]
  have hz₃ : IsZipHeld p2 z TI TO T true := hp2.extBut _ _ S.zi2 (hp1.extBut _ _ S.zi1 hz₁)
  have hk : ∀ c o, c ≠ z → c ≠ i1 → c ≠ i2 → hp.get? c = some o → p2.get? c = some o := fun c o c1 c2 c3 e => hp2.extBut _ _ c3 (hp1.extBut _ _ c2 (hs₁.extBut _ _ c1 e))
  refine wpAny_pure ⟨_, rfl, ?_⟩
  show Q (.ref p2.objs.size) _
  have ht : IsTupOf2 (p2.push { cls := .type "tuple", data := .seq #[x1, x2] }) p2.objs.size x1 x2 := Heap.get?_push_size _ rfl
  rw [hsz] at ht ⊢
  exact hQ x1 x2 _ tk2 hx1 hx2 (Heap.get?_push_of_some _ hz₃) (D1.frame _ _ _ (D1.over sn1 hp2 S.sep2_1) fun b hb o e => Heap.get?_push_of_some _ e) (D2.frame _ _ _ sn2 fun b hb o e => Heap.get?_push_of_some _ e) ht fun c o c1 c2 c3 e => Heap.get?_push_of_some _ (hk c o c1 c2 c3 e)
theorem cv_zip_held_end {Q : Fin → Shared → Prop} (S : ZipSep2 z TI TO i1 i2 fp1 fp2) (D1 : Draws prog w A i1 fp1 n1 P1 St1) (D2 : Draws prog w A i2 fp2 n2 P2 St2)
    (hz : IsZipHeld s.heap z TI TO T f) (hT : s.heap.get? T = some oT) (hTI : IsTupOf2 s.heap TI (.ref i1) (.ref i2)) (st1 : St1 i s.heap) (st2 : St2 i s.heap) (hle1 : i ≤ n1) (hle2 : i ≤ n2) (hend : i = n1)
    (hE : ∀ h' e, (∀ c o, c ≠ z → c ≠ i1 → c ≠ i2 → s.heap.get? c = some o → h'.get? c = some o) → (∃ o, h'.get? e = some o ∧ o.cls = .type "StopIteration") → E (.ref e) { s with heap := h' }) :
    wpAny (model prog w) A (Builtin.«zip.__next__» ⟨[.ref z], []⟩) Q E s := by
  obtain ⟨hp, g, d, tk0, os⟩ := s
  show wpAny _ _ (field (.ref z) 2 >>= _) _ _ _
  refine wpAny_bind (wpAny_field hz rfl (x := .bool false) rfl ?_)
  show wpAny _ _ (field (.ref z) 3 >>= _) _ _ _
  refine wpAny_bind (wpAny_field hz rfl (x := .ref TI) rfl ?_)
  refine wpAny_bind (wpAny_seqItems hTI rfl ?_)
  show wpAny _ _ (Builtin.SmallTypes.ownedTupleIsFree (.ref z) >>= _) _ _ _
  refine wpAny_bind (wpAny_tupleHeld_zip hz hT fun h₁ hz₁ hs₁ => ?_)
  replace hs₁ : Heap.SameBut z hp h₁ := hs₁
  simp only [Bool.false_eq_true, if_false]
  refine wpAny_bind ?_
  rw [← Array.forIn_toList]
  simp only [List.forIn_cons, List.forIn_nil]
  refine wpAny_bind (wpAny_bind (wpAny_holding ?_))
  show wpAny _ _ (Builtin.SmallTypes.nextOf (.ref i1) >>= _) _ _ ⟨h₁, g, d, tk0, os⟩
  refine wpAny_bind (D1.done ⟨h₁, g, d, tk0, os⟩ _ _ (by rw [← hend]; exact D1.over st1 hs₁ S.zf1) fun q e hq he => ?_)
  replace hq : Heap.ExtBut i1 h₁ q := hq
  exact hE q e (fun c o cz c1 c2 x => hq _ _ c1 (hs₁.extBut _ _ cz x)) he
theorem cv_pyNext_held_item {Q : Option Value → Shared → Prop} (S : ZipSep2 z TI TO i1 i2 fp1 fp2) (D1 : Draws prog w A.in1 i1 fp1 n1 P1 St1) (D2 : Draws prog w A.in1 i2 fp2 n2 P2 St2)
    (hz : IsZipHeld s.heap z TI TO T f) (hT : s.heap.get? T = some oT) (hTI : IsTupOf2 s.heap TI (.ref i1) (.ref i2)) (st1 : St1 i s.heap) (st2 : St2 i s.heap) (hlt1 : i < n1) (hlt2 : i < n2)
    (hQ : ∀ x1 x2 h' tk, P1 i x1 → P2 i x2 → IsZipHeld h' z TI TO T true → St1 (i + 1) h' → St2 (i + 1) h' → IsTupOf2 h' s.heap.objs.size x1 x2 →
      (∀ c o, c ≠ z → c ≠ i1 → c ≠ i2 → s.heap.get? c = some o → h'.get? c = some o) → Q (some (.ref s.heap.objs.size)) { s with heap := h', toks := tk }) :
    wpAny (model prog w) A (pyNext (.ref z)) Q E s := by
  have hTy : s.TypeIs (.ref z) "zip" := ⟨_, hz, rfl⟩
  unfold pyNext
  exact wpAny_bind (wpAny_attempt (wpAny_callSpecial?_slot (name := Str.ofString "__next__") hTy F.slot_zip_next
    (wpAny_call_entry F.slot_zip_next hTy F.entry_zip_next
      (cv_zip_held_item S D1 D2 hz hT hTI st1 st2 hlt1 hlt2 fun x1 x2 h' tk p1 p2 b1 b2 b3 b4 b5 => wpAny_pure (hQ x1 x2 h' tk p1 p2 b1 b2 b3 b4 b5)) (F.args_zip_next_1 _))))
theorem cv_pyNext_held_end {Q : Option Value → Shared → Prop} (S : ZipSep2 z TI TO i1 i2 fp1 fp2) (D1 : Draws prog w A.in1 i1 fp1 n1 P1 St1) (D2 : Draws prog w A.in1 i2 fp2 n2 P2 St2)
    (hz : IsZipHeld s.heap z TI TO T f) (hT : s.heap.get? T = some oT) (hTI : IsTupOf2 s.heap TI (.ref i1) (.ref i2)) (st1 : St1 i s.heap) (st2 : St2 i s.heap) (hle1 : i ≤ n1) (hle2 : i ≤ n2) (hend : i = n1)
    (hQ : ∀ h', (∀ c o, c ≠ z → c ≠ i1 → c ≠ i2 → s.heap.get? c = some o → h'.get? c = some o) → Q none { s with heap := h' }) : wpAny (model prog w) A (pyNext (.ref z)) Q E s := by
  have hTy : s.TypeIs (.ref z) "zip" := ⟨_, hz, rfl⟩
  unfold pyNext
  refine wpAny_bind (wpAny_attempt (wpAny_callSpecial?_slot (name := Str.ofString "__next__") hTy F.slot_zip_next
    (wpAny_call_entry F.slot_zip_next hTy F.entry_zip_next (cv_zip_held_end S D1 D2 hz hT hTI st1 st2 hle1 hle2 hend fun h' e hk he => ?_) (F.args_zip_next_1 _))))
  obtain ⟨o, ho, hc⟩ := he
  refine wpAny_bind (wpAny_isInstance (T := "StopIteration") (b := true) ⟨o, ho, hc⟩ isSubtype_stop ?_)
  exact wpAny_pure (hQ _ hk)
/-- zip of two iterators of any kind, the first of which ends, as an argument of dict() -/
theorem cv_PairArg (n : Nat) (S : ZipSep2 z TI TO i1 i2 fp1 fp2) (D1 : ∀ A : Around, A.handled = none → Draws prog w A i1 fp1 n P1 St1) (D2 : ∀ A : Around, A.handled = none → Draws prog w A i2 fp2 n P2 St2)
    (L1 : ∀ h, St1 0 h → ∀ b ∈ fp1, ∃ o, h.get? b = some o) (L2 : ∀ h, St2 0 h → ∀ b ∈ fp2, ∃ o, h.get? b = some o) :
    PairArg prog w "zip" z (z :: TI :: TO :: (fp1 ++ fp2)) [z, TO, i1, i2] n (fun i k v => P1 i k ∧ P2 i v)
      (fun h => IsZip h z TI TO .none ∧ IsTupOf2 h TI (.ref i1) (.ref i2) ∧ (∃ a b, IsTupOf2 h TO a b) ∧ St1 0 h ∧ St2 0 h) where
  type := fun s ok => ⟨_, ok.1, rfl⟩
  notDict := by decide
  keep := fun h h' ok hk => by
    obtain ⟨hz, hTI, ⟨a, b, hTO⟩, h1, h2⟩ := ok
    exact ⟨hk _ _ hz, hk _ _ hTI, ⟨a, b, hk _ _ hTO⟩, (D1 callerA rfl).frame _ _ _ h1 fun b _ o e => hk b o e, (D2 callerA rfl).frame _ _ _ h2 fun b _ o e => hk b o e⟩
  there := fun h ok b hb => by
    obtain ⟨hz, hTI, ⟨a, c, hTO⟩, h1, h2⟩ := ok
    simp only [List.mem_cons, List.mem_append] at hb
    rcases hb with rfl | rfl | rfl | hb | hb
    · exact ⟨_, hz⟩
    · exact ⟨_, hTI⟩
    · exact ⟨_, hTO⟩
    · exact L1 h h1 b hb
    · exact L2 h h2 b hb
  sub := fun b hb => by
    have hb' : b = z ∨ b = TO ∨ b = i1 ∨ b = i2 := by simpa using hb
    rcases hb' with rfl | rfl | rfl | rfl
    · exact List.mem_cons_self ..
    · exact List.mem_cons_of_mem _ (List.mem_cons_of_mem _ (List.mem_cons_self ..))
    · exact List.mem_cons_of_mem _ (List.mem_cons_of_mem _ (List.mem_cons_of_mem _ (List.mem_append_left _ S.mem1)))
    · exact List.mem_cons_of_mem _ (List.mem_cons_of_mem _ (List.mem_cons_of_mem _ (List.mem_append_right _ S.mem2)))
  noKeys := fun A s Q E hA ok h => getAttrOr_miss_zip ok.1 rfl rfl rfl zip_no_keys (by decide +kernel) hA h
  iter := fun A s d Q E hA ok hd hdf h => by
    obtain ⟨hz, hTI, ⟨a, b, hTO⟩, h1, h2⟩ := ok
    simp only [List.mem_cons, List.mem_append, not_or] at hdf
    obtain ⟨dz, dTI, dTO, df1, df2⟩ := hdf
    have di1 : d ≠ i1 := fun e => df1 (by rw [e]; exact S.mem1)
    have di2 : d ≠ i2 := fun e => df2 (by rw [e]; exact S.mem2)
    have dr1 := D1 A.in1 hA
    have dr2 := D2 A.in1 hA
    refine wpAny_pyIter_zip hz (h z [z, TO, i1, i2] (fun i h => IsTupOf2 h TI (.ref i1) (.ref i2) ∧ St1 i h ∧ St2 i h ∧
      ((IsZip h z TI TO .none ∧ ∃ a b, IsTupOf2 h TO a b) ∨ ∃ T f oT, IsZipHeld h z TI TO T f ∧ h.get? T = some oT ∧ T ≠ z ∧ T ≠ i1 ∧ T ≠ i2 ∧ T ≠ d)) s.heap s.toks ?_
      ⟨hTI, h1, h2, .inl ⟨hz, a, b, hTO⟩⟩ (fun _ _ e => e) fun b hb => .inl hb)
    exact {
      off := fun hm => by
        have hb' : d = z ∨ d = TO ∨ d = i1 ∨ d = i2 := by simpa using hm
        rcases hb' with e | e | e | e
        · exact dz e
        · exact dTO e
        · exact di1 e
        · exact di2 e
      frame := fun i h₁ h₂ st hk => by
        obtain ⟨hTI, h1, h2, hz⟩ := st
        refine ⟨hk _ _ (Ne.symm dTI) hTI, dr1.frame _ _ _ h1 fun b hb o e => hk b o (fun q => df1 (by rw [← q]; exact hb)) e, dr2.frame _ _ _ h2 fun b hb o e => hk b o (fun q => df2 (by rw [← q]; exact hb)) e, ?_⟩
        rcases hz with ⟨hz, a, b, hTO⟩ | ⟨T, f, oT, hz, hT, r1, r2, r3, r4⟩
        · exact .inl ⟨hk _ _ (Ne.symm dz) hz, a, b, hk _ _ (Ne.symm dTO) hTO⟩
        · exact .inr ⟨T, f, oT, hk _ _ (Ne.symm dz) hz, hk _ _ r4 hT, r1, r2, r3, r4⟩
      item := fun i s₁ Q₁ E₁ hi st hds hQ => by
        obtain ⟨hTI, h1, h2, hz⟩ := st
        have lt : ∀ {c o}, s₁.heap.get? c = some o → s₁.heap.objs.size ≠ c := fun e => Nat.ne_of_gt (Heap.lt_size e)
        have n1 : s₁.heap.objs.size ≠ i1 := let ⟨_, e⟩ := dr1.live _ _ h1; lt e
        have n2 : s₁.heap.objs.size ≠ i2 := let ⟨_, e⟩ := dr2.live _ _ h2; lt e
        have off : ∀ {c : Addr}, c ∉ [z, TO, i1, i2] → c ≠ z ∧ c ≠ TO ∧ c ≠ i1 ∧ c ≠ i2 := fun hc => ⟨fun x => hc (by simp [x]), fun x => hc (by simp [x]), fun x => hc (by simp [x]), fun x => hc (by simp [x])⟩
        rcases hz with ⟨hz, a, b, hTO⟩ | ⟨T, f, oT, hz, hT, r1, r2, r3, r4⟩
        · refine wpAny_pyNext_zipD2_item S (D1 A.in1 hA) (D2 A.in1 hA) hz hTI hTO h1 h2 hi hi fun x1 x2 h' tk p1 p2 a1 a2 a3 a4 a5 a6 hk => ?_
          exact hQ s₁.heap.objs.size x1 x2 h' tk ⟨p1, p2⟩ (.inl ⟨_, a5, rfl, _, rfl⟩)
            ⟨hk _ _ S.TIz S.TITO S.TIi1 S.TIi2 hTI, a3, a4, .inr ⟨s₁.heap.objs.size, false, _, a1, a5, lt hz, n1, n2, Nat.ne_of_gt hds⟩⟩
            fun c o hc e => hk c o (off hc).1 (off hc).2.1 (off hc).2.2.1 (off hc).2.2.2 e
        · refine cv_pyNext_held_item S (D1 A.in1 hA) (D2 A.in1 hA) hz hT hTI h1 h2 hi hi fun x1 x2 h' tk p1 p2 a1 a3 a4 a5 hk => ?_
          exact hQ s₁.heap.objs.size x1 x2 h' tk ⟨p1, p2⟩ (.inl ⟨_, a5, rfl, _, rfl⟩)
            ⟨hk _ _ S.TIz S.TIi1 S.TIi2 hTI, a3, a4, .inr ⟨T, true, oT, a1, hk _ _ r1 r2 r3 hT, r1, r2, r3, r4⟩⟩
            fun c o hc e => hk c o (off hc).1 (off hc).2.2.1 (off hc).2.2.2 e
      done := fun s₁ Q₁ E₁ st hQ => by
        obtain ⟨hTI, h1, h2, hz⟩ := st
        have off : ∀ {c : Addr}, c ∉ [z, TO, i1, i2] → c ≠ z ∧ c ≠ TO ∧ c ≠ i1 ∧ c ≠ i2 := fun hc => ⟨fun x => hc (by simp [x]), fun x => hc (by simp [x]), fun x => hc (by simp [x]), fun x => hc (by simp [x])⟩
        rcases hz with ⟨hz, a, b, hTO⟩ | ⟨T, f, oT, hz, hT, r1, r2, r3, r4⟩
        · exact wpAny_pyNext_zipD2_end S (D1 A.in1 hA) (D2 A.in1 hA) hz hTI hTO h1 h2 (Nat.le_refl _) (Nat.le_refl _) (.inl rfl) fun h' tk hk => hQ h' tk fun c o hc e => hk c o (off hc).1 (off hc).2.1 (off hc).2.2.1 (off hc).2.2.2 e
        · exact cv_pyNext_held_end S (D1 A.in1 hA) (D2 A.in1 hA) hz hT hTI h1 h2 (Nat.le_refl _) (Nat.le_refl _) rfl fun h' hk => hQ h' s₁.toks fun c o hc e => hk c o (off hc).1 (off hc).2.2.1 (off hc).2.2.2 e }
end
end PySem

set_option Elab.async false
set_option linter.all false
set_option maxRecDepth 100000
set_option maxHeartbeats 2000000
/-! A dict of int keys, hidden; comprehensions with a test. -/
namespace Cv
open PySem PySem.Spec PyProof.Rows L2
/-! ### dict(zip(range(a, b), a list)) -/
def zipK (ks : List Int) (vs : List V) : List (L2.Key × V) := (ks.map Sum.inl).zip vs
def rgI (i : Int) (n : Nat) : List Int := (List.range n).map fun (j : Nat) => i + (j : Int)
theorem mergeK_new : ∀ (more kvs : List (L2.Key × V)), (more.map (·.1)).Nodup → (∀ p ∈ more, valV kvs p.1 = none) → mergeK kvs more = kvs ++ more
  | [], kvs, _, _ => (List.append_nil _).symm
  | p :: more, kvs, hn, h => by
    have hn' := List.nodup_cons.mp hn
    show mergeK (putK kvs p.1 p.2) more = _
    rw [putK_new p.2 (h p List.mem_cons_self), mergeK_new more _ hn'.2 fun q hq => ?_, List.append_assoc]
    · rfl
    · rw [valV_snoc p.1 q.1 p.2 kvs (h p List.mem_cons_self), if_neg (fun e => hn'.1 (List.mem_map.mpr ⟨q, hq, e⟩))]
      exact h q (List.mem_cons_of_mem _ hq)
section
variable {X : Cx}
def tDZip (ta tb tl : TE) : TE := fun σ H Q => ta σ H fun x H1 => tb σ H1 fun y H2 => ∃ (i : Int) (n : Nat), x = .int i ∧ y = .int (i + n) ∧ 0 ≤ i ∧ i ≤ 1000000 ∧ n ≤ 1000 ∧ tl σ H2 fun z H3 => ∃ l xs, z = .ref l ∧ SqL X.K H3 l xs ∧ xs.length = n ∧ ∀ p, H3 p = none → Q (.ref p) (upd H3 p (.dK (zipK (rgI i n) xs)))
theorem pe_dzip {a b l : Expr} {ta tb tl : TE} {p1 p2 p3 q1 q2 pos : Pos} (hc : X.calm = true) (g1 : Gl X "dict") (m1 : X.mg "dict" = none) (g2 : Gl X "zip") (m2 : X.mg "zip" = none) (g3 : Gl X "range") (m3 : X.mg "range" = none)
    (ha : PE X a ta) (hb : PE X b tb) (hl : PE X l tl)
    (n1 : starEach [.Call (.Name "zip" p2) [.Call (.Name "range" p3) [a, b] [] q2, l] [] q1] X.env = (false, eval (.Call (.Name "zip" p2) [.Call (.Name "range" p3) [a, b] [] q2, l] [] q1) X.env) :: starEach [] X.env := by rfl)
    (n2 : starEach [.Call (.Name "range" p3) [a, b] [] q2, l] X.env = (false, eval (.Call (.Name "range" p3) [a, b] [] q2) X.env) :: starEach [l] X.env := by rfl) (n3 : starEach [l] X.env = (false, eval l X.env) :: starEach [] X.env := by rfl)
    (n4 : starEach [a, b] X.env = (false, eval a X.env) :: starEach [b] X.env := by rfl) (n5 : starEach [b] X.env = (false, eval b X.env) :: starEach [] X.env := by rfl) (hp1 : (backTo q1 (starEach [l] X.env)).any (·.1) = false := by rfl) (hp2 : (backTo q2 (starEach [b] X.env)).any (·.1) = false := by rfl) :
    PE X (.Call (.Name "dict" p1) [.Call (.Name "zip" p2) [.Call (.Name "range" p3) [a, b] [] q2, l] [] q1] [] pos) (tDZip (X := X) ta tb tl) := by
  refine ⟨fun pins s σ H Q I h => ?_⟩
  refine Call_ (ld_blt I g1 m1 boot_dict (PyProof.Rows.callWith_type1 (args_cons (Call_ (ld_blt I g2 m2 boot_zip (PyProof.Rows.callWith_type1 (args_cons (Call_ (ld_blt I g3 m3 boot_range (PyProof.Rows.callWith_type1 (args_cons (thn (ha.run pins s σ H _ I h) fun v s1 ⟨x, H1, I1, r1, q1⟩ => one_arg hb I1 q1 (fun u s2 y H2 I2 r2 q => ?_) n5) n4) n4 hp2))) n2) n2 hp1))) n1) n1))
  obtain ⟨i, n, rfl, rfl, h0, h1, h2, q⟩ := q
  obtain ⟨t, rfl⟩ := r1
  obtain ⟨t', rfl⟩ := r2
  refine call_range_2 ?_
  have fr := I2.hok.fresh (Nat.le_refl _)
  have I3 : Inv X pins σ H2 { s2 with heap := s2.heap.push { cls := .type "range", data := .fields #[.int i t, .int (i + n) t', .int 1 s2.toks] }, toks := s2.toks + 1 } := I2.kept fun b u e => Heap.get?_push_of_some _ e
  obtain ⟨f0, f1, f2, _⟩ := I2.fpOk (Nat.le_refl _) fr
  have I4 : Inv X (pins ++ [(s2.heap.objs.size, ({ cls := .type "range", data := .fields #[.int i t, .int (i + n) t', .int 1 s2.toks] } : Obj))]) σ H2 { s2 with heap := s2.heap.push { cls := .type "range", data := .fields #[.int i t, .int (i + n) t', .int 1 s2.toks] }, toks := s2.toks + 1 } := I3.pins_of fun p hp => by
    rcases List.mem_append.mp hp with hp | hp
    · exact I3.pin p (List.mem_append_right _ hp)
    · rw [List.mem_singleton] at hp
      subst hp
      exact ⟨Heap.get?_push_size _ rfl, f0, f1, f2, fun v z => by cases z⟩
  refine one_arg hl I4 q (fun z s3 w H3 I5 r3 q => ?_) n3
  obtain ⟨l', xs, rfl, hS, hlen, q⟩ := q
  cases r3
  have hr := (I5.pin _ (List.mem_append_right _ (List.mem_append_right _ List.mem_cons_self))).1
  have I6 : Inv X pins σ H3 s3 := I5.pins_of fun p hp => I5.pin p (List.mem_append_right _ (List.mem_append_left _ hp))
  obtain ⟨its, rv, pl, hz⟩ := I6.list hS
  have hil := rv.length
  have hd := I6.ok.hd hc
  refine zip_begins2 (cv_begins_range s2.heap.objs.size i (i + n) t t' s2.toks (small_one (by omega) (by omega) (by omega) (by omega))) (begins_list l' its.toArray) hr pl.isList fun h' z1 z2 z3 z4 z5 z6 hk => args_nil ?_
  have hrs : Builtin.Range.rangeSize i (i + n) 1 = (n : Int) := by
    rw [rangeSize_nat]
    omega
  rw [hrs] at z4
  have hsz : its.toArray.size = n := by rw [List.size_toArray, ← hil, hlen]
  have hlt : l' < s3.heap.objs.size := let ⟨o, e, _⟩ := pl.isList; Heap.lt_size e
  have S : ZipSep2 (s3.heap.objs.size + 4) (s3.heap.objs.size + 2) (s3.heap.objs.size + 3) s3.heap.objs.size (s3.heap.objs.size + 1) (s3.heap.objs.size :: []) ((s3.heap.objs.size + 1) :: [l']) := zip_sep2 (fun b hb => by cases hb) (fun b hb => by rw [List.mem_singleton] at hb; rw [hb]; exact hlt)
  have P := cv_PairArg (prog := X.prog) (w := X.w) n S (fun A hA => cv_draws_range hA _ i n) (fun A hA => by
      have := Draws.list (prog := X.prog) (w := X.w) (A := A) hA (s3.heap.objs.size + 1) l' (Nat.ne_of_lt (Nat.lt_succ_of_lt hlt)) its.toArray
      rw [hsz] at this
      exact this) (fun h st b hb => by rw [List.mem_singleton] at hb; rw [hb]; exact ⟨_, st⟩) (fun h st b hb => by
      obtain ⟨⟨o1, e1, _⟩, ⟨o2, e2, _⟩⟩ := st
      simp only [List.mem_cons, List.not_mem_nil, or_false] at hb
      rcases hb with rfl | rfl
      · exact ⟨_, e1⟩
      · exact ⟨_, e2⟩)
  have ok : IsRangeIter h' s3.heap.objs.size (i + ((0 : Nat) : Int)) ((n : Int) - ((0 : Nat) : Int)) 1 := by
    have e1 : i + ((0 : Nat) : Int) = i := by omega
    have e2 : (n : Int) - ((0 : Nat) : Int) = n := by omega
    rw [e1, e2]
    exact z4
  have sl : (1000 : Nat) < sizeLine := by decide
  refine call_dict_pairs (knd := mixKind X.prog X.w) (kvs := (List.zip ((rgI i n).map Sum.inl) its)) P hd ⟨z1, z2, ⟨_, _, z3⟩, ok, ⟨⟨_, z5, rfl, rfl⟩, pl.isList.at fun o e => hk _ o e⟩⟩ ⟨?_, fun j key v hRel => ?_⟩ (by omega) fun h2 tk hD hk2 => ?_
  · rw [List.length_zip, List.length_map]
    unfold rgI
    rw [List.length_map, List.length_range, ← hil, hlen]
    exact Nat.min_self _
  · obtain ⟨⟨tt, rfl⟩, hv⟩ := hRel
    have hj : j < n := by
      have := (Array.getElem?_eq_some_iff.mp hv).1
      rw [hsz] at this
      exact this
    refine ⟨.inl (i + (j : Int)), ?_, mixKind_int _ _ _ _⟩
    have e1 : ((rgI i n).map (Sum.inl : Int → L2.Key))[j]? = some (.inl (i + (j : Int))) := by
      unfold rgI
      rw [List.getElem?_map, List.getElem?_map, List.getElem?_range hj]
      rfl
    have e2 : its[j]? = some v := by simpa using hv
    rw [List.getElem?_zip_eq_some]
    exact ⟨e1, e2⟩
  · have kv : KV (zipK (rgI i n) xs) (List.zip ((rgI i n).map Sum.inl) its) := by
      have key : ∀ (ks : List L2.Key) (xs : List V) (us : List Value), Vals xs us → KV (ks.zip xs) (ks.zip us) := by
        intro ks
        induction ks with
        | nil => exact fun _ _ _ => .nil
        | cons k ks ih =>
          intro xs us r
          cases r with
          | nil => exact .nil
          | cons r1 r2 => exact .cons ⟨rfl, r1⟩ (ih _ _ r2)
      exact key _ _ _ rv
    have km := KV.merge kv (.nil : KV ([] : List (L2.Key × V)) [])
    have nd : ((zipK (rgI i n) xs).map (·.1)).Nodup := by
      have : (zipK (rgI i n) xs).map (·.1) = (rgI i n).map Sum.inl := by
        unfold zipK
        rw [List.map_fst_zip]
        unfold rgI
        rw [List.length_map, List.length_map, List.length_range, hlen]
        exact Nat.le_refl _
      rw [this]
      unfold rgI
      rw [List.map_map]
      refine List.Pairwise.map _ (fun a b h e => h ?_) (List.nodup_range (n := n))
      have e2 : i + (a : Int) = i + (b : Int) := Sum.inl.inj e
      omega
    rw [mergeK_new _ _ nd (fun p _ => valV_nil), List.nil_append] at km
    have k2 : ∀ b o, s3.heap.get? b = some o → h2.get? b = some o := fun b o e => hk2 b o (fun hm => by
      have hb := Heap.lt_size e
      simp only [List.mem_cons, List.not_mem_nil, or_false] at hm
      rcases hm with r | r | r | r <;> (rw [r] at hb; exact absurd hb (Nat.not_lt.mpr (by first | exact Nat.le_add_right _ _ | exact Nat.le_refl _)))) (hk b o e)
    have big := I6.big
    have zl : (zipK (rgI i n) xs).length ≤ sizeLine := by
      unfold zipK
      rw [List.length_zip, hlen]
      have := Nat.min_le_right ((rgI i n).map (Sum.inl : Int → L2.Key)).length n
      omega
    have I7 : Inv X pins σ (upd H3 h'.objs.size (.dK (zipK (rgI i n) xs))) { s3 with heap := h2, toks := tk } := I6.laid k2 (by rw [z6]; omega) (dk_new zl (by
      rw [beq_eq_false_iff_ne, z6]
      exact Nat.ne_of_gt (Nat.lt_add_right 5 big)) km hD)
    exact ⟨.ref h'.objs.size, _, I7, rfl, q _ (I6.hok.fresh (by rw [z6]; omega))⟩
end

/-! ### the mode of such a dict -/
def Md.dk (K : PySem.W.Frag) (m : Md) (D : Addr) (ks : List Int) (ds : List PyData) : Md := ⟨D :: m.zs, fun H => m.W (del [D] H) ∧ ∃ vs, H D = some (.dK (zipK ks vs)) ∧ DpAll K (del (D :: m.zs) H) vs ds, fun H H' s h => ⟨m.mono _ _ (same_del s) h.1, let ⟨acc, e, q⟩ := h.2; ⟨acc, s D _ e, dps_mono (same_del s) _ _ q⟩⟩⟩
/-- in a mode: at D stands a dict of this data -/
def Dh (K : PySem.W.Frag) (m : Md) (D : Addr) (ks : List Int) (ds : List PyData) : Prop := ∀ H, m.W H → ∃ vs, H D = some (.dK (zipK ks vs)) ∧ DpAll K (del m.zs H) vs ds
theorem dh_dk {K : PySem.W.Frag} {m : Md} {D : Addr} {ks : List Int} {ds : List PyData} : Dh K (m.dk K D ks ds) D ks ds := fun H h => h.2
theorem del_del (z : Addr) (zs : List Addr) (H : Hp) : del zs (del [z] H) = del (z :: zs) H := by
  funext b
  unfold del
  by_cases h1 : b ∈ zs
  · rw [if_pos h1, if_pos (List.mem_cons_of_mem _ h1)]
  · rw [if_neg h1]
    by_cases h2 : b = z
    · rw [if_pos (by simp [h2]), if_pos (by simp [h2])]
    · rw [if_neg (by simp [h2]), if_neg (by simp [h1, h2])]
theorem dh_lst {K : PySem.W.Frag} {m : Md} {D D2 : Addr} {acc : List V} {ks : List Int} {ds : List PyData} (h : Dh K m D ks ds) : Dh K (m.lst D2 acc) D ks ds := fun H w => by
  obtain ⟨vs, e, q⟩ := h _ w.1
  refine ⟨vs, (del_some e).2, ?_⟩
  rw [del_del] at q
  exact q
theorem zip_val {K : PySem.W.Frag} {H : Hp} {i : Int} {d : PyData} : ∀ {ks : List Int} {ds : List PyData} {vs : List V}, DpAll K H vs ds → (ks.zip ds).lookup i = some d → ∃ v, valV (zipK ks vs) (.inl i) = some v ∧ Dp K H v d
  | [], _, _, _, e => by cases e
  | k :: ks, _, _, .nil, e => by cases e
  | k :: ks, d' :: ds, v :: vs, .cons h t, e => by
    have e' : (match i == k with | true => some d' | false => (ks.zip ds).lookup i) = some d := e
    by_cases hk : i = k
    · subst hk
      simp only [beq_self_eq_true] at e'
      cases e'
      exact ⟨v, valV_pos rfl, h⟩
    · have : (i == k) = false := beq_eq_false_iff_ne.mpr hk
      rw [this] at e'
      obtain ⟨w, h1, h2⟩ := zip_val (ks := ks) t e'
      refine ⟨w, ?_, h2⟩
      show valV ((Sum.inl k, v) :: zipK ks vs) _ = _
      rw [valV_neg (fun z => hk (Sum.inl.inj z).symm)]
      exact h1
section
variable {X : Cx} {m mo : Md} {g : List Sl} {D : Addr} {R : PyData → Prop} {N : List Sl → Prop} {e a b l : Expr} {rest : List Stmt} {pos pos1 : Pos} {ks : List Int} {ds : List PyData}
/-- known[key] -/
theorem pd_dget (i : Nat) {n : Str} {k : Int} {d : PyData} (hu : X.A.units + 1 < cLine) (hD : Dh X.K m D ks ds) (hb : PD X m g b (Is (.int k))) (h : (ks.zip ds).lookup k = some d) (hg : g[i]? = some (.v (.ref D)) := by rfl) (hN : X.N[i]? = some n := by rfl) (hv : Vis X.env.scope n := by first | exact Or.inl rfl | exact Or.inr (Or.inl rfl) | exact Or.inr (Or.inr rfl))
    (hd : (n == ("__debug__" : Str)) = false := by decide) (hcd : (n == ("__classdict__" : Str)) = false := by decide) (hs : NoSl b := by intro _ _; rfl) : PD X m g (.Subscript (.Name n pos1) b pos) (Is d) :=
  PE.wk (pe_dget hu (pe_var hN hv hd hcd) hb hs) fun σ H Q ⟨o, kk⟩ => by
    obtain ⟨ov, h1, h2⟩ := repS_get o.rp hg
    have h2' : ov = some (.ref D) := h2
    subst h2'
    refine ⟨_, h1, o, fun u y H1 n1 s1 q1 => ?_⟩
    cases s1
    cases dp_int q1
    obtain ⟨vs, e1, e2⟩ := hD _ n1.w
    obtain ⟨v, h3, h4⟩ := zip_val e2 h
    refine ⟨D, v, rfl, ?_, kk v d H1 n1 rfl h4⟩
    rw [← h3]
    exact DGet.k (k := .inl k) e1
/-- x = dict(zip(range(a, b), l)) -/
theorem ss_dzip (i : Nat) {n : Str} {p1 p2 p3 q1 q2 pos' : Pos} {lo : Int} {nn : Nat} (hc : X.calm = true) (g1 : Gl X "dict") (m1 : X.mg "dict" = none) (g2 : Gl X "zip") (m2 : X.mg "zip" = none) (g3 : Gl X "range") (m3 : X.mg "range" = none)
    (ha : PD X mo g a (Is (.int lo))) (hb : PD X mo g b (Is (.int (lo + nn)))) (hl : PD X mo g l (Is (.list ds))) (h0 : 0 ≤ lo) (h1 : lo ≤ 1000000) (h2 : nn ≤ 1000) (hlen : ds.length = nn)
    (hr : ∀ D, D ∉ mo.zs → PSs X rest (tO X.K mo (mo.dk X.K D (rgI lo nn) ds) (g.set i (.v (.ref D))) R N))
    (n1 : starEach [.Call (.Name "zip" p2) [.Call (.Name "range" p3) [a, b] [] q2, l] [] q1] X.env = (false, eval (.Call (.Name "zip" p2) [.Call (.Name "range" p3) [a, b] [] q2, l] [] q1) X.env) :: starEach [] X.env := by rfl)
    (n2 : starEach [.Call (.Name "range" p3) [a, b] [] q2, l] X.env = (false, eval (.Call (.Name "range" p3) [a, b] [] q2) X.env) :: starEach [l] X.env := by rfl) (n3 : starEach [l] X.env = (false, eval l X.env) :: starEach [] X.env := by rfl)
    (n4 : starEach [a, b] X.env = (false, eval a X.env) :: starEach [b] X.env := by rfl) (n5 : starEach [b] X.env = (false, eval b X.env) :: starEach [] X.env := by rfl) (hp1 : (backTo q1 (starEach [l] X.env)).any (·.1) = false := by rfl) (hp2 : (backTo q2 (starEach [b] X.env)).any (·.1) = false := by rfl)
    (hN : X.N.Nodup) (hi : X.N[i]? = some n := by rfl) (hx : Loc X.env.scope n := by first | exact Or.inl rfl | exact Or.inr rfl)
    (hs : swapsWith (.Call (.Name "dict" p1) [.Call (.Name "zip" p2) [.Call (.Name "range" p3) [a, b] [] q2, l] [] q1] [] pos1) (some (.Name n pos')) pos.line X.env = pure false := by rfl) (hf : X.fn n = true ∨ X.env.scope.names.lookup n = some .local := by first | exact .inl rfl | exact .inr rfl) :
    PQ X mo g (.Assign [.Name n pos'] (.Call (.Name "dict" p1) [.Call (.Name "zip" p2) [.Call (.Name "range" p3) [a, b] [] q2, l] [] q1] [] pos1) pos :: rest) R N :=
  PSs.wk (pss_cons (ps_set hN hi hx (pe_dzip hc g1 m1 g2 m2 g3 m3 ha hb hl n1 n2 n3 n4 n5 hp1 hp2) hs hf) (PSs.ex fun D => PSs.imp (hr D))) fun E σ H ⟨o, k1, k2⟩ => ⟨o, fun u x H1 n1 s1 q1 => ⟨o.step n1, fun v y H2 n2 s2 q2 => by
    cases s1
    cases s2
    refine ⟨lo, nn, dp_int q1, dp_int q2, h0, h1, h2, o.step (n1.trans n2), fun z d H3 n3 s3 q3 => ?_⟩
    cases s3
    obtain ⟨la, xs, rfl, h3, h4⟩ := dp_lst q3
    have nt := (n1.trans n2).trans n3
    refine ⟨la, xs, rfl, sqL_mono (del_same _ _) h3, by rw [dps_len h4, hlen], fun p hp => ?_⟩
    have nx : ∀ {H'}, Kp (p :: mo.zs) (upd H3 p (.dK (zipK (rgI lo nn) xs))) H' → Alc mo.zs H' → mo.W H' → Nxt mo H H' := fun {H'} k a w => nt.trans ⟨kp_new hp nt.al k, a, w⟩
    refine ⟨p, nt.al.ne hp, ⟨?_, ⟨?_, xs, upd_same, ?_⟩, ?_⟩, fun v d H' k a w r q => k1 v d H' (nx k a w) r q, fun g' σ' H' k a w r o' => k2 g' σ' H' (nx k a w) r o'⟩
    · intro z hz
      rcases List.mem_cons.mp hz with e | hz
      · exact ⟨_, by rw [e, upd_same]⟩
      · obtain ⟨w, e⟩ := nt.al z hz
        exact ⟨w, by rw [upd_ne (ne_of_none e hp)]; exact e⟩
    · rw [del1_new hp]
      exact nt.w
    · rw [del_new hp]
      exact h4
    · show RepS X.K (del (p :: mo.zs) (upd H3 p _)) _ _
      rw [del_new hp]
      exact repS_set (x := .v (.ref p)) rfl i (o.step nt).rp⟩⟩
/-- known[key] = value, a new key -/
theorem o_dput (i : Nat) {n : Str} {k : Int} {d : PyData} {pos' : Pos} (hu : X.A.units + 1 < cLine) (he : PD X (mo.dk X.K D ks ds) g e (Is d)) (hb : PD X (mo.dk X.K D ks ds) g b (Is (.int k))) (hk : k ∉ ks) (hl : ks.length = ds.length) (hz : ds.length ≤ 1000)
    (hr : PSs X rest (tO X.K mo (mo.dk X.K D (ks ++ [k]) (ds ++ [d])) g R N)) (hg : g[i]? = some (.v (.ref D)) := by rfl) (hN : X.N[i]? = some n := by rfl) (hv : Vis X.env.scope n := by first | exact Or.inl rfl | exact Or.inr (Or.inl rfl) | exact Or.inr (Or.inr rfl))
    (hd : (n == ("__debug__" : Str)) = false := by decide) (hcd : (n == ("__classdict__" : Str)) = false := by decide) (hs : swapsWith e (some (.Subscript (.Name n pos1) b pos')) pos.line X.env = pure false := by rfl) : PSs X (.Assign [.Subscript (.Name n pos1) b pos'] e pos :: rest) (tO X.K mo (mo.dk X.K D ks ds) g R N) :=
  PSs.wk (pss_cons (ps_dput hu (pe_var hN hv hd hcd) hb he hs) hr) fun E σ H ⟨o, k1, k2⟩ => ⟨o, fun x d1 H1 n1 s1 q1 => by
    cases s1
    have o1 := o.step n1
    obtain ⟨ov, h1, h2⟩ := repS_get o1.rp hg
    have h2' : ov = some (.ref D) := h2
    subst h2'
    refine ⟨_, h1, o1, fun y d2 H2 n2 s2 q2 => ?_⟩
    cases s2
    cases dp_int q2
    have nt := n1.trans n2
    obtain ⟨w, vs, e1, e2⟩ := nt.w
    have hvl : ks.length = vs.length := by rw [dps_len e2, hl]
    have sl : (1001 : Nat) < sizeLine := by decide
    have hzl : (zipK ks vs).length = ds.length := by
      unfold zipK
      rw [List.length_zip, List.length_map, hvl, Nat.min_self, dps_len e2]
    have hnone : valV (zipK ks vs) (.inl k) = none := by
      have key : ∀ (ks : List Int) (vs : List V), k ∉ ks → valV (zipK ks vs) (.inl k) = none := by
        intro ks
        induction ks with
        | nil => exact fun _ _ => rfl
        | cons j ks ih =>
          intro vs hn
          cases vs with
          | nil => rfl
          | cons v vs =>
            show valV ((Sum.inl j, v) :: zipK ks vs) _ = none
            rw [valV_neg (fun z => hn (by rw [← Sum.inl.inj z]; exact List.mem_cons_self))]
            exact ih vs fun z => hn (List.mem_cons_of_mem _ z)
      exact key ks vs hk
    have hput : putK (zipK ks vs) (.inl k) x = zipK (ks ++ [k]) (vs ++ [x]) := by
      rw [putK_new x hnone]
      unfold zipK
      rw [List.map_append, List.zip_append (by rw [List.length_map, hvl])]
      rfl
    refine ⟨D, _, rfl, DPut.k (k := .inl k) (v := x) e1 (by rw [hzl]; omega), ?_⟩
    rw [hput]
    have e0 : del (D :: mo.zs) (upd H2 D (.dK (zipK (ks ++ [k]) (vs ++ [x])))) = del (D :: mo.zs) H2 := del_upd List.mem_cons_self
    have kk : Kp (D :: mo.zs) H (upd H2 D (.dK (zipK (ks ++ [k]) (vs ++ [x])))) := fun b u z => by rw [e0]; exact nt.kp b u z
    refine ⟨⟨fun z hz => ?_, ⟨?_, _, upd_same, ?_⟩, ?_⟩, fun v d H' k3 => k1 v d H' (kk.trans k3), fun g' σ' H' k3 => k2 g' σ' H' (kk.trans k3)⟩
    · by_cases hz2 : z = D
      · exact ⟨_, by rw [hz2, upd_same]⟩
      · obtain ⟨w, ew⟩ := nt.al z hz
        exact ⟨w, by rw [upd_ne hz2]; exact ew⟩
    · rw [del_upd List.mem_cons_self]
      exact w
    · rw [e0]
      exact dps_app e2 (.cons (n2.dp q1) .nil)
    · show RepS X.K (del (D :: mo.zs) _) g σ
      rw [e0]
      exact (o.step nt).rp⟩
/-- the rest, with the dict as it is -/
theorem o_inner (h : PQ X (mo.dk X.K D ks ds) g rest R Nof) : PSs X rest (tO X.K mo (mo.dk X.K D ks ds) g R N) := PSs.wk h fun E σ H ⟨o, k1, k2⟩ => ⟨o, fun v d H' n r q =>
  k1 v d H' n.kp (fun z hz => n.al z (List.mem_cons_of_mem _ hz)) (mo.mono _ _ (del_same _ _) n.w.1) r (dp_mono (del_cons_same _ _ _) _ _ q), fun _ _ _ _ z => z.elim⟩
end

/-! ### comprehensions with a test, each told -/
def filt (bs : List Bool) (rs : List PyData) : List PyData := (bs.zip rs).filterMap fun k => if k.1 then some k.2 else none
theorem lcs_filt {ds rs : List PyData} {bs : List Bool} {d : PyData} (h : LcS ds (fun i _ b y => bs[i]? = some b ∧ (b = true → rs[i]? = some y)) d) (hl : rs.length = ds.length) (hb : bs.length = ds.length) : d = .list (filt bs rs) := by
  obtain ⟨ks, rfl, h1, h2⟩ := h
  congr 1
  have key : ∀ (ks : List (Bool × PyData)) (bs : List Bool) (rs : List PyData), bs.length = ks.length → rs.length = ks.length → (∀ (j : Nat) (k : Bool × PyData), ks[j]? = some k → bs[j]? = some k.1 ∧ (k.1 = true → rs[j]? = some k.2)) → (ks.filterMap fun k => if k.1 then some k.2 else none) = filt bs rs := by
    intro ks
    induction ks with
    | nil =>
      intro bs rs e1 e2 _
      rw [List.length_eq_zero_iff.mp e1]
      rfl
    | cons k ks ih =>
      intro bs rs e1 e2 h
      cases bs with
      | nil => cases e1
      | cons b bs =>
        cases rs with
        | nil => cases e2
        | cons r rs =>
          obtain ⟨h3, h4⟩ := h 0 k rfl
          have h3' : b = k.1 := Option.some.inj h3
          have h5 := ih bs rs (Nat.succ.inj e1) (Nat.succ.inj e2) fun j q hq => h (j + 1) q hq
          subst h3'
          show _ = List.filterMap _ ((k.1, r) :: bs.zip rs)
          rw [List.filterMap_cons, List.filterMap_cons]
          cases hk : k.1 with
          | true =>
            have h6 : r = k.2 := Option.some.inj (h4 hk)
            simp only [if_true]
            rw [h5, h6]
            rfl
          | false =>
            simp only [Bool.false_eq_true, if_false]
            exact h5
  refine key ks bs rs (by omega) (by omega) fun j k hk => ?_
  have hj : j < ds.length := by
    have := (List.getElem?_eq_some_iff.mp hk).1
    omega
  exact h2 j _ k (List.getElem?_eq_getElem hj) hk
section
variable {X : Cx} {m : Md} {g : List Sl} {pos pos' : Pos} {tg iter elt c : Expr} {scope : Scope} {own : List (Str × Nat)}
theorem plc_TF {ds rs : List PyData} {bs : List Bool} (t : TgK) (hc : X.calm = true) (hN : X.N.Nodup) (hi : PD X m g iter (Is (.tuple ds))) (ok : BlkOk X.N X.env.scope scope own) (hto : t.own (own.map (·.2))) (hk : ∀ d ∈ ds, t.ok d) (hl : ds.length ≤ 1000) (hrl : rs.length = ds.length) (hbl : bs.length = ds.length)
    (hg : ∀ (s : Shared) (H : Hp) (C : Addr) (cl : List (Str × Addr)) (fp : List Addr), PG (X.blk s H scope (compEnvC scope cl C X.env) fp) tg (t.g X.K))
    (ht : ∀ (s : Shared) (H : Hp) (C : Addr) (cl : List (Str × Addr)) (fp : List Addr) (i : Nat) (x y : PyData) (b : Bool) (D : Addr) (acc : List V), ds[i]? = some x → bs[i]? = some b → rs[i]? = some y → PB (X.blk s H scope (compEnvC scope cl C X.env) fp) (m.lst D acc) (t.set (wipeG g (own.map (·.2))) x) c (Is b))
    (he : ∀ (s : Shared) (H : Hp) (C : Addr) (cl : List (Str × Addr)) (fp : List Addr) (i : Nat) (x y : PyData) (D : Addr) (acc : List V), ds[i]? = some x → rs[i]? = some y → PD (X.blk s H scope (compEnvC scope cl C X.env) fp) (m.lst D acc) (t.set (wipeG g (own.map (·.2))) x) elt (Is y))
    (hs : ∀ x, foldedSetIterable iter X.env x = pure x := by intro _; rfl) : PLc X m g elt tg iter [c] scope pos (Is (.list (filt bs rs))) := by
  have hy : ∀ i x, ds[i]? = some x → ∃ y, rs[i]? = some y := fun i x hx => ⟨rs[i]'(by have := (List.getElem?_eq_some_iff.mp hx).1; omega), List.getElem?_eq_getElem _⟩
  have hb : ∀ i x, ds[i]? = some x → ∃ y, bs[i]? = some y := fun i x hx => ⟨bs[i]'(by have := (List.getElem?_eq_some_iff.mp hx).1; omega), List.getElem?_eq_getElem _⟩
  refine PLc.le (plc_G (ds := ds) (Sy := fun i _ b y => bs[i]? = some b ∧ (b = true → rs[i]? = some y)) t hc hN (pi_tup hi) ok hto hk hl hg (fun s H C cl fp i x D acc hx => pts_pb (by
      obtain ⟨b, eb⟩ := hb i x hx
      obtain ⟨y, ey⟩ := hy i x hx
      exact pb_le (ht s H C cl fp i x y b D acc hx eb ey) fun b' z => by cases z; exact ⟨y, eb, fun _ => ey⟩)) (fun s H C cl fp i x D acc hx ⟨y, h1, h2⟩ => pd_le (he s H C cl fp i x y D acc hx (h2 rfl)) fun d z => by cases z; exact ⟨h1, h2⟩)
    (fun σ H Q tt te => lcw_tup hto hk hl σ H Q tt te) hs) fun d h => lcs_filt h hrl hbl
end
end Cv

set_option Elab.async false
set_option linter.all false
set_option maxRecDepth 100000
set_option maxHeartbeats 4000000
namespace Cv
open PySem PySem.Spec PyProof.Rows L2


def barD (i j : Int) (l : Rat) : PyData := .tuple [.int i, .int j, num l]
def beadD (j a b : Int) : PyData := .tuple [.int j, .int a, .int b, .tuple [.int 1, .int 2]]
def barsD (f v : Int) (T : Rat) : List PyData := [barD (v) (f + 8) (T * (15/8)), barD (f) (f + 1) (T * (3/2)), barD (f) (f + 3) (T * (5/2)), barD (f + 1) (f + 2) (T * (5/2)), barD (f + 2) (f + 3) (T * (3/2)), barD (f + 4) (f + 8) (T * (17/8)), barD (f + 5) (f + 8) (T * (17/8)), barD (f + 6) (f + 7) (T * (1/2)), barD (f + 6) (f + 8) (T * (15/8))]
def beadsD (f v : Int) : List PyData := [beadD (v) (f + 1) (f + 2), beadD (f + 4) (f) (f + 1), beadD (f + 5) (f + 2) (f + 3), beadD (f + 6) (f) (f + 3)]
def partsD (f v : Int) (h T : Rat) : PyData := .tuple [.tuple [.tuple [.int (f + 4), pt (h - T) 0], .tuple [.int (f + 7), pt (h - T * (1/2)) 0]], .tuple (barsD f v T), .tuple (beadsD f v)]
def neB (o : Option Rat) (x : Rat) : Bool := !PyData.eqv (oD o) (num x)
theorem neB_eq (o : Option Rat) (x : Rat) : neB o x = decide (o ≠ some x) := by
  cases o with
  | none =>
    have : PyData.eqv .none (num x) = false := by
      rcases num_cases x with ⟨e, _⟩ | ⟨e, _⟩ <;> rw [e] <;> simp [PyData.eqv]
    simp [neB, oD, this]
  | some y => simp [neB, oD, num_eqv]
theorem oD_shaped (o : Option Rat) : SeqAt.shaped (oD o) = true := by
  cases o with
  | none => exact shp_none
  | some y => exact num_shaped y
def barB (P0 P1 P2 P3 P4 P5 P6 P7 P8 E : Pl) (T : Rat) : List Bool := [neB (farO E P8) (T * (15/8) * (T * (15/8))), neB (farO P0 P1) (T * (3/2) * (T * (3/2))), neB (farO P0 P3) (T * (5/2) * (T * (5/2))), neB (farO P1 P2) (T * (5/2) * (T * (5/2))), neB (farO P2 P3) (T * (3/2) * (T * (3/2))), neB (farO P4 P8) (T * (17/8) * (T * (17/8))), neB (farO P5 P8) (T * (17/8) * (T * (17/8))), neB (farO P6 P7) (T * (1/2) * (T * (1/2))), neB (farO P6 P8) (T * (15/8) * (T * (15/8)))]
def beadB (P0 P1 P2 P3 P4 P5 P6 P7 P8 E : Pl) : List Bool := [!midB E P1 P2, !midB P4 P0 P1, !midB P5 P2 P3, !midB P6 P0 P3]
def endsD (f v : Int) : List PyData := [.tuple [.int (v), .int (f + 8)], .tuple [.int (f), .int (f + 1)], .tuple [.int (f), .int (f + 3)], .tuple [.int (f + 1), .int (f + 2)], .tuple [.int (f + 2), .int (f + 3)], .tuple [.int (f + 4), .int (f + 8)], .tuple [.int (f + 5), .int (f + 8)], .tuple [.int (f + 6), .int (f + 7)], .tuple [.int (f + 6), .int (f + 8)]]
def jointsD (f v : Int) : List PyData := [.int (v), .int (f + 4), .int (f + 5), .int (f + 6)]
def R__law_torn : List PyData → PyData → Prop := fun ds d => ∃ (f v : Int) (P0 P1 P2 P3 P4 P5 P6 P7 P8 : Pl) (ex ey h T : Rat), ds = [.int f, .int v, .list ([P0, P1, P2, P3, P4, P5, P6, P7, P8].map Pl.d), pt ex ey, partsD f v h T] ∧ 0 ≤ v ∧ v < f ∧ f ≤ 4000 ∧
  PB' P0 690 142 904 ∧ PB' P1 690 142 904 ∧ PB' P2 690 142 904 ∧ PB' P3 690 142 904 ∧ PB' P4 690 142 904 ∧ PB' P5 690 142 904 ∧ PB' P6 690 142 904 ∧ PB' P7 690 142 904 ∧ PB' P8 690 142 904 ∧ Bd ex 690 ∧ Bd ey 690 ∧ Bd T 22 ∧ d = .list (filt (barB P0 P1 P2 P3 P4 P5 P6 P7 P8 ⟨ex, ey, 0, 0, 0⟩ T) (endsD f v) ++ filt (beadB P0 P1 P2 P3 P4 P5 P6 P7 P8 ⟨ex, ey, 0, 0, 0⟩) (jointsD f v))
theorem look_at : ∀ (ks : List Int) (ds : List PyData) (k : Int) (j : Nat), ks[j]? = some k → (∀ i, i < j → ks[i]? ≠ some k) → (ks.zip ds).lookup k = ds[j]?
  | [], _, _, _, h, _ => by simp at h
  | a :: ks, [], k, j, h, hn => by simp
  | a :: ks, d :: ds, k, 0, h, hn => by
    have e : a = k := Option.some.inj h
    subst e
    simp [List.zip_cons_cons]
  | a :: ks, d :: ds, k, j + 1, h, hn => by
    have hne : (k == a) = false := beq_eq_false_iff_ne.mpr fun e => hn 0 (Nat.succ_pos _) (by rw [e]; rfl)
    rw [List.zip_cons_cons, List.lookup_cons, hne]
    exact look_at ks ds k j h fun i hi => hn (i + 1) (Nat.succ_lt_succ hi)
theorem look_rg {f v : Int} {ds : List PyData} (j : Nat) (hj : j < 9) : ((rgI f 9 ++ [v]).zip ds).lookup (f + (j : Nat)) = ds[j]? := by
  have get : ∀ i, i < 9 → (rgI f 9 ++ [v])[i]? = some (f + (i : Nat)) := fun i hi => by
    rw [List.getElem?_append_left (by unfold rgI; rw [List.length_map, List.length_range]; exact hi)]
    unfold rgI
    rw [List.getElem?_map, List.getElem?_range hi]
    rfl
  refine look_at _ _ _ j (get j hj) fun i hi e => ?_
  rw [get i (by omega)] at e
  have := Option.some.inj e
  omega
theorem look_v {f v : Int} {ds : List PyData} (hv : v < f) : ((rgI f 9 ++ [v]).zip ds).lookup v = ds[9]? := by
  have hl : (rgI f 9).length = 9 := by unfold rgI; rw [List.length_map, List.length_range]
  refine look_at _ _ _ 9 ?_ fun i hi e => ?_
  · rw [List.getElem?_append_right (by omega), hl]
    rfl
  · rw [List.getElem?_append_left (by omega)] at e
    unfold rgI at e
    rw [List.getElem?_map, List.getElem?_range hi] at e
    have e2 : f + (i : Int) = v := Option.some.inj e
    omega
theorem notin_rg {f v : Int} {n : Nat} (hv : v < f) : v ∉ rgI f n := fun hm => by
  unfold rgI at hm
  obtain ⟨j, _, e⟩ := List.mem_map.mp hm
  omega
theorem filt_len (bs cs : List Bool) (rs ss : List PyData) (h : rs.length + ss.length ≤ 1000) : (filt bs rs).length + (filt cs ss).length ≤ 1000 := by
  have key : ∀ (bs : List Bool) (rs : List PyData), (filt bs rs).length ≤ rs.length := fun bs rs => by
    unfold filt
    refine Nat.le_trans (List.length_filterMap_le _ _) ?_
    rw [List.length_zip]
    exact Nat.min_le_right _ _
  have h1 := key bs rs
  have h2 := key cs ss
  omega
theorem eqv_half : PyData.eqv (.tuple [.int 1, .int 2]) (.tuple [.int 1, .int 2]) = true := by simp [PyData.eqv, PyData.eqvAll]
theorem bd_pt0 {x y : Rat} {n : Nat} (b1 : Bd x n) (b2 : Bd y n) (hn : 1 ≤ n) : PB' ⟨x, y, 0, 0, 0⟩ n 142 904 := ⟨b1, b2, bdLe bd0 (by decide), bdLe bd0 (by decide), bdLe bd0 (by decide), Rat.le_refl⟩

local macro_rules | `(tactic| walk_at "nb") => `(tactic| (first | exact Bd.up | exact nd_bd Bd.dn | assumption | (apply mul_bd <;> walk_at "nb") | (apply add_bd <;> walk_at "nb")))
local macro_rules | `(tactic| walk_at "cm") => `(tactic| (apply mulx_ok; (walk_at "nb"); (walk_at "nb"); omega))
local macro_rules | `(tactic| walk_at "sh") => `(tactic| (first | exact num_shaped _ | exact shp_int _ | exact shp_int2 _ _ | exact shp_none))
local macro_rules | `(tactic| walk_at "sh") => `(tactic| (first | exact num_shaped _ | exact pt_shaped _ _ | exact pl_shaped _ | exact oD_shaped _ | exact shp_int _ | exact shp_int2 _ _ | exact shp_none))
section
variable {P : Program} {w : World} {K : PySem.W.Frag} {mg : Str → Option Value} {base : Heap}

theorem unit1 {k : Nat} {A : Around} (r : Room k A) : A.units + 1 < cLine := by have := r.un; omega
theorem sc__law_torn : FnScope ["_law_first", "_law_v", "_law_places", "_law_end", "_law_parts_here", "_law_known", "_law_found", "_law_one_here", "_law_other", "_law_length", "_law_joint", "_law_share"] ["_law_first", "_law_v", "_law_places", "_law_end", "_law_parts_here"] (defScope (top 78)) := ⟨rfl, rfl, rfl, by decide +kernel, rfl, by decide +kernel, by decide +kernel⟩
theorem c__law_torn (T : Txt K mg) : C8.Cal P w K mg base 6 "_law_torn" (spP K R__law_torn) [] := by
  refine okP T.t__law_torn sc__law_torn (fun _ _ _ _ _ _ us hl => match us, hl with | [_, _, _, _, _], _ => rfl) (fun ds d h => ?_) (fun f cdv A outer s H E m ds d hr h => ?_)
  · obtain ⟨f', v', P0, P1, P2, P3, P4, P5, P6, P7, P8, ex, ey, h', T', rfl, hv0, hv1, hf, q0, q1, q2, q3, q4, q5, q6, q7, q8, bx, by', bT, rfl⟩ := h
    rfl
  obtain ⟨f', v', P0, P1, P2, P3, P4, P5, P6, P7, P8, ex, ey, h', T', rfl, hv0, hv1, hf, q0, q1, q2, q3, q4, q5, q6, q7, q8, bx, by', bT, rfl⟩ := h
  have qE : PB' ⟨ex, ey, 0, 0, 0⟩ 690 142 904 := bd_pt0 bx by' (by decide)
  refine ss_dzip 5 (lo := f') (nn := 9) rfl rfl T.f_dict rfl T.f_zip rfl T.f_range (pd_var 0) (pd_add (pd_var 0) pd_int) (pd_var 2) (by omega) (by omega) (by decide) rfl (fun D hD => ?_) (hN := sc__law_torn.nd)
  refine o_dput 5 (unit1 hr) (d := Pl.d ⟨ex, ey, 0, 0, 0⟩) (pd_le (pd_tup (pl_cons (pd_var 3) (pl_cons (pd_tup (pl_cons pd_int (pl_cons pd_int pl_nil))) (pl_cons pd_int pl_nil)))) (fun _ z => z.trans (by unfold Pl.d; simp only [pt, num0]))) (pd_var 1) (notin_rg hv1) rfl (Nat.le_of_ble_eq_true rfl) ?_
  refine o_inner ?_
  have kv : ((rgI f' 9 ++ [v']).zip ([P0, P1, P2, P3, P4, P5, P6, P7, P8].map Pl.d ++ [Pl.d ⟨ex, ey, 0, 0, 0⟩])).lookup v' = some (Pl.d ⟨ex, ey, 0, 0, 0⟩) := look_v hv1
  have k0 : ((rgI f' 9 ++ [v']).zip ([P0, P1, P2, P3, P4, P5, P6, P7, P8].map Pl.d ++ [Pl.d ⟨ex, ey, 0, 0, 0⟩])).lookup f' = some P0.d := by
    have := look_rg (f := f') (v := v') (ds := ([P0, P1, P2, P3, P4, P5, P6, P7, P8].map Pl.d ++ [Pl.d ⟨ex, ey, 0, 0, 0⟩])) 0 (by decide)
    rw [show f' + ((0 : Nat) : Int) = f' by omega] at this
    exact this
  have k1 : ((rgI f' 9 ++ [v']).zip ([P0, P1, P2, P3, P4, P5, P6, P7, P8].map Pl.d ++ [Pl.d ⟨ex, ey, 0, 0, 0⟩])).lookup (f' + 1) = some P1.d := look_rg 1 (by decide)
  have k2 : ((rgI f' 9 ++ [v']).zip ([P0, P1, P2, P3, P4, P5, P6, P7, P8].map Pl.d ++ [Pl.d ⟨ex, ey, 0, 0, 0⟩])).lookup (f' + 2) = some P2.d := look_rg 2 (by decide)
  have k3 : ((rgI f' 9 ++ [v']).zip ([P0, P1, P2, P3, P4, P5, P6, P7, P8].map Pl.d ++ [Pl.d ⟨ex, ey, 0, 0, 0⟩])).lookup (f' + 3) = some P3.d := look_rg 3 (by decide)
  have k4 : ((rgI f' 9 ++ [v']).zip ([P0, P1, P2, P3, P4, P5, P6, P7, P8].map Pl.d ++ [Pl.d ⟨ex, ey, 0, 0, 0⟩])).lookup (f' + 4) = some P4.d := look_rg 4 (by decide)
  have k5 : ((rgI f' 9 ++ [v']).zip ([P0, P1, P2, P3, P4, P5, P6, P7, P8].map Pl.d ++ [Pl.d ⟨ex, ey, 0, 0, 0⟩])).lookup (f' + 5) = some P5.d := look_rg 5 (by decide)
  have k6 : ((rgI f' 9 ++ [v']).zip ([P0, P1, P2, P3, P4, P5, P6, P7, P8].map Pl.d ++ [Pl.d ⟨ex, ey, 0, 0, 0⟩])).lookup (f' + 6) = some P6.d := look_rg 6 (by decide)
  have k7 : ((rgI f' 9 ++ [v']).zip ([P0, P1, P2, P3, P4, P5, P6, P7, P8].map Pl.d ++ [Pl.d ⟨ex, ey, 0, 0, 0⟩])).lookup (f' + 7) = some P7.d := look_rg 7 (by decide)
  have k8 : ((rgI f' 9 ++ [v']).zip ([P0, P1, P2, P3, P4, P5, P6, P7, P8].map Pl.d ++ [Pl.d ⟨ex, ey, 0, 0, 0⟩])).lookup (f' + 8) = some P8.d := look_rg 8 (by decide)
  refine ss_setLc 6 (plc_TF (own := [("_law_one_here", 7), ("_law_other", 8), ("_law_length", 9)]) (ds := barsD f' v' T') (rs := endsD f' v') (bs := barB P0 P1 P2 P3 P4 P5 P6 P7 P8 ⟨ex, ey, 0, 0, 0⟩ T') (.tup [7, 8, 9]) rfl sc__law_torn.nd (pd_ixT (pd_var 4) pd_int) (blkOk_by (N := ["_law_first", "_law_v", "_law_places", "_law_end", "_law_parts_here", "_law_known", "_law_found", "_law_one_here", "_law_other", "_law_length", "_law_joint", "_law_share"]) (sc := defScope (top 78)) (by decide +kernel)) (show ∀ i ∈ [7, 8, 9], i ∈ [7, 8, 9] from fun _ z => z) (tgk_all rfl) (Nat.le_of_ble_eq_true rfl) rfl rfl (fun _ _ _ _ _ => (pg_tup rfl (pgs_cons (pg_name sc__law_torn.nd rfl (Or.inl rfl)) (pgs_cons (pg_name sc__law_torn.nd rfl (Or.inl rfl)) (pgs_cons (pg_name sc__law_torn.nd rfl (Or.inl rfl)) pgs_nil))))) (fun s H C cl fp i x' y' b' D2 acc hx hb hy => ?_) (fun s H C cl fp i x' y' D2 acc hx hy => ?_)) ?_
  · match i, hx, hb with
    | 0, hx, hb => cases hx; cases hb; exact (pb_ne hr.units (pd_call (c__law_far T) hr (by decide) rfl (pl_cons (pd_dget 5 (unit1 hr) (dh_lst dh_dk) (pd_var 7) (by assumption)) (pl_cons (pd_dget 5 (unit1 hr) (dh_lst dh_dk) (pd_var 8) (by assumption)) pl_nil)) (by exact (rel__law_far (by assumption) (by assumption)))) (pd_call (c__law_by T) hr (by decide) rfl (pl_cons (pd_var 9) (pl_cons (pd_var 9) pl_nil)) (by exact rel__law_by)) (by walk_at "sh") (by walk_at "sh"))
    | 1, hx, hb => cases hx; cases hb; exact (pb_ne hr.units (pd_call (c__law_far T) hr (by decide) rfl (pl_cons (pd_dget 5 (unit1 hr) (dh_lst dh_dk) (pd_var 7) (by assumption)) (pl_cons (pd_dget 5 (unit1 hr) (dh_lst dh_dk) (pd_var 8) (by assumption)) pl_nil)) (by exact (rel__law_far (by assumption) (by assumption)))) (pd_call (c__law_by T) hr (by decide) rfl (pl_cons (pd_var 9) (pl_cons (pd_var 9) pl_nil)) (by exact rel__law_by)) (by walk_at "sh") (by walk_at "sh"))
    | 2, hx, hb => cases hx; cases hb; exact (pb_ne hr.units (pd_call (c__law_far T) hr (by decide) rfl (pl_cons (pd_dget 5 (unit1 hr) (dh_lst dh_dk) (pd_var 7) (by assumption)) (pl_cons (pd_dget 5 (unit1 hr) (dh_lst dh_dk) (pd_var 8) (by assumption)) pl_nil)) (by exact (rel__law_far (by assumption) (by assumption)))) (pd_call (c__law_by T) hr (by decide) rfl (pl_cons (pd_var 9) (pl_cons (pd_var 9) pl_nil)) (by exact rel__law_by)) (by walk_at "sh") (by walk_at "sh"))
    | 3, hx, hb => cases hx; cases hb; exact (pb_ne hr.units (pd_call (c__law_far T) hr (by decide) rfl (pl_cons (pd_dget 5 (unit1 hr) (dh_lst dh_dk) (pd_var 7) (by assumption)) (pl_cons (pd_dget 5 (unit1 hr) (dh_lst dh_dk) (pd_var 8) (by assumption)) pl_nil)) (by exact (rel__law_far (by assumption) (by assumption)))) (pd_call (c__law_by T) hr (by decide) rfl (pl_cons (pd_var 9) (pl_cons (pd_var 9) pl_nil)) (by exact rel__law_by)) (by walk_at "sh") (by walk_at "sh"))
    | 4, hx, hb => cases hx; cases hb; exact (pb_ne hr.units (pd_call (c__law_far T) hr (by decide) rfl (pl_cons (pd_dget 5 (unit1 hr) (dh_lst dh_dk) (pd_var 7) (by assumption)) (pl_cons (pd_dget 5 (unit1 hr) (dh_lst dh_dk) (pd_var 8) (by assumption)) pl_nil)) (by exact (rel__law_far (by assumption) (by assumption)))) (pd_call (c__law_by T) hr (by decide) rfl (pl_cons (pd_var 9) (pl_cons (pd_var 9) pl_nil)) (by exact rel__law_by)) (by walk_at "sh") (by walk_at "sh"))
    | 5, hx, hb => cases hx; cases hb; exact (pb_ne hr.units (pd_call (c__law_far T) hr (by decide) rfl (pl_cons (pd_dget 5 (unit1 hr) (dh_lst dh_dk) (pd_var 7) (by assumption)) (pl_cons (pd_dget 5 (unit1 hr) (dh_lst dh_dk) (pd_var 8) (by assumption)) pl_nil)) (by exact (rel__law_far (by assumption) (by assumption)))) (pd_call (c__law_by T) hr (by decide) rfl (pl_cons (pd_var 9) (pl_cons (pd_var 9) pl_nil)) (by exact rel__law_by)) (by walk_at "sh") (by walk_at "sh"))
    | 6, hx, hb => cases hx; cases hb; exact (pb_ne hr.units (pd_call (c__law_far T) hr (by decide) rfl (pl_cons (pd_dget 5 (unit1 hr) (dh_lst dh_dk) (pd_var 7) (by assumption)) (pl_cons (pd_dget 5 (unit1 hr) (dh_lst dh_dk) (pd_var 8) (by assumption)) pl_nil)) (by exact (rel__law_far (by assumption) (by assumption)))) (pd_call (c__law_by T) hr (by decide) rfl (pl_cons (pd_var 9) (pl_cons (pd_var 9) pl_nil)) (by exact rel__law_by)) (by walk_at "sh") (by walk_at "sh"))
    | 7, hx, hb => cases hx; cases hb; exact (pb_ne hr.units (pd_call (c__law_far T) hr (by decide) rfl (pl_cons (pd_dget 5 (unit1 hr) (dh_lst dh_dk) (pd_var 7) (by assumption)) (pl_cons (pd_dget 5 (unit1 hr) (dh_lst dh_dk) (pd_var 8) (by assumption)) pl_nil)) (by exact (rel__law_far (by assumption) (by assumption)))) (pd_call (c__law_by T) hr (by decide) rfl (pl_cons (pd_var 9) (pl_cons (pd_var 9) pl_nil)) (by exact rel__law_by)) (by walk_at "sh") (by walk_at "sh"))
    | 8, hx, hb => cases hx; cases hb; exact (pb_ne hr.units (pd_call (c__law_far T) hr (by decide) rfl (pl_cons (pd_dget 5 (unit1 hr) (dh_lst dh_dk) (pd_var 7) (by assumption)) (pl_cons (pd_dget 5 (unit1 hr) (dh_lst dh_dk) (pd_var 8) (by assumption)) pl_nil)) (by exact (rel__law_far (by assumption) (by assumption)))) (pd_call (c__law_by T) hr (by decide) rfl (pl_cons (pd_var 9) (pl_cons (pd_var 9) pl_nil)) (by exact rel__law_by)) (by walk_at "sh") (by walk_at "sh"))
    | _ + 9, hx, hb => cases hx
  · match i, hx, hy with
    | 0, hx, hy => cases hx; cases hy; exact (pd_tup (pl_cons (pd_var 7) (pl_cons (pd_var 8) pl_nil)))
    | 1, hx, hy => cases hx; cases hy; exact (pd_tup (pl_cons (pd_var 7) (pl_cons (pd_var 8) pl_nil)))
    | 2, hx, hy => cases hx; cases hy; exact (pd_tup (pl_cons (pd_var 7) (pl_cons (pd_var 8) pl_nil)))
    | 3, hx, hy => cases hx; cases hy; exact (pd_tup (pl_cons (pd_var 7) (pl_cons (pd_var 8) pl_nil)))
    | 4, hx, hy => cases hx; cases hy; exact (pd_tup (pl_cons (pd_var 7) (pl_cons (pd_var 8) pl_nil)))
    | 5, hx, hy => cases hx; cases hy; exact (pd_tup (pl_cons (pd_var 7) (pl_cons (pd_var 8) pl_nil)))
    | 6, hx, hy => cases hx; cases hy; exact (pd_tup (pl_cons (pd_var 7) (pl_cons (pd_var 8) pl_nil)))
    | 7, hx, hy => cases hx; cases hy; exact (pd_tup (pl_cons (pd_var 7) (pl_cons (pd_var 8) pl_nil)))
    | 8, hx, hy => cases hx; cases hy; exact (pd_tup (pl_cons (pd_var 7) (pl_cons (pd_var 8) pl_nil)))
    | _ + 9, hx, hy => cases hx
  refine ss_ret (pd_cat (pd_var 6) (PLc.pd <| plc_TF (own := [("_law_joint", 10), ("_law_one_here", 7), ("_law_other", 8), ("_law_share", 11)]) (ds := beadsD f' v') (rs := jointsD f' v') (bs := beadB P0 P1 P2 P3 P4 P5 P6 P7 P8 ⟨ex, ey, 0, 0, 0⟩) (.tup [10, 7, 8, 11]) rfl sc__law_torn.nd (pd_ixT (pd_var 4) pd_int) (blkOk_by (N := ["_law_first", "_law_v", "_law_places", "_law_end", "_law_parts_here", "_law_known", "_law_found", "_law_one_here", "_law_other", "_law_length", "_law_joint", "_law_share"]) (sc := defScope (top 78)) (by decide +kernel)) (show ∀ i ∈ [10, 7, 8, 11], i ∈ [10, 7, 8, 11] from fun _ z => z) (tgk_all rfl) (Nat.le_of_ble_eq_true rfl) rfl rfl (fun _ _ _ _ _ => (pg_tup rfl (pgs_cons (pg_name sc__law_torn.nd rfl (Or.inl rfl)) (pgs_cons (pg_name sc__law_torn.nd rfl (Or.inl rfl)) (pgs_cons (pg_name sc__law_torn.nd rfl (Or.inl rfl)) (pgs_cons (pg_name sc__law_torn.nd rfl (Or.inl rfl)) pgs_nil)))))) (fun s H C cl fp i x' y' b' D2 acc hx hb hy => ?_) (fun s H C cl fp i x' y' D2 acc hx hy => ?_)) (filt_len _ _ _ _ (Nat.le_of_ble_eq_true rfl))) (fun _ z => z)
  · match i, hx, hb with
    | 0, hx, hb => cases hx; cases hb; exact pb_le (pb_w (pbw_or (pb_ne hr.units (pd_var 11) (pd_tup (pl_cons pd_int (pl_cons pd_int pl_nil))) (by walk_at "sh") (by walk_at "sh")) (fun _ => (pbw_or1 (pb_not (pb_val (pd_call (c__law_in_midst T) hr (by decide) rfl (pl_cons (pd_dget 5 (unit1 hr) (dh_lst dh_dk) (pd_var 10) (by assumption)) (pl_cons (pd_dget 5 (unit1 hr) (dh_lst dh_dk) (pd_var 7) (by assumption)) (pl_cons (pd_dget 5 (unit1 hr) (dh_lst dh_dk) (pd_var 8) (by assumption)) pl_nil))) (by exact (rel__law_in_midst (by assumption) (by assumption)))))))))) (fun b e => e.trans (by rw [eqv_half]; rfl))
    | 1, hx, hb => cases hx; cases hb; exact pb_le (pb_w (pbw_or (pb_ne hr.units (pd_var 11) (pd_tup (pl_cons pd_int (pl_cons pd_int pl_nil))) (by walk_at "sh") (by walk_at "sh")) (fun _ => (pbw_or1 (pb_not (pb_val (pd_call (c__law_in_midst T) hr (by decide) rfl (pl_cons (pd_dget 5 (unit1 hr) (dh_lst dh_dk) (pd_var 10) (by assumption)) (pl_cons (pd_dget 5 (unit1 hr) (dh_lst dh_dk) (pd_var 7) (by assumption)) (pl_cons (pd_dget 5 (unit1 hr) (dh_lst dh_dk) (pd_var 8) (by assumption)) pl_nil))) (by exact (rel__law_in_midst (by assumption) (by assumption)))))))))) (fun b e => e.trans (by rw [eqv_half]; rfl))
    | 2, hx, hb => cases hx; cases hb; exact pb_le (pb_w (pbw_or (pb_ne hr.units (pd_var 11) (pd_tup (pl_cons pd_int (pl_cons pd_int pl_nil))) (by walk_at "sh") (by walk_at "sh")) (fun _ => (pbw_or1 (pb_not (pb_val (pd_call (c__law_in_midst T) hr (by decide) rfl (pl_cons (pd_dget 5 (unit1 hr) (dh_lst dh_dk) (pd_var 10) (by assumption)) (pl_cons (pd_dget 5 (unit1 hr) (dh_lst dh_dk) (pd_var 7) (by assumption)) (pl_cons (pd_dget 5 (unit1 hr) (dh_lst dh_dk) (pd_var 8) (by assumption)) pl_nil))) (by exact (rel__law_in_midst (by assumption) (by assumption)))))))))) (fun b e => e.trans (by rw [eqv_half]; rfl))
    | 3, hx, hb => cases hx; cases hb; exact pb_le (pb_w (pbw_or (pb_ne hr.units (pd_var 11) (pd_tup (pl_cons pd_int (pl_cons pd_int pl_nil))) (by walk_at "sh") (by walk_at "sh")) (fun _ => (pbw_or1 (pb_not (pb_val (pd_call (c__law_in_midst T) hr (by decide) rfl (pl_cons (pd_dget 5 (unit1 hr) (dh_lst dh_dk) (pd_var 10) (by assumption)) (pl_cons (pd_dget 5 (unit1 hr) (dh_lst dh_dk) (pd_var 7) (by assumption)) (pl_cons (pd_dget 5 (unit1 hr) (dh_lst dh_dk) (pd_var 8) (by assumption)) pl_nil))) (by exact (rel__law_in_midst (by assumption) (by assumption)))))))))) (fun b e => e.trans (by rw [eqv_half]; rfl))
    | _ + 4, hx, hb => cases hx
  · match i, hx, hy with
    | 0, hx, hy => cases hx; cases hy; exact (pd_var 10)
    | 1, hx, hy => cases hx; cases hy; exact (pd_var 10)
    | 2, hx, hy => cases hx; cases hy; exact (pd_var 10)
    | 3, hx, hy => cases hx; cases hy; exact (pd_var 10)
    | _ + 4, hx, hy => cases hx
end
end Cv

set_option Elab.async false
set_option linter.all false
set_option maxRecDepth 100000
set_option maxHeartbeats 2000000
/-! sorted(a list of triples of two ints and a number), the pairs all different. -/
namespace Cv
open PySem PySem.Spec PyProof.Rows L2
abbrev Tri := Int × Int × Rat
def Tri.k (p : Tri) : Int × Int := (p.1, p.2.1)
def triD (p : Tri) : PyData := barD p.1 p.2.1 p.2.2
section
variable {prog : Program} {w : World} {A : Around} {E : Value → Shared → Prop} {s : Shared}
/-- the third: an int, a pair of ints -/
def Num3 (prog : Program) (w : World) (h : Heap) (x : Value) : Prop := (∃ n t, x = .int n t) ∨ ∃ b ks, x = .ref b ∧ IsTupleKey (L2.mixKind prog w) h ks b
def IsTri (prog : Program) (w : World) (h : Heap) (v : Value) (i j : Int) : Prop := ∃ a o t u x n, v = .ref a ∧ h.get? a = some o ∧ o.cls = .type "tuple" ∧ o.data = .seq #[.int i t, .int j u, x] n ∧ Num3 prog w h x
theorem IsTri.keeps {h h' : Heap} {v : Value} {i j : Int} (x : IsTri prog w h v i j) (k : ∀ b o, h.get? b = some o → o.cls = .type "tuple" → h'.get? b = some o) : IsTri prog w h' v i j := by
  obtain ⟨a, o, t, u, x, n, e, ho, hc, hd, h3⟩ := x
  refine ⟨a, o, t, u, x, n, e, k _ _ ho hc, hc, hd, ?_⟩
  rcases h3 with h3 | ⟨b, ks, e, ⟨o2, it, m, h1, h2, h4⟩⟩
  · exact .inl h3
  · exact .inr ⟨b, ks, e, o2, it, m, k _ _ h1 h2, h2, h4⟩
theorem IsTri.inj {h : Heap} {v : Value} {i j i' j' : Int} (x : IsTri prog w h v i j) (y : IsTri prog w h v i' j') : i = i' ∧ j = j' := by
  obtain ⟨a, o, t, u, x, n, e, ho, hc, hd, h3⟩ := x
  obtain ⟨a', o', t', u', x', n', e', ho', hc', hd', h3'⟩ := y
  rw [e] at e'
  cases e'
  rw [ho] at ho'
  cases ho'
  rw [hd] at hd'
  simp only [Data.seq.injEq, Array.mk.injEq, List.cons.injEq, Value.int.injEq] at hd'
  exact ⟨hd'.1.1.1, hd'.1.2.1.1⟩
theorem tri_firsts {h : Heap} {k : Value → Int × Int} : ∀ vs : List Value, (∀ v ∈ vs, IsTri prog w h v (k v).1 (k v).2) → ∃ fs : List Value, PySem.W.KatTups h vs fs ∧ fs.length = vs.length ∧ ∀ f ∈ fs, ∃ x t, f = Value.int x t
  | [], _ => ⟨[], PySem.W.KatTups.nil, rfl, fun _ hm => by simp at hm⟩
  | v :: vs, hp => by
    obtain ⟨fs, h1, h2, h3⟩ := tri_firsts vs fun v' hm => hp v' (List.mem_cons_of_mem _ hm)
    obtain ⟨a, o, t, u, x, n, e, ho, hc, hd, _⟩ := hp v (List.mem_cons_self ..)
    subst e
    refine ⟨.int _ t :: fs, PySem.W.KatTups.cons ho hc hd rfl h1, by rw [List.length_cons, List.length_cons, h2], fun f hm => ?_⟩
    rcases List.mem_cons.mp hm with rfl | hm
    · exact ⟨_, t, rfl⟩
    · exact h3 f hm
theorem tri_cmp {vs : List Value} {k : Value → Int × Int} (hu : A.units < cLine) (hp : ∀ v ∈ vs, IsTri prog w s.heap v (k v).1 (k v).2) (hi : ∀ v ∈ vs, ∀ u ∈ vs, k v = k u → v = u) : SrtO.Cmp prog w A s (tuples' true) (fun p => p.1 ∈ vs) (SrtO.lt2 fun v u => SrtO.lexB (k v) (k u)) := by
  intro p q hm hm'
  have h1 := hp _ hm
  have h2 := hp _ hm'
  have hpq := hi _ hm _ hm'
  show wpAny (model prog w) A (keyLt' (tuples' true) p.1 q.1) (fun r s' => s' = s ∧ r = SrtO.lexB (k p.1) (k q.1)) (fun _ _ => False) s
  have hk : k p.1 = k q.1 ↔ (k p.1).1 = (k q.1).1 ∧ (k p.1).2 = (k q.1).2 := Prod.ext_iff
  rw [hk] at hpq
  unfold SrtO.lexB
  generalize (k p.1).1 = x at h1 hpq ⊢
  generalize (k p.1).2 = y at h1 hpq ⊢
  generalize (k q.1).1 = x' at h2 hpq ⊢
  generalize (k q.1).2 = y' at h2 hpq ⊢
  obtain ⟨a, o, t, u, z, n, e, ho, hc, hd, h3⟩ := h1
  obtain ⟨a', o', t', u', z', n', e', ho', hc', hd', h3'⟩ := h2
  rw [e, e'] at hpq
  rw [e, e']
  refine PySem.W.kat_lt ho hd ho' hd' ?_
  show PySem.W.KatLex prog w A true (decide (3 < 3)) _ [(.int x t, .int x' t'), (.int y u, .int y' u'), (z, z')] 0 s
  refine PySem.W.kat_cons (SeqAt.EqAt.int_int x t x' t' prog w _ _ ?_)
  refine PySem.W.kat_go (fun e1 => ?_) (fun e1 => ?_)
  · have ex : x = x' := by simpa using e1
    refine PySem.W.kat_yes (PySem.W.kat_cons (SeqAt.EqAt.int_int y u y' u' prog w _ _ ?_))
    refine PySem.W.kat_go (fun e2 => ?_) (fun e2 => ?_)
    · have ey : y = y' := by simpa using e2
      have e3 : (if x = x' then decide (y < y') else decide (x < x')) = false := by
        rw [if_pos ex, ey]
        exact decide_eq_false (Int.lt_irrefl _)
      have ea := hpq ⟨ex, ey⟩
      cases ea
      rw [ho] at ho'
      cases ho'
      rw [hd] at hd'
      have ez : z = z' := by
        simp only [Data.seq.injEq, Array.mk.injEq, List.cons.injEq, Value.int.injEq] at hd'
        exact hd'.1.2.2.1
      subst ez
      refine PySem.W.kat_yes (PySem.W.kat_cons ?_)
      rcases h3 with ⟨m, tt, rfl⟩ | ⟨b, ks, rfl, hb⟩
      · refine SeqAt.EqAt.int_int m tt m tt prog w _ _ ?_
        rw [beq_self_eq_true]
        exact PySem.W.kat_yes (PySem.W.kat_nil ⟨rfl, e3.symm⟩)
      · refine wpAny_eqBool_tuple hu hb hb ?_
        rw [decide_eq_true rfl]
        exact PySem.W.kat_yes (PySem.W.kat_nil ⟨rfl, e3.symm⟩)
    · have e3 : (if x = x' then decide (y < y') else decide (x < x')) = decide (y < y') := if_pos ex
      refine PySem.W.kat_no (PySem.W.kat_one _ _ (PyProof.Rows.lt_int ?_))
      exact (show s = s ∧ decide (y < y') = (if x = x' then decide (y < y') else decide (x < x')) from ⟨rfl, e3.symm⟩)
  · have ex : ¬ x = x' := by simpa using e1
    have e3 : (if x = x' then decide (y < y') else decide (x < x')) = decide (x < x') := if_neg ex
    exact PySem.W.kat_no (oneLt_int ⟨rfl, e3.symm⟩)
theorem tri_sortable {a : Addr} {vs : List Value} {k : Value → Int × Int} (hu : A.units < cLine) (h0 : 0 < vs.length) (hp : ∀ v ∈ vs, IsTri prog w s.heap v (k v).1 (k v).2) (hi : ∀ v ∈ vs, ∀ u ∈ vs, k v = k u → v = u) (ha : ∀ o, s.heap.get? a = some o → o.cls ≠ .type "tuple") : SrtO.SortableO prog w A s a vs fun v u => SrtO.lexB (k v) (k u) := by
  intro h' keep
  have hp' : ∀ v ∈ vs, IsTri prog w h' v (k v).1 (k v).2 := fun v hm => (hp v hm).keeps fun b o e c => keep b o (fun z => by subst z; exact ha o e c) e
  obtain ⟨fs, h1, h2, h3⟩ := tri_firsts vs hp'
  refine ⟨tuples' true, fun Q E hq => ?_, tri_cmp (s := { s with heap := h' }) hu hp' hi⟩
  refine PySem.W.kat_kind (T := .type "int") h1 (by omega) (fun f hm => ?_) (by rfl) ?_
  · obtain ⟨x, t, rfl⟩ := h3 f hm
    exact PySem.W.Looks.now
  · have e : (Value.type "int" != Value.type "tuple") = true := by first | decide +kernel | rfl | decide
    rw [e]
    exact hq
theorem sorted_tri {l : Addr} {vs : List Value} {k : Value → Int × Int} {Q : Value → Shared → Prop} (hu : A.units + 2 < cLine) (hl : s.heap.IsList l vs.toArray) (hz : vs.length ≤ sizeLine) (hp : ∀ v ∈ vs, IsTri prog w s.heap v (k v).1 (k v).2) (hi : ∀ v ∈ vs, ∀ u ∈ vs, k v = k u → v = u)
    (h : ∀ (h' : Heap) (d : Addr) (out : List Value), SrtO.Srtd (fun v u => SrtO.lexB (k v) (k u)) out → out.Perm vs → (∀ b o, s.heap.get? b = some o → h'.get? b = some o) → s.heap.objs.size ≤ d → (∃ n, h'.get? d = some (seqObj "list" out.toArray n)) → Q (.ref d) { s with heap := h' }) :
    wpAny (model prog w) A (call (.builtin "sorted") [.ref l]) Q E s := by
  refine SrtO.sorted_ord (SrtO.swo_lex k) hl hz (fun h2 h₁ a ha kk => ?_) fun out hs hb => ?_
  · refine tri_sortable (s := { s with heap := h₁ }) (A := A.in1.in1) (by show A.units + 1 + 1 < cLine; omega) (by omega) (fun v hm => (hp v hm).keeps fun b o e _ => (kk b o e).2) hi fun o e => ?_
    have e' : some o = some (seqObj "list" vs.toArray 0) := e.symm.trans ha
    cases e'
    intro c
    exact absurd (Value.type.inj c) (by decide)
  · exact h _ _ out hs hb.perm (fun b o e => sortedAll_old e) (Nat.le_succ _) (sortedAll_at s.heap vs out.toArray)
end
/-- two sorted lists of the same things, the keys all different -/
theorem srt_uniq {α : Type} {k : α → Int × Int} : ∀ {l m : List α}, l.Perm m → SrtO.Srtd (fun v u => SrtO.lexB (k v) (k u)) l → SrtO.Srtd (fun v u => SrtO.lexB (k v) (k u)) m → (∀ v ∈ m, ∀ u ∈ m, k v = k u → v = u) → l = m
  | [], m, p, _, _, _ => p.nil_eq
  | a :: l, [], p, _, _, _ => by simpa using p.length_eq
  | a :: l, b :: m, p, h1, h2, hi => by
    obtain ⟨a1, a2⟩ := List.pairwise_cons.mp h1
    obtain ⟨b1, b2⟩ := List.pairwise_cons.mp h2
    have e : a = b := by
      rcases List.mem_cons.mp (p.mem_iff.mp List.mem_cons_self : a ∈ b :: m) with e | ha
      · exact e
      · rcases List.mem_cons.mp (p.mem_iff.mpr List.mem_cons_self : b ∈ a :: l) with e | hb
        · exact e.symm
        · have c1 := SrtO.lexB_no.mp (a1 b hb)
          have c2 := SrtO.lexB_no.mp (b1 a ha)
          refine hi _ (List.mem_cons_of_mem _ ha) _ List.mem_cons_self (Prod.ext ?_ ?_) <;> omega
    subst e
    rw [srt_uniq (p.cons_inv) a2 b2 fun v hv u hu => hi v (List.mem_cons_of_mem _ hv) u (List.mem_cons_of_mem _ hu)]
theorem perm_dps {K : PySem.W.Frag} {H : Hp} {ds es : List PyData} (p : ds.Perm es) : ∀ {xs : List V}, DpAll K H xs ds → ∃ ys, xs.Perm ys ∧ DpAll K H ys es := by
  induction p with
  | nil => exact fun {xs} h => ⟨xs, List.Perm.refl _, h⟩
  | cons d p ih =>
    intro xs h
    cases h with
    | cons h1 h2 =>
      obtain ⟨ys, q, r⟩ := ih h2
      exact ⟨_ :: ys, q.cons _, .cons h1 r⟩
  | swap a b l =>
    intro xs h
    cases h with
    | cons h1 h2 =>
      cases h2 with
      | cons h3 h4 => exact ⟨_, List.Perm.swap _ _ _, .cons h3 (.cons h1 h4)⟩
  | trans p q ih1 ih2 =>
    intro xs h
    obtain ⟨ys, p1, h1⟩ := ih1 h
    obtain ⟨zs, p2, h2⟩ := ih2 h1
    exact ⟨zs, p1.trans p2, h2⟩
theorem perm_vals {xs ys : List V} (p : xs.Perm ys) : ∀ {us : List Value}, Vals xs us → ∃ ws, us.Perm ws ∧ Vals ys ws := by
  induction p with
  | nil => exact fun {us} h => ⟨us, List.Perm.refl _, h⟩
  | cons d p ih =>
    intro us h
    cases h with
    | cons h1 h2 =>
      obtain ⟨ys, q, r⟩ := ih h2
      exact ⟨_ :: ys, q.cons _, .cons h1 r⟩
  | swap a b l =>
    intro us h
    cases h with
    | cons h1 h2 =>
      cases h2 with
      | cons h3 h4 => exact ⟨_, List.Perm.swap _ _ _, .cons h3 (.cons h1 h4)⟩
  | trans p q ih1 ih2 =>
    intro us h
    obtain ⟨ys, p1, h1⟩ := ih1 h
    obtain ⟨zs, p2, h2⟩ := ih2 h1
    exact ⟨zs, p1.trans p2, h2⟩
section
variable {X : Cx} {pins : List (Addr × Obj)} {σ : L2.St} {H : Hp} {s : Shared}
theorem tri_at (I : Inv X pins σ H s) {x : V} {u : Value} {p : Tri} (h : Dp X.K H x (triD p)) (r : RelV x u) : IsTri X.prog X.w s.heap u p.1 p.2.1 := by
  obtain ⟨i, j, l⟩ := p
  obtain ⟨a, xs, rfl, h1, h2⟩ := dp_tup h
  cases r
  obtain ⟨its, rv, ⟨o, ho, hc, n, hd⟩, _⟩ := I.tuple h1
  cases h2 with
  | cons q1 q2 =>
    obtain ⟨y, z, rfl, q3, q4⟩ := dps2 q2
    cases dp_int q1
    cases dp_int q3
    cases rv with
    | cons r1 r2 =>
      cases r2 with
      | cons r3 r4 =>
        cases r4 with
        | cons r5 r6 =>
          cases r6
          obtain ⟨t, rfl⟩ := r1
          obtain ⟨t', rfl⟩ := r3
          refine ⟨a, o, t, t', _, n, rfl, ho, hc, hd, ?_⟩
          rcases num_cases l with ⟨e, _⟩ | ⟨e, _⟩
          · have q4' : Dp X.K H z (num l) := q4
            rw [e] at q4'
            cases dp_int q4'
            obtain ⟨tt, rfl⟩ := r5
            exact .inl ⟨_, _, rfl⟩
          · have q4' : Dp X.K H z (num l) := q4
            rw [e] at q4'
            obtain ⟨b, ys, rfl, h3, h4⟩ := dp_tup q4'
            cases r5
            obtain ⟨y1, y2, rfl, h5, h6⟩ := dps2 h4
            cases dp_int h5
            cases dp_int h6
            obtain ⟨its2, rv2, ⟨o2, ho2, hc2, n2, hd2⟩, _⟩ := I.tuple h3
            exact .inr ⟨b, [.inl l.num, .inl (l.den : Int)], rfl, o2, its2.toArray, n2, ho2, hc2, hd2, by
              have := items_are (P := X.prog) (w := X.w) (ks := [.inl l.num, .inl (l.den : Int)]) (us := its2) rv2
              simpa using this⟩
def rSortTri (K : PySem.W.Frag) : List V → Hp → VK → Prop := fun vs H Q => ∃ (a : Addr) (xs : List V) (ps qs : List Tri) (G : Hp), vs = [V.ref a] ∧ Same G H ∧ SqL K H a xs ∧ DpAll K G xs (ps.map triD) ∧ ps.Perm qs ∧ qs.Pairwise (fun p q => SrtO.lexB p.k q.k = true) ∧
  ∀ ys p, DpAll K G ys (qs.map triD) → H p = none → Q (.ref p) (upd H p (.lst ys))
theorem all_rel {K : PySem.W.Frag} {H : Hp} {R : Tri → Value → Prop} : ∀ {ps : List Tri} {xs : List V} {us : List Value}, DpAll K H xs (ps.map triD) → Vals xs us → (∀ (p : Tri) (x : V) (u : Value), p ∈ ps → Dp K H x (triD p) → RelV x u → R p u) → Paired R ps us
  | [], _, _, .nil, .nil, _ => .nil
  | p :: ps, _, _, .cons h1 h2, .cons r1 r2, hR => .cons (hR p _ _ List.mem_cons_self h1 r1) (all_rel h2 r2 fun q x u hq => hR q x u (List.mem_cons_of_mem _ hq))
theorem paired_mem {α β : Type} {R : α → β → Prop} : ∀ {l : List α} {m : List β}, Paired R l m → ∀ b ∈ m, ∃ a ∈ l, R a b
  | _, _, .nil, b, hb => by cases hb
  | _, _, .cons h t, b, hb => by
    rcases List.mem_cons.mp hb with e | hb
    · subst e
      exact ⟨_, List.mem_cons_self, h⟩
    · obtain ⟨a, h1, h2⟩ := paired_mem t b hb
      exact ⟨a, List.mem_cons_of_mem _ h1, h2⟩
theorem paired_pw {α β : Type} {R : α → β → Prop} {S : α → α → Prop} {S' : β → β → Prop} (hS : ∀ a a' b b', R a b → R a' b' → S a a' → S' b b') : ∀ {l : List α} {m : List β}, Paired R l m → l.Pairwise S → m.Pairwise S'
  | _, _, .nil, _ => .nil
  | _, _, .cons h t, p => by
    obtain ⟨p1, p2⟩ := List.pairwise_cons.mp p
    refine List.pairwise_cons.mpr ⟨fun b hb => ?_, paired_pw hS t p2⟩
    obtain ⟨a, h1, h2⟩ := paired_mem t b hb
    exact hS _ _ _ _ h h2 (p1 a h1)
theorem paired_inj {α β : Type} {R : α → β → Prop} {k : β → Int × Int} {ka : α → Int × Int} (hk : ∀ a b, R a b → k b = ka a) : ∀ {l : List α} {m : List β}, Paired R l m → l.Pairwise (fun p q => SrtO.lexB (ka p) (ka q) = true) → ∀ v ∈ m, ∀ u ∈ m, k v = k u → v = u
  | _, _, .nil, _, v, hv, _, _, _ => by cases hv
  | _, _, .cons h t, p, v, hv, u, hu, e => by
    obtain ⟨p1, p2⟩ := List.pairwise_cons.mp p
    rcases List.mem_cons.mp hv with e1 | hv'
    · rcases List.mem_cons.mp hu with e2 | hu'
      · rw [e1, e2]
      · obtain ⟨a, h1, h2⟩ := paired_mem t u hu'
        have c := SrtO.lexB_iff.mp (p1 a h1)
        rw [← hk _ _ h, ← hk _ _ h2, ← e1, e] at c
        omega
    · rcases List.mem_cons.mp hu with e2 | hu'
      · obtain ⟨a, h1, h2⟩ := paired_mem t v hv'
        have c := SrtO.lexB_iff.mp (p1 a h1)
        rw [← hk _ _ h, ← hk _ _ h2, ← e2, e] at c
        omega
      · exact paired_inj hk t p2 v hv' u hu' e
/-- the two ints at the head of a tuple, off the heap -/
def pairAt (h : Heap) (v : Value) : Int × Int := match v with
  | .ref a => match h.get? a with
    | some o => match o.data with
      | .seq xs _ => match xs.toList with
        | .int i _ :: .int j _ :: _ => (i, j)
        | _ => (0, 0)
      | _ => (0, 0)
    | none => (0, 0)
  | _ => (0, 0)
theorem IsTri.pair {prog : Program} {w : World} {h : Heap} {v : Value} {i j : Int} (x : IsTri prog w h v i j) : pairAt h v = (i, j) := by
  obtain ⟨a, o, t, u, x, n, rfl, ho, hc, hd, h3⟩ := x
  simp only [pairAt, ho, hd]
theorem cr_sortTri (hu : X.A.units + 2 < cLine) : CallR X (.builtin "sorted") (rSortTri X.K) := by
  intro pins s σ H vs us Q I r h
  obtain ⟨a, xs, ps, qs, G, rfl, sG, hs, hx, hp, hq, q⟩ := h
  obtain ⟨its, rv, hl, hz⟩ := I.list hs
  obtain ⟨u, rfl, ru⟩ := Vals.one r
  obtain rfl : u = Value.ref a := ru
  obtain ⟨ys, px, hy⟩ := perm_dps (hp.map triD) hx
  obtain ⟨ws, pw, hw⟩ := perm_vals px rv
  have tr : Paired (fun (p : Tri) (u : Value) => IsTri X.prog X.w s.heap u p.1 p.2.1) qs ws := all_rel hy hw fun p x u _ h1 r1 => tri_at I (dp_mono sG _ _ h1) r1
  have hk : ∀ (p : Tri) (u : Value), IsTri X.prog X.w s.heap u p.1 p.2.1 → pairAt s.heap u = p.k := fun p u h => h.pair
  have inj := paired_inj hk tr hq
  have sw : SrtO.Srtd (fun v u => SrtO.lexB (pairAt s.heap v) (pairAt s.heap u)) ws := paired_pw (S := fun p q => SrtO.lexB p.k q.k = true) (fun p p' u u' h1 h2 z => by
    show SrtO.lexB (pairAt s.heap u') (pairAt s.heap u) = false
    rw [hk p u h1, hk p' u' h2]
    have := SrtO.lexB_iff.mp z
    refine SrtO.lexB_no.mpr ?_
    omega) tr hq
  refine sorted_tri (k := pairAt s.heap) hu hl.isList (by rw [← rv.length]; exact hz) (fun v hv => ?_) (fun v hv u hu => inj v (pw.mem_iff.mp hv) u (pw.mem_iff.mp hu)) fun h' d out h1 h2 kp hd hn => ?_
  · obtain ⟨p, _, h3⟩ := paired_mem tr v (pw.mem_iff.mp hv)
    rw [hk p v h3]
    exact h3
  · have e : out = ws := srt_uniq (h2.trans pw) h1 sw inj
    subst e
    obtain ⟨n, hn⟩ := hn
    refine ⟨.ref d, upd H d (.lst ys), I.laid (t' := s.toks) kp hd ⟨?_, out, n, hw, hn⟩, rfl, q ys d hy (I.hok.fresh hd)⟩
    rw [← px.length_eq]
    exact hz
end
section
variable {X : Cx} {m : Md} {g : List Sl} {S : PyData → Prop} {a b e : Expr} {pos : Pos}
theorem pd_sorted {ds es : List PyData} {p : Pos} (ps qs : List Tri) (hu : X.A.units + 2 < cLine) (ha : PD X m g a (Is (.list ds))) (e1 : ds = ps.map triD) (e2 : es = qs.map triD) (hp : ps.Perm qs) (hq : qs.Pairwise (fun p q => SrtO.lexB p.k q.k = true)) (hg : Gl X "sorted") (hm : X.mg "sorted" = none) (hs : starEach [a] X.env = (false, eval a X.env) :: starEach [] X.env := by rfl) : PD X m g (.Call (.Name "sorted" p) [a] [] pos) (Is (.list es)) :=
  pd_cb (f := .none) (pe_callB (cr_sortTri hu) hg hm (by decide +kernel) (pl_cons ha pl_nil hs) (he := hs) (hpl := by rfl)) fun es' us H Q al s q k => by
    cases s
    obtain ⟨u, rfl, q0⟩ := dps1 q
    obtain ⟨p, xs, rfl, h1, h2⟩ := dp_lst q0
    subst e1 e2
    exact ⟨p, xs, ps, qs, del m.zs H, rfl, del_same _ _, sqL_mono (del_same _ _) h1, h2, hp, hq, fun ys l hy hl => k _ _ _ (same_new hl) rfl (dp_newL al hl hy)⟩
/-- list(range(a, b)) -/
theorem pd_lstRg {lo : Int} {n : Nat} {p p2 pos2 : Pos} (hc : X.calm = true) (ha : PD X m g a (Is (.int lo))) (hb : PD X m g b (Is (.int (lo + n)))) (h0 : 0 ≤ lo) (h1 : lo ≤ 1000000) (h2 : n ≤ 1000) (hg : Gl X "list") (hm : X.mg "list" = none) (hg2 : Gl X "range") (hm2 : X.mg "range" = none)
    (na : starEach [a, b] X.env = (false, eval a X.env) :: starEach [b] X.env := by rfl) (nb : starEach [b] X.env = (false, eval b X.env) :: starEach [] X.env := by rfl) (hp : (backTo pos2 (starEach [b] X.env)).any (·.1) = false := by rfl)
    (nc : starEach [.Call (.Name "range" p2) [a, b] [] pos2] X.env = (false, eval (.Call (.Name "range" p2) [a, b] [] pos2) X.env) :: starEach [] X.env := by rfl) : PD X m g (.Call (.Name "list" p) [.Call (.Name "range" p2) [a, b] [] pos2] [] pos) (Is (.list ((rgI lo n).map PyData.int))) :=
  PE.wk (pe_listRg hc hg hm (prg_2 hg2 hm2 ha hb na nb hp) nc) fun σ H Q ⟨o, k⟩ => ⟨o, fun u x H1 n1 s1 q1 => ⟨o.step n1, fun v y H2 n2 s2 q2 => by
    cases s1
    cases s2
    refine ⟨lo, lo + n, dp_int q1, dp_int q2, ⟨by omega, by omega, by omega, by omega, by omega⟩, fun q hq => ?_⟩
    have nt := n1.trans n2
    refine k _ _ _ (nt.same (same_new hq)) rfl (dp_newL nt.al hq ?_)
    unfold rgV rgI
    have e : (lo + (n : Int) - lo).toNat = n := by omega
    rw [e, List.map_map]
    have key : ∀ l : List Nat, DpAll X.K (del m.zs H2) (l.map fun i => V.int (lo + (i : Nat))) (l.map (PyData.int ∘ fun (j : Nat) => lo + (j : Int))) := by
      intro l
      induction l with
      | nil => exact .nil
      | cons a l ih => exact .cons (.int _) ih
    exact key _⟩⟩
end
end Cv

set_option Elab.async false
set_option linter.all false
set_option maxRecDepth 100000
set_option maxHeartbeats 4000000
namespace Cv
open PySem PySem.Spec PyProof.Rows L2


def barsQ (f v : Int) (T : Rat) : List Tri := [(v, f + 8, T * (15/8)), (f, f + 1, T * (3/2)), (f, f + 3, T * (5/2)), (f + 1, f + 2, T * (5/2)), (f + 2, f + 3, T * (3/2)), (f + 4, f + 8, T * (17/8)), (f + 5, f + 8, T * (17/8)), (f + 6, f + 7, T * (1/2)), (f + 6, f + 8, T * (15/8))]
def barsP (f v : Int) (T : Rat) : List Tri := [(f, f + 1, T * (3/2)), (f + 1, f + 2, T * (5/2)), (f + 2, f + 3, T * (3/2)), (f, f + 3, T * (5/2)), (f + 6, f + 7, T * (1/2)), (f + 4, f + 8, T * (17/8)), (f + 5, f + 8, T * (17/8)), (v, f + 8, T * (15/8)), (f + 6, f + 8, T * (15/8))]
theorem bars_perm (f v : Int) (T : Rat) : (barsP f v T).Perm (barsQ f v T) := (show [0, 1, 2, 3, 4, 5, 6, 7, 8].Perm [7, 0, 3, 1, 2, 5, 6, 4, 8] by decide).map fun n => (barsP f v T).getD n (0, 0, 0)
theorem lexT {a b c d : Int} {x y : Rat} (h : a < c ∨ (a = c ∧ b < d)) : SrtO.lexB (Tri.k (a, b, x)) (Tri.k (c, d, y)) = true := SrtO.lexB_iff.mpr h
theorem bars_pw {f v : Int} {T : Rat} (hv : v < f) : (barsQ f v T).Pairwise (fun p q => SrtO.lexB p.k q.k = true) := by
  unfold barsQ
  refine List.pairwise_cons.mpr ⟨fun q hq => ?_, ?_⟩
  · simp only [List.mem_cons, List.not_mem_nil, or_false] at hq
    rcases hq with rfl | rfl | rfl | rfl | rfl | rfl | rfl | rfl <;> exact lexT (by omega)
  refine List.pairwise_cons.mpr ⟨fun q hq => ?_, ?_⟩
  · simp only [List.mem_cons, List.not_mem_nil, or_false] at hq
    rcases hq with rfl | rfl | rfl | rfl | rfl | rfl | rfl <;> exact lexT (by omega)
  refine List.pairwise_cons.mpr ⟨fun q hq => ?_, ?_⟩
  · simp only [List.mem_cons, List.not_mem_nil, or_false] at hq
    rcases hq with rfl | rfl | rfl | rfl | rfl | rfl <;> exact lexT (by omega)
  refine List.pairwise_cons.mpr ⟨fun q hq => ?_, ?_⟩
  · simp only [List.mem_cons, List.not_mem_nil, or_false] at hq
    rcases hq with rfl | rfl | rfl | rfl | rfl <;> exact lexT (by omega)
  refine List.pairwise_cons.mpr ⟨fun q hq => ?_, ?_⟩
  · simp only [List.mem_cons, List.not_mem_nil, or_false] at hq
    rcases hq with rfl | rfl | rfl | rfl <;> exact lexT (by omega)
  refine List.pairwise_cons.mpr ⟨fun q hq => ?_, ?_⟩
  · simp only [List.mem_cons, List.not_mem_nil, or_false] at hq
    rcases hq with rfl | rfl | rfl <;> exact lexT (by omega)
  refine List.pairwise_cons.mpr ⟨fun q hq => ?_, ?_⟩
  · simp only [List.mem_cons, List.not_mem_nil, or_false] at hq
    rcases hq with rfl | rfl <;> exact lexT (by omega)
  refine List.pairwise_cons.mpr ⟨fun q hq => ?_, ?_⟩
  · simp only [List.mem_cons, List.not_mem_nil, or_false] at hq
    rcases hq with rfl <;> exact lexT (by omega)
  refine List.pairwise_cons.mpr ⟨fun q hq => by simp at hq, .nil⟩
def rowsD (f v : Int) : List PyData := [.tuple [.int (f), .int (f + 1), .tuple [.int 3, .int 2]], .tuple [.int (f + 1), .int (f + 2), .tuple [.int 5, .int 2]], .tuple [.int (f + 2), .int (f + 3), .tuple [.int 3, .int 2]], .tuple [.int (f), .int (f + 3), .tuple [.int 5, .int 2]], .tuple [.int (f + 6), .int (f + 7), .tuple [.int 1, .int 2]], .tuple [.int (f + 4), .int (f + 8), .tuple [.int 17, .int 8]], .tuple [.int (f + 5), .int (f + 8), .tuple [.int 17, .int 8]], .tuple [.int (v), .int (f + 8), .tuple [.int 15, .int 8]], .tuple [.int (f + 6), .int (f + 8), .tuple [.int 15, .int 8]]]
theorem rg9 (f : Int) : (rgI f 9).map PyData.int = [.int f, .int (f + 1), .int (f + 2), .int (f + 3), .int (f + 4), .int (f + 5), .int (f + 6), .int (f + 7), .int (f + 8)] := by
  unfold rgI
  simp [List.range, List.range.loop]
theorem unit2 {k : Nat} {A : Around} (r : Room k A) : A.units + 2 < cLine := by have := r.un; omega
def R__law_parts : List PyData → PyData → Prop := fun ds d => ∃ (f v : Int) (h r : Rat), ds = [.int f, .int v, num h, num r] ∧ 0 ≤ v ∧ v < f ∧ f ≤ 4000 ∧ Bd h 7 ∧ Bd r 20 ∧ d = partsD f v h (r + 1)
theorem rel__law_parts {f v : Int} {h r : Rat} (h0 : 0 ≤ v) (h1 : v < f) (h2 : f ≤ 4000) (b1 : Bd h 7) (b2 : Bd r 20) : R__law_parts [.int f, .int v, num h, num r] (partsD f v h (r + 1)) := ⟨f, v, h, r, rfl, h0, h1, h2, b1, b2, rfl⟩

local macro_rules | `(tactic| walk_at "nb") => `(tactic| (first | exact Bd.up | exact nd_bd Bd.dn | assumption | (apply mul_bd <;> walk_at "nb") | (apply add_bd <;> walk_at "nb")))
local macro_rules | `(tactic| walk_at "cm") => `(tactic| (apply mulx_ok; (walk_at "nb"); (walk_at "nb"); omega))
local macro_rules | `(tactic| walk_at "sh") => `(tactic| (first | exact num_shaped _ | exact shp_int _ | exact shp_int2 _ _ | exact shp_none))
local macro_rules | `(tactic| walk_at "sh") => `(tactic| (first | exact num_shaped _ | exact pt_shaped _ _ | exact pl_shaped _ | exact oD_shaped _ | exact shp_int _ | exact shp_int2 _ _ | exact shp_none))
section
variable {P : Program} {w : World} {K : PySem.W.Frag} {mg : Str → Option Value} {base : Heap}

theorem sc__law_parts : FnScope ["_law_first", "_law_v", "_law_h", "_law_reach", "_law_pins", "_law_rows", "_law_bars", "_law_far_here", "_law_half", "_law_o", "_law_a", "_law_c", "_law_b", "_law_z", "_law_g", "_law_q", "_law_u", "_law_k", "_law_one_here", "_law_other", "_law_share"] ["_law_first", "_law_v", "_law_h", "_law_reach"] (defScope (top 76)) := ⟨rfl, rfl, rfl, by decide +kernel, rfl, by decide +kernel, by decide +kernel⟩
theorem c__law_parts (T : Txt K mg) : C8.Cal P w K mg base 4 "_law_parts" (spP K R__law_parts) [] := by
  refine okP T.t__law_parts sc__law_parts (fun _ _ _ _ _ _ us hl => match us, hl with | [_, _, _, _], _ => rfl) (fun ds d h => ?_) (fun f cdv A outer s H E m ds d hr h => ?_)
  · obtain ⟨f', v', h', r', rfl, hv0, hv1, hf, b1, b2, rfl⟩ := h
    rfl
  obtain ⟨f', v', h', r', rfl, hv0, hv1, hf, b1, b2, rfl⟩ := h
  refine ss_asg (pd_tup (pl_cons (pd_call (c__law_sum T) hr (by decide) rfl (pl_cons (pd_var 3) (pl_cons pd_int pl_nil)) (by exact rel__law_sum)) (pl_cons (pd_tup (pl_cons pd_int (pl_cons pd_int pl_nil))) pl_nil))) (g_tup rfl (g_cons (g_name 7 sc__law_parts.nd) (g_cons (g_name 8 sc__law_parts.nd) g_nil))) ?_
  refine ss_asg (pd_le (pd_lstRg (lo := f') (n := 9) rfl (pd_var 0) (pd_add (pd_var 0) pd_int) (by omega) (by omega) (by decide) rfl T.f_list rfl T.f_range) (fun _ z => z.trans (congrArg PyData.list (rg9 f')))) (g_lst rfl (g_cons (g_name 9 sc__law_parts.nd) (g_cons (g_name 10 sc__law_parts.nd) (g_cons (g_name 11 sc__law_parts.nd) (g_cons (g_name 12 sc__law_parts.nd) (g_cons (g_name 13 sc__law_parts.nd) (g_cons (g_name 14 sc__law_parts.nd) (g_cons (g_name 15 sc__law_parts.nd) (g_cons (g_name 16 sc__law_parts.nd) (g_cons (g_name 17 sc__law_parts.nd) g_nil)))))))))) ?_
  change PQ _ _ [.d (.int f'), .d (.int v'), .d (num h'), .d (num r'), .no, .no, .no, .d (num (r' + 1)), .d (.tuple [.int 1, .int 2]), .d (.int f'), .d (.int (f' + 1)), .d (.int (f' + 2)), .d (.int (f' + 3)), .d (.int (f' + 4)), .d (.int (f' + 5)), .d (.int (f' + 6)), .d (.int (f' + 7)), .d (.int (f' + 8)), .no, .no, .no] _ _ _
  refine ss_set1 4 (pd_tup (pl_cons (pd_tup (pl_cons (pd_var 13) (pl_cons (pd_tup (pl_cons (pd_call (c__law_less T) hr (by decide) rfl (pl_cons (pd_var 2) (pl_cons (pd_var 7) pl_nil)) (by exact rel__law_less)) (pl_cons pd_int pl_nil))) pl_nil))) (pl_cons (pd_tup (pl_cons (pd_var 16) (pl_cons (pd_tup (pl_cons (pd_call (c__law_less T) hr (by decide) rfl (pl_cons (pd_var 2) (pl_cons (pd_call (c__law_by T) hr (by decide) rfl (pl_cons (pd_var 7) (pl_cons (pd_var 8) pl_nil)) (by exact rel__law_by)) pl_nil)) (by exact rel__law_less)) (pl_cons pd_int pl_nil))) pl_nil))) pl_nil))) ?_ sc__law_parts.nd
  refine ss_set1 5 (pd_lst (pl_cons (pd_tup (pl_cons (pd_var 9) (pl_cons (pd_var 10) (pl_cons (pd_tup (pl_cons pd_int (pl_cons pd_int pl_nil))) pl_nil)))) (pl_cons (pd_tup (pl_cons (pd_var 10) (pl_cons (pd_var 11) (pl_cons (pd_tup (pl_cons pd_int (pl_cons pd_int pl_nil))) pl_nil)))) (pl_cons (pd_tup (pl_cons (pd_var 11) (pl_cons (pd_var 12) (pl_cons (pd_tup (pl_cons pd_int (pl_cons pd_int pl_nil))) pl_nil)))) (pl_cons (pd_tup (pl_cons (pd_var 9) (pl_cons (pd_var 12) (pl_cons (pd_tup (pl_cons pd_int (pl_cons pd_int pl_nil))) pl_nil)))) (pl_cons (pd_tup (pl_cons (pd_var 15) (pl_cons (pd_var 16) (pl_cons (pd_var 8) pl_nil)))) (pl_cons (pd_tup (pl_cons (pd_var 13) (pl_cons (pd_var 17) (pl_cons (pd_tup (pl_cons pd_int (pl_cons pd_int pl_nil))) pl_nil)))) (pl_cons (pd_tup (pl_cons (pd_var 14) (pl_cons (pd_var 17) (pl_cons (pd_tup (pl_cons pd_int (pl_cons pd_int pl_nil))) pl_nil)))) (pl_cons (pd_tup (pl_cons (pd_var 1) (pl_cons (pd_var 17) (pl_cons (pd_tup (pl_cons pd_int (pl_cons pd_int pl_nil))) pl_nil)))) (pl_cons (pd_tup (pl_cons (pd_var 15) (pl_cons (pd_var 17) (pl_cons (pd_tup (pl_cons pd_int (pl_cons pd_int pl_nil))) pl_nil)))) pl_nil)))))))))) ?_ sc__law_parts.nd
  change PQ _ _ [.d (.int f'), .d (.int v'), .d (num h'), .d (num r'), .d (.tuple [.tuple [.int (f' + 4), .tuple [num (h' - (r' + 1)), .int 0]], .tuple [.int (f' + 7), .tuple [num (h' - (r' + 1) * (1/2)), .int 0]]]), .d (.list (rowsD f' v')), .no, .d (num (r' + 1)), .d (.tuple [.int 1, .int 2]), .d (.int f'), .d (.int (f' + 1)), .d (.int (f' + 2)), .d (.int (f' + 3)), .d (.int (f' + 4)), .d (.int (f' + 5)), .d (.int (f' + 6)), .d (.int (f' + 7)), .d (.int (f' + 8)), .no, .no, .no] _ _ _
  refine ss_set1 6 (pd_sorted (es := (barsQ f' v' (r' + 1)).map triD) (barsP f' v' (r' + 1)) (barsQ f' v' (r' + 1)) (unit2 hr) (PLc.pd <| plc_L (own := [("_law_one_here", 18), ("_law_other", 19), ("_law_share", 20)]) (ds := (rowsD f' v')) (rs := ((barsP f' v' (r' + 1)).map triD)) (.tup [18, 19, 20]) rfl sc__law_parts.nd (pd_var 5) (blkOk_by (N := ["_law_first", "_law_v", "_law_h", "_law_reach", "_law_pins", "_law_rows", "_law_bars", "_law_far_here", "_law_half", "_law_o", "_law_a", "_law_c", "_law_b", "_law_z", "_law_g", "_law_q", "_law_u", "_law_k", "_law_one_here", "_law_other", "_law_share"]) (sc := defScope (top 76)) (by decide +kernel)) (show ∀ i ∈ [18, 19, 20], i ∈ [18, 19, 20] from fun _ z => z) (tgk_all rfl) (Nat.le_of_ble_eq_true rfl) rfl (fun _ _ _ _ _ => (pg_tup rfl (pgs_cons (pg_name sc__law_parts.nd rfl (Or.inl rfl)) (pgs_cons (pg_name sc__law_parts.nd rfl (Or.inl rfl)) (pgs_cons (pg_name sc__law_parts.nd rfl (Or.inl rfl)) pgs_nil))))) (fun s H C cl fp i x' y' D acc hx hy => ?_)) rfl rfl (bars_perm f' v' (r' + 1)) (bars_pw hv1) rfl T.f_sorted) ?_ sc__law_parts.nd
  · match i, hx, hy with
    | 0, hx, hy => cases hx; cases hy; exact (pd_tup (pl_cons (pd_le (pd_min rfl (pd_var 18) (pd_var 19) rfl T.f_min) (fun _ z => z.trans (by rw [if_neg (by omega)]))) (pl_cons (pd_le (pd_max rfl (pd_var 18) (pd_var 19) rfl T.f_max) (fun _ z => z.trans (by rw [if_pos (by omega)]))) (pl_cons (pd_call (c__law_by T) hr (by decide) rfl (pl_cons (pd_var 7) (pl_cons (pd_var 20) pl_nil)) (by exact rel__law_by)) pl_nil))))
    | 1, hx, hy => cases hx; cases hy; exact (pd_tup (pl_cons (pd_le (pd_min rfl (pd_var 18) (pd_var 19) rfl T.f_min) (fun _ z => z.trans (by rw [if_neg (by omega)]))) (pl_cons (pd_le (pd_max rfl (pd_var 18) (pd_var 19) rfl T.f_max) (fun _ z => z.trans (by rw [if_pos (by omega)]))) (pl_cons (pd_call (c__law_by T) hr (by decide) rfl (pl_cons (pd_var 7) (pl_cons (pd_var 20) pl_nil)) (by exact rel__law_by)) pl_nil))))
    | 2, hx, hy => cases hx; cases hy; exact (pd_tup (pl_cons (pd_le (pd_min rfl (pd_var 18) (pd_var 19) rfl T.f_min) (fun _ z => z.trans (by rw [if_neg (by omega)]))) (pl_cons (pd_le (pd_max rfl (pd_var 18) (pd_var 19) rfl T.f_max) (fun _ z => z.trans (by rw [if_pos (by omega)]))) (pl_cons (pd_call (c__law_by T) hr (by decide) rfl (pl_cons (pd_var 7) (pl_cons (pd_var 20) pl_nil)) (by exact rel__law_by)) pl_nil))))
    | 3, hx, hy => cases hx; cases hy; exact (pd_tup (pl_cons (pd_le (pd_min rfl (pd_var 18) (pd_var 19) rfl T.f_min) (fun _ z => z.trans (by rw [if_neg (by omega)]))) (pl_cons (pd_le (pd_max rfl (pd_var 18) (pd_var 19) rfl T.f_max) (fun _ z => z.trans (by rw [if_pos (by omega)]))) (pl_cons (pd_call (c__law_by T) hr (by decide) rfl (pl_cons (pd_var 7) (pl_cons (pd_var 20) pl_nil)) (by exact rel__law_by)) pl_nil))))
    | 4, hx, hy => cases hx; cases hy; exact (pd_tup (pl_cons (pd_le (pd_min rfl (pd_var 18) (pd_var 19) rfl T.f_min) (fun _ z => z.trans (by rw [if_neg (by omega)]))) (pl_cons (pd_le (pd_max rfl (pd_var 18) (pd_var 19) rfl T.f_max) (fun _ z => z.trans (by rw [if_pos (by omega)]))) (pl_cons (pd_call (c__law_by T) hr (by decide) rfl (pl_cons (pd_var 7) (pl_cons (pd_var 20) pl_nil)) (by exact rel__law_by)) pl_nil))))
    | 5, hx, hy => cases hx; cases hy; exact (pd_tup (pl_cons (pd_le (pd_min rfl (pd_var 18) (pd_var 19) rfl T.f_min) (fun _ z => z.trans (by rw [if_neg (by omega)]))) (pl_cons (pd_le (pd_max rfl (pd_var 18) (pd_var 19) rfl T.f_max) (fun _ z => z.trans (by rw [if_pos (by omega)]))) (pl_cons (pd_call (c__law_by T) hr (by decide) rfl (pl_cons (pd_var 7) (pl_cons (pd_var 20) pl_nil)) (by exact rel__law_by)) pl_nil))))
    | 6, hx, hy => cases hx; cases hy; exact (pd_tup (pl_cons (pd_le (pd_min rfl (pd_var 18) (pd_var 19) rfl T.f_min) (fun _ z => z.trans (by rw [if_neg (by omega)]))) (pl_cons (pd_le (pd_max rfl (pd_var 18) (pd_var 19) rfl T.f_max) (fun _ z => z.trans (by rw [if_pos (by omega)]))) (pl_cons (pd_call (c__law_by T) hr (by decide) rfl (pl_cons (pd_var 7) (pl_cons (pd_var 20) pl_nil)) (by exact rel__law_by)) pl_nil))))
    | 7, hx, hy => cases hx; cases hy; exact (pd_tup (pl_cons (pd_le (pd_min rfl (pd_var 18) (pd_var 19) rfl T.f_min) (fun _ z => z.trans (by rw [if_neg (by omega)]))) (pl_cons (pd_le (pd_max rfl (pd_var 18) (pd_var 19) rfl T.f_max) (fun _ z => z.trans (by rw [if_pos (by omega)]))) (pl_cons (pd_call (c__law_by T) hr (by decide) rfl (pl_cons (pd_var 7) (pl_cons (pd_var 20) pl_nil)) (by exact rel__law_by)) pl_nil))))
    | 8, hx, hy => cases hx; cases hy; exact (pd_tup (pl_cons (pd_le (pd_min rfl (pd_var 18) (pd_var 19) rfl T.f_min) (fun _ z => z.trans (by rw [if_neg (by omega)]))) (pl_cons (pd_le (pd_max rfl (pd_var 18) (pd_var 19) rfl T.f_max) (fun _ z => z.trans (by rw [if_pos (by omega)]))) (pl_cons (pd_call (c__law_by T) hr (by decide) rfl (pl_cons (pd_var 7) (pl_cons (pd_var 20) pl_nil)) (by exact rel__law_by)) pl_nil))))
    | _ + 9, hx, hy => cases hx
  refine ss_ret (pd_tup (pl_cons (pd_var 4) (pl_cons (pd_tupL (pd_var 6) rfl T.f_tuple) (pl_cons (pd_tup (pl_cons (pd_tup (pl_cons (pd_var 1) (pl_cons (pd_var 10) (pl_cons (pd_var 11) (pl_cons (pd_var 8) pl_nil))))) (pl_cons (pd_tup (pl_cons (pd_var 13) (pl_cons (pd_var 9) (pl_cons (pd_var 10) (pl_cons (pd_var 8) pl_nil))))) (pl_cons (pd_tup (pl_cons (pd_var 14) (pl_cons (pd_var 11) (pl_cons (pd_var 12) (pl_cons (pd_var 8) pl_nil))))) (pl_cons (pd_tup (pl_cons (pd_var 15) (pl_cons (pd_var 9) (pl_cons (pd_var 12) (pl_cons (pd_var 8) pl_nil))))) pl_nil))))) pl_nil)))) (fun _ z => z.trans ?_)
  unfold partsD
  simp only [pt, num0]
  rfl
end
end Cv

set_option Elab.async false
set_option linter.all false
set_option maxRecDepth 100000
set_option maxHeartbeats 2000000
/-! for over data. -/
namespace Cv
open PySem PySem.Spec PyProof.Rows L2
/-- b knows no more than a -/
def Less (a b : List Sl) : Prop := b.length = a.length ∧ ∀ (i : Nat) (x : Sl), b[i]? = some x → x = .no ∨ a[i]? = some x
theorem okk_less {K : PySem.W.Frag} {m : Md} {a b : List Sl} {σ : L2.St} {H : Hp} (o : Okk K m a σ H) (h : Less a b) : Okk K m b σ H := ⟨o.al, o.w, repS_less o.rp h.1 h.2⟩
theorem less_of_fgt : ∀ {a b : List Sl}, Fgt a b → Less a b
  | _, _, .nil => ⟨rfl, fun i x e => by simp at e⟩
  | _, _, .no f => by
    obtain ⟨h1, h2⟩ := less_of_fgt f
    refine ⟨by rw [List.length_cons, List.length_cons, h1], fun i x e => ?_⟩
    cases i with
    | zero => exact .inl (Option.some.inj e).symm
    | succ i => exact h2 i x e
  | _, _, .same f => by
    obtain ⟨h1, h2⟩ := less_of_fgt f
    refine ⟨by rw [List.length_cons, List.length_cons, h1], fun i x e => ?_⟩
    cases i with
    | zero => exact .inr e
    | succ i => exact h2 i x e
section
variable {X : Cx} {m : Md} {g gw : List Sl} {R : PyData → Prop} {N : List Sl → Prop} {iter tg a : Expr} {body rest : List Stmt} {pos : Pos}
theorem ss_forT {xs : List PyData} (t : TgK) (hc : X.calm = true) (hi : PD X m g iter (Is (.tuple xs))) (hk : ∀ d ∈ xs, t.ok d) (h0 : Less g gw) (hg : PG X tg (t.g X.K))
    (hb : ∀ (k : Nat) (x : PyData), xs[k]? = some x → PQ X m (t.set gw x) body R (fun g' => Less g' gw)) (hr : PQ X m gw rest R N) (hp : PassesOwn (model X.prog X.w) X.A X.env X.xe) (hs : ∀ x, foldedSetIterable iter X.env x = pure x := by intro _; rfl) : PQ X m g (.For tg iter body [] pos :: rest) R N := by
  have hB : PSs X body (fun E σ H => ∃ (k : Nat) (x : PyData), xs[k]? = some x ∧ tX X.K m (t.set gw x) R (fun g' => Less g' gw) E σ H) := PSs.ex fun k => PSs.ex fun x => PSs.imp (hb k x)
  refine PSs.wk (pss_cons (ps_for hp hc (pi_tup hi) hg hB hs) hr) fun E σ H ⟨o, k1, k2⟩ => ⟨o, fun v d H1 n1 s1 q1 => ?_⟩
  cases s1
  obtain ⟨a, vs, rfl, h1, h2⟩ := dp_tup q1
  refine ⟨a, rfl, ⟨vs, sqT_mono (del_same _ _) h1⟩, ?_⟩
  refine for_tup (K := X.K) (a := a) (xs := vs) (g := t.g X.K) (tb := fun E σ H => ∃ (k : Nat) (x : PyData), xs[k]? = some x ∧ tX X.K m (t.set gw x) R (fun g' => Less g' gw) E σ H) (D := { nx := tX X.K m gw R N E, rt := E.rt, bk := E.bk, ct := E.ct }) (σ := σ) (H := H1)
    (fun k σ' H' => Nxt m H1 H' ∧ Okk X.K m gw σ' H') ⟨(o.step n1).rfl', okk_less (o.step n1) h0⟩ (fun i σ' H' _ ⟨n, _⟩ => sqT_mono (del_same _ _) (sqT_mono n.kp h1)) (fun k v σ' H' hv ⟨n, ok⟩ => ?_) fun σ' H' ⟨n, ok⟩ => ?_
  · obtain ⟨x, hx, qx⟩ := dps_get2 (n.dps h2) hv
    refine tgk_run (K := X.K) (ow := t.ix) (tgk_own t) (hk x (List.mem_of_getElem? hx)) qx fun σ2 _ hg2 => ⟨k, x, hx, ⟨ok.al, ok.w, hg2 _ ok.rp⟩, fun v' d' H2 n2 => k1 v' d' H2 ((n1.trans n).trans n2), fun g' σ3 H2 n2 s2 o2 => ⟨n.trans n2, okk_less o2 s2⟩⟩
  · exact ⟨ok, fun v' d' H2 n2 => k1 v' d' H2 ((n1.trans n).trans n2), fun g' σ3 H2 n2 => k2 g' σ3 H2 ((n1.trans n).trans n2)⟩
/-- for i in range(n) -/
theorem ss_forR {n : Nat} {p : Pos} (j : Nat) {y : Str} {py pos3 : Pos} (hc : X.calm = true) (ha : PD X m g a (Is (.int n))) (hn : n ≤ 1000) (h0 : Less g gw) (hgR : Gl X "range") (hm : X.mg "range" = none)
    (hb : ∀ k : Nat, k < n → PQ X m (gw.set j (.d (.int (k : Nat)))) body R (fun g' => Less g' gw)) (hr : PQ X m gw rest R N) (hp : PassesOwn (model X.prog X.w) X.A X.env X.xe)
    (hN : X.N.Nodup) (hi : X.N[j]? = some y := by rfl) (hx : Loc X.env.scope y := by first | exact Or.inl rfl | exact Or.inr rfl) (hf : X.fn y = true ∨ X.env.scope.names.lookup y = some .local := by first | exact .inl rfl | exact .inr rfl)
    (na : starEach [a] X.env = [(false, eval a X.env)] := by rfl) (hs : ∀ x, foldedSetIterable (.Call (.Name "range" p) [a] [] pos) X.env x = pure x := by intro _; rfl) : PQ X m g (.For (.Name y py) (.Call (.Name "range" p) [a] [] pos) body [] pos3 :: rest) R N := by
  have hB : PSs X body (fun E σ H => ∃ (k : Nat), k < n ∧ tX X.K m (gw.set j (.d (.int (k : Nat)))) R (fun g' => Less g' gw) E σ H) := PSs.ex fun k => PSs.imp (hb k)
  refine PSs.wk (pss_cons (ps_for hp hc (pi_range1 hgR hm (pl_cons ha pl_nil na) na) (pg_name hN hi hx hf) hB hs) hr) fun E σ H ⟨o, k1, k2⟩ => ⟨o, fun v d H1 n1 s1 q1 => ?_⟩
  cases s1
  obtain ⟨u, rfl, q2⟩ := dps1 q1
  cases dp_int q2
  refine ⟨(n : Int), rfl, by omega, by omega, ?_⟩
  have key := for_range (lo := 0) (n := n) (g := gName j) (tb := fun E σ H => ∃ (k : Nat), k < n ∧ tX X.K m (gw.set j (.d (.int (k : Nat)))) R (fun g' => Less g' gw) E σ H) (D := { nx := tX X.K m gw R N E, rt := E.rt, bk := E.bk, ct := E.ct }) (σ := σ) (H := H1)
    (fun k σ' H' => Nxt m H1 H' ∧ Okk X.K m gw σ' H') ⟨(o.step n1).rfl', okk_less (o.step n1) h0⟩ (fun k σ' H' hk ⟨n, ok⟩ => ?_) fun σ' H' ⟨n, ok⟩ => ?_
  · simpa using key
  · refine ⟨k, hk, ok.set j ⟨_, rfl, ?_⟩, fun v' d' H2 n2 => k1 v' d' H2 ((n1.trans n).trans n2), fun g' σ3 H2 n2 s2 o2 => ⟨n.trans n2, okk_less o2 s2⟩⟩
    have e : (0 : Int) + (k : Int) = k := by omega
    rw [e]
    exact .int _
  · exact ⟨ok, fun v' d' H2 n2 => k1 v' d' H2 ((n1.trans n).trans n2), fun g' σ3 H2 n2 => k2 g' σ3 H2 ((n1.trans n).trans n2)⟩
end
section
variable {P : Program} {w : World} {K : PySem.W.Frag} {mg : Str → Option Value} {base : Heap}
/-- a def that gives None by falling through -/
theorem okN {x : Str} {i : Nat} {st : Nat → Stmt} {N ps : List Str} {k : Nat} {R : List PyData → PyData → Prop} (F : Tx K mg i x st) (S : FnScope N ps (defScope (st i))) (hb : ∀ (kV doc pm : Value) (an : Option Addr) (cdv ct : Value) (us : List Value), us.length = ps.length → bindArgs (PySem.W.fnOf x x (defArgs (st i)) (defBody (st i)) (defScope (st i)) .none kV doc pm an cdv ct) ⟨us, []⟩ = pure (ps.zip us))
    (hR : ∀ ds d, R ds d → ds.length = ps.length ∧ d = .none)
    (body : ∀ (f : Addr) (cdv : Value) (A : Around) (outer : List Env) (s : Shared) (H : Hp) (E : XK) (m : Md) (ds : List PyData) (d : PyData), Room k (A.deeper (envOfC x (defScope (st i)) s.heap.objs.size f cdv)) → R ds d →
      PQ (cxOf CX0 P w K mg base N x (defScope (st i)) f cdv A outer s H E).nox m (g0 N ds) (defBody (st i)) Rof (fun _ => True)) : C8.Cal P w K mg base (k + 1) x (spP K R) [] := by
  obtain ⟨f, fd, F1, hm⟩ := F.ex
  refine ⟨f, fd, ps, [], ?_, hm, F1.kp, F1.bindsN hb, .nil⟩
  refine F1.ok S (fun vs H Q E h => ?_) (fun cdv A outer s H vs Q E hr h => ?_)
  · obtain ⟨zs, ds, d, _, h1, h2, _⟩ := h
    rw [dps_len h1, (hR ds d h2).1]
  · obtain ⟨zs, ds, d, al, h1, h2, h3⟩ := h
    have hl := dps_len h1
    refine ⟨_, PSs.nox (body f cdv A outer s H E (mdP zs H) ds d hr h2), ?_⟩
    have o : Okk K (mdP zs H) (g0 N ds) (L2.start N vs) H := ⟨al, fun _ _ _ e => e, by
      show RepS K (del zs H) (ds.map Sl.d ++ List.replicate (N.length - ds.length) .no) (vs.map some ++ List.replicate (N.length - vs.length) none)
      rw [hl]
      exact repS_start _ h1⟩
    exact ⟨o, fun _ _ _ _ z => z.elim, fun g' σ' H' n _ _ => h3 .non H' (mdP_same n) (by rw [(hR ds d h2).2]; exact .non)⟩
/-- a def with one default, which is given -/
structure TxD (K : PySem.W.Frag) (mg : Str → Option Value) (i : Nat) (x : Str) (st : Nat → Stmt) (dv : V) : Prop where
  ex : ∃ f fd, FunD K x x (defArgs (st i)) (defBody (st i)) (defScope (st i)) [dv] [] f fd ∧ mg x = some (.ref f)
theorem okND {x : Str} {i : Nat} {st : Nat → Stmt} {N ps : List Str} {k : Nat} {dv : V} {R : List PyData → PyData → Prop} (F : TxD K mg i x st dv) (S : FnScope N ps (defScope (st i)))
    (hb : ∀ (T : Addr) (kV doc pm : Value) (an : Option Addr) (cdv ct : Value) (us its : List Value), us.length = ps.length → its.length = 1 →
      ∃ k, bindArgs (PySem.W.fnOf x x (defArgs (st i)) (defBody (st i)) (defScope (st i)) (.ref T) kV doc pm an cdv ct) ⟨us, []⟩ = seqItems? (.ref T) >>= k ∧ k (some its.toArray) = pure (ps.zip (us ++ its.drop 1)))
    (hR : ∀ ds d, R ds d → ds.length = ps.length ∧ d = .none)
    (body : ∀ (f : Addr) (cdv : Value) (A : Around) (outer : List Env) (s : Shared) (H : Hp) (E : XK) (m : Md) (ds : List PyData) (d : PyData), Room k (A.deeper (envOfC x (defScope (st i)) s.heap.objs.size f cdv)) → R ds d →
      PQ (cxOf CX0 P w K mg base N x (defScope (st i)) f cdv A outer s H E).nox m (g0 N ds) (defBody (st i)) Rof (fun _ => True)) : C8.Cal P w K mg base (k + 1) x (spP K R) [] := by
  obtain ⟨f, fd, F1, hm⟩ := F.ex
  obtain ⟨ds0, hv, hbd⟩ := F1.binds1 ps.length 1 (by simp) (by simp) hb
  refine ⟨f, fd, ps, ds0, ?_, hm, F1.kp, hbd, hv⟩
  refine F1.ok S (fun vs H Q E h => ?_) (fun cdv A outer s H vs Q E hr h => ?_)
  · obtain ⟨zs, ds, d, _, h1, h2, _⟩ := h
    rw [dps_len h1, (hR ds d h2).1]
  · obtain ⟨zs, ds, d, al, h1, h2, h3⟩ := h
    have hl := dps_len h1
    refine ⟨_, PSs.nox (body f cdv A outer s H E (mdP zs H) ds d hr h2), ?_⟩
    have o : Okk K (mdP zs H) (g0 N ds) (L2.start N vs) H := ⟨al, fun _ _ _ e => e, by
      show RepS K (del zs H) (ds.map Sl.d ++ List.replicate (N.length - ds.length) .no) (vs.map some ++ List.replicate (N.length - vs.length) none)
      rw [hl]
      exact repS_start _ h1⟩
    exact ⟨o, fun _ _ _ _ z => z.elim, fun g' σ' H' n _ _ => h3 .non H' (mdP_same n) (by rw [(hR ds d h2).2]; exact .non)⟩
end
section
variable {P : Program} {w : World} {K : PySem.W.Frag} {mg : Str → Option Value} {base : Heap}
/-- a pure def by its body, with its object in sight -/
theorem okPF {x : Str} {i : Nat} {st : Nat → Stmt} {N ps : List Str} {k : Nat} {R : List PyData → PyData → Prop} (F : Tx K mg i x st) (S : FnScope N ps (defScope (st i)))
    (hR : ∀ ds d, R ds d → ds.length = ps.length)
    (body : ∀ (f : Addr) (cdv : Value) (A : Around) (outer : List Env) (s : Shared) (H : Hp) (E : XK) (m : Md) (ds : List PyData) (d : PyData), Room k (A.deeper (envOfC x (defScope (st i)) s.heap.objs.size f cdv)) → R ds d →
      PQ (cxOf CX0 P w K mg base N x (defScope (st i)) f cdv A outer s H E).nox m (g0 N ds) (defBody (st i)) (Is d) Nof) : ∃ f fd, FunD K x x (defArgs (st i)) (defBody (st i)) (defScope (st i)) [] [] f fd ∧ mg x = some (.ref f) ∧ FnOk P w K mg base CX0 (k + 1) f fd ps (spP K R) := by
  obtain ⟨f, fd, F1, hm⟩ := F.ex
  refine ⟨f, fd, F1, hm, ?_⟩
  refine F1.ok S (fun vs H Q E h => ?_) (fun cdv A outer s H vs Q E hr h => ?_)
  · obtain ⟨zs, ds, d, _, h1, h2, _⟩ := h
    rw [dps_len h1, hR ds d h2]
  · obtain ⟨zs, ds, d, al, h1, h2, h3⟩ := h
    have hl := dps_len h1
    refine ⟨_, PSs.nox (body f cdv A outer s H E (mdP zs H) ds d hr h2), ?_⟩
    have o : Okk K (mdP zs H) (g0 N ds) (L2.start N vs) H := ⟨al, fun _ _ _ e => e, by
      show RepS K (del zs H) (ds.map Sl.d ++ List.replicate (N.length - ds.length) .no) (vs.map some ++ List.replicate (N.length - vs.length) none)
      rw [hl]
      exact repS_start _ h1⟩
    exact ⟨o, fun v d' H' n s q => by cases s; exact h3 v H' (mdP_same n) q, fun _ _ _ _ z => z.elim⟩
theorem calOf {x : Str} {i : Nat} {st : Nat → Stmt} {ps : List Str} {k : Nat} {sp : Sp} (h : ∃ f fd, FunD K x x (defArgs (st i)) (defBody (st i)) (defScope (st i)) [] [] f fd ∧ mg x = some (.ref f) ∧ FnOk P w K mg base CX0 k f fd ps sp)
    (hb : ∀ (kV doc pm : Value) (an : Option Addr) (cdv ct : Value) (us : List Value), us.length = ps.length → bindArgs (PySem.W.fnOf x x (defArgs (st i)) (defBody (st i)) (defScope (st i)) .none kV doc pm an cdv ct) ⟨us, []⟩ = pure (ps.zip us)) : C8.Cal P w K mg base k x sp [] := by
  obtain ⟨f, fd, F1, hm, F⟩ := h
  exact ⟨f, fd, ps, [], F, hm, F1.kp, F1.bindsN hb, .nil⟩
end
end Cv

set_option Elab.async false
set_option linter.all false
set_option maxRecDepth 100000
set_option maxHeartbeats 4000000
namespace Cv
open PySem PySem.Spec PyProof.Rows L2


def R_need_integer : List PyData → PyData → Prop := fun ds d => ∃ (x : PyData) (s : Str) (lo hi : Option Int), ds = [x, .str s, optD lo, optD hi] ∧ wthn x lo hi = true ∧ d = .none
def R_need_number : List PyData → PyData → Prop := fun ds d => ∃ (x : Rat) (s : Str), ds = [num x, .str s] ∧ d = num x
theorem rel_need_number {x : Rat} {s : Str} : R_need_number [num x, .str s] (num x) := ⟨x, s, rfl, rfl⟩
def R_need_reach : List PyData → PyData → Prop := fun ds d => ∃ (x : Rat) (n : Nat), ds = [num x] ∧ 0 ≤ x ∧ Bd x n ∧ n ≤ 7000 ∧ d = num (x + 1)
theorem rel_need_reach {x : Rat} {n : Nat} [b : Bd x n] (h : 0 ≤ x) (hn : n ≤ 7000 := by decide) : R_need_reach [num x] (num (x + 1)) := ⟨x, n, rfl, h, b, hn, rfl⟩
def R_need_side : List PyData → PyData → Prop := fun ds d => ∃ (i : Int) (s : Str), ds = [.int i, .str s] ∧ (i = 1 ∨ i = -1) ∧ d = .none
theorem rel_need_side {i : Int} {s : Str} (h : i = 1 ∨ i = -1) : R_need_side [.int i, .str s] .none := ⟨i, s, rfl, h, rfl⟩
structure NP (h r vx vy : Rat) (s0 s1 : Int) : Prop where
  b1 : Bd h 7
  b2 : Bd r 20
  b3 : Bd vx 38
  b4 : Bd vy 7
  h0 : s0 = 1 ∨ s0 = -1
  h1 : s1 = 1 ∨ s1 = -1
  ho : 0 < ceO h r vx vy
  hl : 0 < ceL (ceP h r vx vy)
def R_nine_places : List PyData → PyData → Prop := fun ds d => ∃ (h r vx vy : Rat) (s0 s1 : Int), ds = [num h, num (r + 1), pt vx vy, .tuple [.int s0, .int s1]] ∧ NP h r vx vy s0 s1 ∧ d = .tuple ((nineL h r vx vy s0 s1).map Pl.d)
theorem rel_nine_places {h r vx vy : Rat} {s0 s1 : Int} (n : NP h r vx vy s0 s1) : R_nine_places [num h, num (r + 1), pt vx vy, .tuple [.int s0, .int s1]] (.tuple ((nineL h r vx vy s0 s1).map Pl.d)) := ⟨h, r, vx, vy, s0, s1, rfl, n, rfl⟩
def R_cell_places : List PyData → PyData → Prop := fun ds d => ∃ (h r vy : Rat) (s0 s1 : Int), ds = [num h, num r, pt h vy, .tuple [.int s0, .int s1]] ∧ NP h r h vy s0 s1 ∧ 0 ≤ r ∧ h * h + vy * vy ≤ r * r ∧ d = .tuple ((nineL h r h vy s0 s1).map Pl.d)
theorem rel_cell_places {h r vy : Rat} {s0 s1 : Int} (n : NP h r h vy s0 s1) (hr : 0 ≤ r) (hh : h * h + vy * vy ≤ r * r) : R_cell_places [num h, num r, pt h vy, .tuple [.int s0, .int s1]] (.tuple ((nineL h r h vy s0 s1).map Pl.d)) := ⟨h, r, vy, s0, s1, rfl, n, hr, hh, rfl⟩
def R_cell_parts : List PyData → PyData → Prop := fun ds d => ∃ (f v : Int) (h r : Rat), ds = [.int f, .int v, num h, num r] ∧ 0 ≤ v ∧ v < f ∧ Bd h 7 ∧ Bd r 20 ∧ 0 ≤ r ∧ d = partsD f v h (r + 1)
theorem rel_cell_parts {f v : Int} {h r : Rat} (h0 : 0 ≤ v) (h1 : v < f) (b1 : Bd h 7) (b2 : Bd r 20) (hr : 0 ≤ r) : R_cell_parts [.int f, .int v, num h, num r] (partsD f v h (r + 1)) := ⟨f, v, h, r, rfl, h0, h1, b1, b2, hr, rfl⟩
/-- the places as the program writes them -/
def plQ (h T x y s ax ay u : Rat) : Pl := plN (h - T + x * s) (0 + y * s) ax ay u
def rtQ (a p : Rat) : Rat := a * p - (1 + p) * (1/2) * ((1 + p) * (1/2))
def nineQ (h T x y p : Rat) (s0 s1 : Int) : List Pl := [plQ h T x y ((p - 1) * (1/2)) (-y * (s0 : Rat)) (x * (s0 : Rat)) (rtQ (25/16) p), plQ h T x y ((p - 1) * (-1/2)) (-y * ((-s0 : Int) : Rat)) (x * ((-s0 : Int) : Rat)) (rtQ (25/16) p), plQ h T x y ((p + 3) * (1/2)) (-y * (s0 : Rat)) (x * (s0 : Rat)) (rtQ (25/16) p), plQ h T x y ((p * 3 + 1) * (1/2)) (-y * ((-s0 : Int) : Rat)) (x * ((-s0 : Int) : Rat)) (rtQ (25/16) p),
  plQ h T x y 0 0 0 0, plQ h T x y (p + 1) 0 0 0, plQ h T x y p 0 0 0]
def nineK (h T x y p : Rat) (s1 : Int) : Pl := plQ h T x y ((p + 1) * (1/2)) (-y * (s1 : Rat)) (x * (s1 : Rat)) (rtQ (289/64) p)
theorem plN_0 (a b : Rat) : plN a b 0 0 0 = ⟨a, b, 0, 0, 0⟩ := by unfold plN; rw [if_pos (.inl rfl)]
theorem nine_eq (h r x y p : Rat) (s0 s1 : Int) : nineQ h (r + 1) x y p s0 s1 ++ [plU h r] ++ [nineK h (r + 1) x y p s1] = nineG h r x y p s0 s1 := by
  have e1 : rtQ (25/16) p = ceL p := by unfold rtQ ceL; grind
  have e2 : rtQ (289/64) p = ceH p := by unfold rtQ ceH; grind
  have c1 : ((1 * s0 : Int) : Rat) = (s0 : Rat) := by rw [Int.one_mul]
  have c2 : ((-1 * s0 : Int) : Rat) = ((-s0 : Int) : Rat) := by rw [Int.neg_one_mul]
  have c3 : (p - 1) * (-1/2) = (1 - p) * (1/2) := by grind
  have c4 : -y = y * -1 := by grind
  unfold nineG nineQ nineK nine1 nine2 plS plW plQ
  rw [e1, e2, c1, c2, c3, c4, plN_0, plN_0, plN_0]
  rfl
theorem sub0 (x : Rat) : x - 0 = x := by grind

local macro_rules | `(tactic| walk_at "nb") => `(tactic| (first | exact Bd.up | exact nd_bd Bd.dn | assumption | (apply mul_bd <;> walk_at "nb") | (apply add_bd <;> walk_at "nb")))
local macro_rules | `(tactic| walk_at "cm") => `(tactic| (apply mulx_ok; (walk_at "nb"); (walk_at "nb"); omega))
local macro_rules | `(tactic| walk_at "sh") => `(tactic| (first | exact num_shaped _ | exact shp_int _ | exact shp_int2 _ _ | exact shp_none))
local macro_rules | `(tactic| walk_at "sh") => `(tactic| (first | exact num_shaped _ | exact pt_shaped _ _ | exact pl_shaped _ | exact oD_shaped _ | exact shp_int _ | exact shp_int2 _ _ | exact shp_none))
section
variable {P : Program} {w : World} {K : PySem.W.Frag} {mg : Str → Option Value} {base : Heap}

theorem sc_need_integer : FnScope ["value", "part", "least", "most"] ["value", "part", "least", "most"] (defScope (top 15)) := ⟨rfl, rfl, rfl, by decide +kernel, rfl, by decide +kernel, by decide +kernel⟩
theorem c_need_integer (T : Txt K mg) : C8.Cal P w K mg base 3 "need_integer" (spP K R_need_integer) [] := by
  refine okN T.t_need_integer sc_need_integer (fun _ _ _ _ _ _ us hl => match us, hl with | [_, _, _, _], _ => rfl) (fun ds d h => ?_) (fun f cdv A outer s H E m ds d hr h => ?_)
  · obtain ⟨x, s', lo, hi, rfl, hw, rfl⟩ := h
    exact ⟨rfl, rfl⟩
  obtain ⟨x, s', lo, hi, rfl, hw, rfl⟩ := h
  exact ss_ifR (pb_not (pb_val (pd_call (c_is_within T) hr (by decide) rfl (pl_cons (pd_var 0) (pl_cons (pd_var 2) (pl_cons (pd_var 3) pl_nil))) (by exact (⟨x, lo, hi, rfl, rfl⟩ : R_is_within _ _))))) (fun e => by rw [hw] at e; cases e) (fun e => ss_nil trivial)
theorem sc_need_number : FnScope ["value", "part"] ["value", "part"] (defScope (top 16)) := ⟨rfl, rfl, rfl, by decide +kernel, rfl, by decide +kernel, by decide +kernel⟩
theorem c_need_number (T : Txt K mg) : C8.Cal P w K mg base 4 "need_number" (spP K R_need_number) [] := by
  refine okP T.t_need_number sc_need_number (fun _ _ _ _ _ _ us hl => match us, hl with | [_, _], _ => rfl) (fun ds d h => ?_) (fun f cdv A outer s H E m ds d hr h => ?_)
  · obtain ⟨x, s', rfl, rfl⟩ := h
    rfl
  obtain ⟨x, s', rfl, rfl⟩ := h
  refine ss_ifR (pb_not (pb_val (pd_call (c_is_number T) hr (by decide) rfl (pl_cons (pd_var 0) pl_nil) (by exact rel_is_number)))) (fun e => by cases e) (fun e => ?_)
  exact ss_ret (pd_call (c_kept T) hr (by decide) rfl (pl_cons (pd_var 0) pl_nil) (by exact rel_kept)) (fun _ z => z)
theorem sc_need_reach : FnScope ["value", "reach"] ["value"] (defScope (top 50)) := ⟨rfl, rfl, rfl, by decide +kernel, rfl, by decide +kernel, by decide +kernel⟩
theorem c_need_reach (T : Txt K mg) : C8.Cal P w K mg base 5 "need_reach" (spP K R_need_reach) [] := by
  refine okP T.t_need_reach sc_need_reach (fun _ _ _ _ _ _ us hl => match us, hl with | [_], _ => rfl) (fun ds d h => ?_) (fun f cdv A outer s H E m ds d hr h => ?_)
  · obtain ⟨x, n, rfl, h0, b1, hn, rfl⟩ := h
    rfl
  obtain ⟨x, n, rfl, h0, b1, hn, rfl⟩ := h
  refine ss_set1 1 (pd_call (c_need_number T) hr (by decide) rfl (pl_cons (pd_var 0) (pl_cons pd_str pl_nil)) (by exact rel_need_number)) ?_ sc_need_reach.nd
  refine ss_ifR (pb_val (pd_call (c_below T) hr (by decide) rfl (pl_cons (pd_var 1) (pl_cons pd_int pl_nil)) (by exact (rel_below (h := by omega))))) (fun e => absurd (of_decide_eq_true e) (Rat.not_lt.mpr h0)) (fun e => ?_)
  exact ss_ret (pd_call (c_added T) hr (by decide) rfl (pl_cons (pd_var 1) (pl_cons pd_int pl_nil)) (by exact (rel_added (h := by omega)))) (fun _ z => z)
theorem sc_need_side : FnScope ["value", "part"] ["value", "part"] (defScope (top 42)) := ⟨rfl, rfl, rfl, by decide +kernel, rfl, by decide +kernel, by decide +kernel⟩
theorem c_need_side (T : Txt K mg) (TD : TxD K mg 42 "need_side" top (.str "side")) : C8.Cal P w K mg base 3 "need_side" (spP K R_need_side) [] := by
  refine okND TD sc_need_side (fun _ _ _ _ _ _ _ us its hl hl2 => match us, its, hl, hl2 with | [_, _], [_], _, _ => ⟨_, rfl, rfl⟩) (fun ds d h => ?_) (fun f cdv A outer s H E m ds d hr h => ?_)
  · obtain ⟨i, s', rfl, hi, rfl⟩ := h
    exact ⟨rfl, rfl⟩
  obtain ⟨i, s', rfl, hi, rfl⟩ := h
  exact ss_ifR (pb_w (pbw_or (pb_not (pb_val (pd_call (c_is_within T) hr (by decide) rfl (pl_cons (pd_var 0) (pl_cons (pd_neg pd_int) (pl_cons pd_int pl_nil))) (by exact (⟨.int i, some (-1), some 1, rfl, rfl⟩ : R_is_within _ _))))) (fun _ => (pbw_or1 (pb_eq hr.units (pd_var 0) pd_int (by walk_at "sh") (by walk_at "sh")))))) (fun e => by rcases hi with rfl | rfl <;> simp [wthn, PyData.eqv] at e) (fun e => ss_nil trivial)
theorem sc_nine_places : FnScope ["h", "far", "v", "sides", "way", "part", "rows", "found", "zero", "under", "low", "key", "up", "down", "aside", "more", "less", "share", "row", "root"] ["h", "far", "v", "sides"] (defScope (top 49)) := ⟨rfl, rfl, rfl, by decide +kernel, rfl, by decide +kernel, by decide +kernel⟩
theorem c_nine_places (T : Txt K mg) : C8.Cal P w K mg base 7 "nine_places" (spP K R_nine_places) [] := by
  refine okP T.t_nine_places sc_nine_places (fun _ _ _ _ _ _ us hl => match us, hl with | [_, _, _, _], _ => rfl) (fun ds d h => ?_) (fun f cdv A outer s H E m ds d hr h => ?_)
  · obtain ⟨h, r, vx, vy, s0, s1, rfl, ⟨b1, b2, b3, b4, h0, h1, hO, hL⟩, rfl⟩ := h
    rfl
  obtain ⟨h, r, vx, vy, s0, s1, rfl, ⟨b1, b2, b3, b4, h0, h1, hO, hL⟩, rfl⟩ := h
  obtain ⟨c1, _, _, _, _⟩ := bd_sgn h0
  obtain ⟨d1, _, _, _, _⟩ := bd_sgn h1
  have n1 : Bd ((-s0 : Int) : Rat) 1 := by
    rw [Rat.intCast_neg]
    exact bdNeg
  have hP := ceP_nn hO
  have hH := ceH_nn hP hL
  have eY : ceY vy = vy := sub0 vy
  have eO : (vx - (h - (r + 1))) * (vx - (h - (r + 1))) + vy * vy = ceO h r vx vy := by unfold ceO; rw [sub0]
  have hO2 : 0 < (vx - (h - (r + 1))) * (vx - (h - (r + 1))) + vy * vy := by rw [eO]; exact hO
  have eP : (r + 1) * (r + 1) / ((vx - (h - (r + 1))) * (vx - (h - (r + 1))) + vy * vy) = ceP h r vx vy := by unfold ceP; rw [eO]
  unfold nineL
  rw [eY]
  refine ss_asg (pd_call (c_pins_of T) hr (by decide) rfl (pl_cons (pd_var 0) (pl_cons (pd_var 1) pl_nil)) (by exact rel_pins_of)) (g_tup rfl (g_cons (g_name 8 sc_nine_places.nd) (g_cons (g_name 9 sc_nine_places.nd) g_nil))) ?_
  refine ss_set1 4 (pd_tup (pl_cons (pd_call (c_less_by T) hr (by decide) rfl (pl_cons (pd_ixT (pd_var 2) pd_int) (pl_cons (pd_ixT (pd_var 8) pd_int) pl_nil)) (by exact rel_less_by)) (pl_cons (pd_ixT (pd_var 2) pd_int) pl_nil))) ?_ sc_nine_places.nd
  refine ss_set1 5 (pd_call (c_part_by T) hr (by decide) rfl (pl_cons (pd_call (c_square T) hr (by decide) rfl (pl_cons (pd_var 1) pl_nil) (by exact rel_square)) (pl_cons (pd_call (c_square_of T) hr (by decide) rfl (pl_cons (pd_var 4) pl_nil) (by exact rel_square_of)) pl_nil)) (by exact (rel_part_by hO2))) ?_ sc_nine_places.nd
  rw [eP]
  have bP : Bd (ceP h r vx vy) 201 := by
    rw [← eP]
    exact bdLe (inferInstance : Bd ((r + 1) * (r + 1) / ((vx - (h - (r + 1))) * (vx - (h - (r + 1))) + vy * vy)) _) (by decide)
  have bX : Bd (ceX h r vx) 69 := (inferInstance : Bd (vx - (h - (r + 1))) 69)
  change PQ _ _ [.d (num h), .d (num (r + 1)), .d (pt vx vy), .d (.tuple [.int s0, .int s1]), .d (.tuple [num (ceX h r vx), num vy]), .d (num (ceP h r vx vy)), .no, .no, .d (pt (h - (r + 1)) 0), .d (pt (h - (r + 1) * (1/2)) 0), .no, .no, .no, .no, .no, .no, .no, .no, .no, .no] _ _ _
  generalize ceP h r vx vy = p at *
  generalize ceX h r vx = x at *
  clear hO hO2 eO eP
  refine ss_par 10 11 rfl sc_nine_places.nd (pl_cons (pd_call (c_root_over T) hr (by decide) rfl (pl_cons (pd_tup (pl_cons pd_int (pl_cons pd_int pl_nil))) (pl_cons (pd_var 5) pl_nil)) (by exact rel_root_over)) (pl_cons (pd_call (c_root_over T) hr (by decide) rfl (pl_cons (pd_tup (pl_cons pd_int (pl_cons pd_int pl_nil))) (pl_cons (pd_var 5) pl_nil)) (by exact rel_root_over)) pl_nil)) ?_
  refine ss_par3 12 13 14 rfl sc_nine_places.nd (pl_cons (pd_call (c_to_left T) hr (by decide) rfl (pl_cons (pd_var 4) (pl_cons (pd_ixT (pd_var 3) pd_int) pl_nil)) (by exact rel_to_left)) (pl_cons (pd_call (c_to_left T) hr (by decide) rfl (pl_cons (pd_var 4) (pl_cons (pd_neg (pd_ixT (pd_var 3) pd_int)) pl_nil)) (by exact rel_to_left)) (pl_cons (pd_call (c_to_left T) hr (by decide) rfl (pl_cons (pd_var 4) (pl_cons (pd_ixT (pd_var 3) pd_int) pl_nil)) (by exact rel_to_left)) pl_nil))) ?_
  refine ss_par 15 16 rfl sc_nine_places.nd (pl_cons (pd_call (c_added T) hr (by decide) rfl (pl_cons (pd_var 5) (pl_cons pd_int pl_nil)) (by exact rel_added)) (pl_cons (pd_call (c_less_by T) hr (by decide) rfl (pl_cons (pd_var 5) (pl_cons pd_int pl_nil)) (by exact rel_less_by)) pl_nil)) ?_
  have bL : Bd (rtQ (25/16) p) 617 := (inferInstance : Bd (25/16 * p - (1 + p) * (1/2) * ((1 + p) * (1/2))) 617)
  have bK : Bd (rtQ (289/64) p) 621 := (inferInstance : Bd (289/64 * p - (1 + p) * (1/2) * ((1 + p) * (1/2))) 621)
  have e1 : rtQ (25/16) p = ceL p := by unfold rtQ ceL; grind
  have e2 : rtQ (289/64) p = ceH p := by unfold rtQ ceH; grind
  have hL0 : 0 ≤ rtQ (25/16) p := by rw [e1]; exact Rat.le_of_lt hL
  have hH0 : 0 ≤ rtQ (289/64) p := by rw [e2]; exact hH
  clear e1 e2 hL hH
  change PQ _ _ [.d (num h), .d (num (r + 1)), .d (pt vx vy), .d (.tuple [.int s0, .int s1]), .d (.tuple [num x, num vy]), .d (num p), .no, .no, .d (pt (h - (r + 1)) 0), .d (pt (h - (r + 1) * (1/2)) 0), .d (num (rtQ (25/16) p)), .d (num (rtQ (289/64) p)), .d (pt (-vy * (s0 : Rat)) (x * (s0 : Rat))), .d (pt (-vy * ((-s0 : Int) : Rat)) (x * ((-s0 : Int) : Rat))), .d (pt (-vy * (s1 : Rat)) (x * (s1 : Rat))), .d (num (p + 1)), .d (num (p - 1)), .no, .no, .no] _ _ _
  refine ss_hideL 6 (pl_cons (pd_tup (pl_cons (pd_call (c_product T) hr (by decide) rfl (pl_cons (pd_var 16) (pl_cons (pd_glob rfl T.k_HALF) pl_nil)) (by exact rel_product)) (pl_cons (pd_var 12) (pl_cons (pd_var 10) pl_nil)))) (pl_cons (pd_tup (pl_cons (pd_call (c_product T) hr (by decide) rfl (pl_cons (pd_var 16) (pl_cons (pd_tup (pl_cons (pd_neg pd_int) (pl_cons pd_int pl_nil))) pl_nil)) (by exact rel_product)) (pl_cons (pd_var 13) (pl_cons (pd_var 10) pl_nil)))) pl_nil)) (Nat.le_of_ble_eq_true rfl) (fun D hD => ?_) sc_nine_places.nd
  refine o_step (ext_one 6 (pl_cons (pd_tup (pl_cons (pd_call (c_product T) hr (by decide) rfl (pl_cons (pd_call (c_added T) hr (by decide) rfl (pl_cons (pd_var 5) (pl_cons pd_int pl_nil)) (by exact rel_added)) (pl_cons (pd_glob rfl T.k_HALF) pl_nil)) (by exact rel_product)) (pl_cons (pd_var 12) (pl_cons (pd_var 10) pl_nil)))) (pl_cons (pd_tup (pl_cons (pd_call (c_product T) hr (by decide) rfl (pl_cons (pd_call (c_added T) hr (by decide) rfl (pl_cons (pd_call (c_product T) hr (by decide) rfl (pl_cons (pd_var 5) (pl_cons pd_int pl_nil)) (by exact rel_product)) (pl_cons pd_int pl_nil)) (by exact rel_added)) (pl_cons (pd_glob rfl T.k_HALF) pl_nil)) (by exact rel_product)) (pl_cons (pd_var 13) (pl_cons (pd_var 10) pl_nil)))) pl_nil)) (Nat.le_of_ble_eq_true rfl) (Nat.le_of_ble_eq_true rfl)) ?_
  refine o_step (ext_one 6 (pl_cons (pd_tup (pl_cons pd_int (pl_cons (pd_tup (pl_cons pd_int (pl_cons pd_int pl_nil))) (pl_cons pd_int pl_nil)))) (pl_cons (pd_tup (pl_cons (pd_var 15) (pl_cons (pd_tup (pl_cons pd_int (pl_cons pd_int pl_nil))) (pl_cons pd_int pl_nil)))) (pl_cons (pd_tup (pl_cons (pd_var 5) (pl_cons (pd_tup (pl_cons pd_int (pl_cons pd_int pl_nil))) (pl_cons pd_int pl_nil)))) pl_nil))) (Nat.le_of_ble_eq_true rfl) (Nat.le_of_ble_eq_true rfl)) ?_
  refine o_show 6 hD ?_
  change PQ _ _ [.d (num h), .d (num (r + 1)), .d (pt vx vy), .d (.tuple [.int s0, .int s1]), .d (.tuple [num x, num vy]), .d (num p), .d (.list [.tuple [num ((p - 1) * (1/2)), pt (-vy * (s0 : Rat)) (x * (s0 : Rat)), num (rtQ (25/16) p)], .tuple [num ((p - 1) * (-1/2)), pt (-vy * ((-s0 : Int) : Rat)) (x * ((-s0 : Int) : Rat)), num (rtQ (25/16) p)], .tuple [num ((p + 3) * (1/2)), pt (-vy * (s0 : Rat)) (x * (s0 : Rat)), num (rtQ (25/16) p)], .tuple [num ((p * 3 + 1) * (1/2)), pt (-vy * ((-s0 : Int) : Rat)) (x * ((-s0 : Int) : Rat)), num (rtQ (25/16) p)], .tuple [.int 0, .tuple [.int 0, .int 0], .int 0], .tuple [num (p + 1), .tuple [.int 0, .int 0], .int 0], .tuple [num p, .tuple [.int 0, .int 0], .int 0]]), .no, .d (pt (h - (r + 1)) 0), .d (pt (h - (r + 1) * (1/2)) 0), .d (num (rtQ (25/16) p)), .d (num (rtQ (289/64) p)), .d (pt (-vy * (s0 : Rat)) (x * (s0 : Rat))), .d (pt (-vy * ((-s0 : Int) : Rat)) (x * ((-s0 : Int) : Rat))), .d (pt (-vy * (s1 : Rat)) (x * (s1 : Rat))), .d (num (p + 1)), .d (num (p - 1)), .no, .no, .no] _ _ _
  refine ss_setLc 7 (plc_L (own := [("share", 17), ("row", 18), ("root", 19)]) (ds := [.tuple [num ((p - 1) * (1/2)), pt (-vy * (s0 : Rat)) (x * (s0 : Rat)), num (rtQ (25/16) p)], .tuple [num ((p - 1) * (-1/2)), pt (-vy * ((-s0 : Int) : Rat)) (x * ((-s0 : Int) : Rat)), num (rtQ (25/16) p)], .tuple [num ((p + 3) * (1/2)), pt (-vy * (s0 : Rat)) (x * (s0 : Rat)), num (rtQ (25/16) p)], .tuple [num ((p * 3 + 1) * (1/2)), pt (-vy * ((-s0 : Int) : Rat)) (x * ((-s0 : Int) : Rat)), num (rtQ (25/16) p)], .tuple [.int 0, .tuple [.int 0, .int 0], .int 0], .tuple [num (p + 1), .tuple [.int 0, .int 0], .int 0], .tuple [num p, .tuple [.int 0, .int 0], .int 0]]) (rs := ((nineQ h (r + 1) x vy p s0 s1).map Pl.d)) (.tup [17, 18, 19]) rfl sc_nine_places.nd (pd_var 6) (blkOk_by (N := ["h", "far", "v", "sides", "way", "part", "rows", "found", "zero", "under", "low", "key", "up", "down", "aside", "more", "less", "share", "row", "root"]) (sc := defScope (top 49)) (by decide +kernel)) (show ∀ i ∈ [17, 18, 19], i ∈ [17, 18, 19] from fun _ z => z) (tgk_all rfl) (Nat.le_of_ble_eq_true rfl) rfl (fun _ _ _ _ _ => (pg_tup rfl (pgs_cons (pg_name sc_nine_places.nd rfl (Or.inl rfl)) (pgs_cons (pg_name sc_nine_places.nd rfl (Or.inl rfl)) (pgs_cons (pg_name sc_nine_places.nd rfl (Or.inl rfl)) pgs_nil))))) (fun s H C cl fp i x' y' D acc hx hy => ?_)) ?_
  · match i, hx, hy with
    | 0, hx, hy => cases hx; cases hy; exact (pd_call (c_place_of T) hr (by decide) rfl (pl_cons (pd_call (c_moved T) hr (by decide) rfl (pl_cons (pd_var 8) (pl_cons (pd_call (c_scaled T) hr (by decide) rfl (pl_cons (pd_var 4) (pl_cons (pd_var 17) pl_nil)) (by exact rel_scaled)) pl_nil)) (by exact rel_moved)) (pl_cons (pd_var 18) (pl_cons (pd_var 19) pl_nil))) (by exact (rel_place_of (plB_of 307 71 621 hL0))))
    | 1, hx, hy => cases hx; cases hy; exact (pd_call (c_place_of T) hr (by decide) rfl (pl_cons (pd_call (c_moved T) hr (by decide) rfl (pl_cons (pd_var 8) (pl_cons (pd_call (c_scaled T) hr (by decide) rfl (pl_cons (pd_var 4) (pl_cons (pd_var 17) pl_nil)) (by exact rel_scaled)) pl_nil)) (by exact rel_moved)) (pl_cons (pd_var 18) (pl_cons (pd_var 19) pl_nil))) (by exact (rel_place_of (plB_of 307 71 621 hL0))))
    | 2, hx, hy => cases hx; cases hy; exact (pd_call (c_place_of T) hr (by decide) rfl (pl_cons (pd_call (c_moved T) hr (by decide) rfl (pl_cons (pd_var 8) (pl_cons (pd_call (c_scaled T) hr (by decide) rfl (pl_cons (pd_var 4) (pl_cons (pd_var 17) pl_nil)) (by exact rel_scaled)) pl_nil)) (by exact rel_moved)) (pl_cons (pd_var 18) (pl_cons (pd_var 19) pl_nil))) (by exact (rel_place_of (plB_of 307 71 621 hL0))))
    | 3, hx, hy => cases hx; cases hy; exact (pd_call (c_place_of T) hr (by decide) rfl (pl_cons (pd_call (c_moved T) hr (by decide) rfl (pl_cons (pd_var 8) (pl_cons (pd_call (c_scaled T) hr (by decide) rfl (pl_cons (pd_var 4) (pl_cons (pd_var 17) pl_nil)) (by exact rel_scaled)) pl_nil)) (by exact rel_moved)) (pl_cons (pd_var 18) (pl_cons (pd_var 19) pl_nil))) (by exact (rel_place_of (plB_of 307 71 621 hL0))))
    | 4, hx, hy => cases hx; cases hy; exact (pd_call (c_place_of T) hr (by decide) rfl (pl_cons (pd_call (c_moved T) hr (by decide) rfl (pl_cons (pd_var 8) (pl_cons (pd_call (c_scaled T) hr (by decide) rfl (pl_cons (pd_var 4) (pl_cons (pd_var 17) pl_nil)) (by exact rel_scaled)) pl_nil)) (by exact rel_moved)) (pl_cons (pd_var 18) (pl_cons (pd_var 19) pl_nil))) (by exact (rel_place_of (plB_of 307 71 621 Rat.le_refl))))
    | 5, hx, hy => cases hx; cases hy; exact (pd_call (c_place_of T) hr (by decide) rfl (pl_cons (pd_call (c_moved T) hr (by decide) rfl (pl_cons (pd_var 8) (pl_cons (pd_call (c_scaled T) hr (by decide) rfl (pl_cons (pd_var 4) (pl_cons (pd_var 17) pl_nil)) (by exact rel_scaled)) pl_nil)) (by exact rel_moved)) (pl_cons (pd_var 18) (pl_cons (pd_var 19) pl_nil))) (by exact (rel_place_of (plB_of 307 71 621 Rat.le_refl))))
    | 6, hx, hy => cases hx; cases hy; exact (pd_call (c_place_of T) hr (by decide) rfl (pl_cons (pd_call (c_moved T) hr (by decide) rfl (pl_cons (pd_var 8) (pl_cons (pd_call (c_scaled T) hr (by decide) rfl (pl_cons (pd_var 4) (pl_cons (pd_var 17) pl_nil)) (by exact rel_scaled)) pl_nil)) (by exact rel_moved)) (pl_cons (pd_var 18) (pl_cons (pd_var 19) pl_nil))) (by exact (rel_place_of (plB_of 307 71 621 Rat.le_refl))))
    | _ + 7, hx, hy => cases hx
  refine ss_ret (pd_tup (pl_starL (pd_var 7) (pl_cons (pd_tup (pl_cons (pd_var 9) (pl_cons (pd_tup (pl_cons pd_int (pl_cons pd_int pl_nil))) (pl_cons pd_int pl_nil)))) (pl_cons (pd_call (c_place_of T) hr (by decide) rfl (pl_cons (pd_call (c_moved T) hr (by decide) rfl (pl_cons (pd_var 8) (pl_cons (pd_call (c_scaled T) hr (by decide) rfl (pl_cons (pd_var 4) (pl_cons (pd_call (c_product T) hr (by decide) rfl (pl_cons (pd_var 15) (pl_cons (pd_glob rfl T.k_HALF) pl_nil)) (by exact rel_product)) pl_nil)) (by exact rel_scaled)) pl_nil)) (by exact rel_moved)) (pl_cons (pd_var 14) (pl_cons (pd_var 11) pl_nil))) (by exact (rel_place_of (plB_of 307 71 621 hH0)))) pl_nil)))) (fun _ z => z.trans ?_)
  rw [← nine_eq]
  unfold plU Pl.d
  simp only [pt, num0, List.map_append, List.map_cons, List.map_nil, List.append_assoc]
  rfl
theorem sc_cell_places : FnScope ["h", "reach", "v", "sides", "line", "far", "end", "side"] ["h", "reach", "v", "sides"] (defScope (top 51)) := ⟨rfl, rfl, rfl, by decide +kernel, rfl, by decide +kernel, by decide +kernel⟩
theorem c_cell_places (T : Txt K mg) (TD : TxD K mg 42 "need_side" top (.str "side")) : C8.Cal P w K mg base 8 "cell_places" (spP K R_cell_places) [] := by
  refine okP T.t_cell_places sc_cell_places (fun _ _ _ _ _ _ us hl => match us, hl with | [_, _, _, _], _ => rfl) (fun ds d h => ?_) (fun f cdv A outer s H E m ds d hr h => ?_)
  · obtain ⟨h, r, vy, s0, s1, rfl, hN, h0, hh, rfl⟩ := h
    rfl
  obtain ⟨h, r, vy, s0, s1, rfl, hN, h0, hh, rfl⟩ := h
  have bb1 := hN.b1
  have bb2 := hN.b2
  have bb4 := hN.b4
  refine ss_set1 4 (pd_call (c_need_number T) hr (by decide) rfl (pl_cons (pd_var 0) (pl_cons pd_str pl_nil)) (by exact rel_need_number)) ?_ sc_cell_places.nd
  refine ss_set1 5 (pd_call (c_need_reach T) hr (by decide) rfl (pl_cons (pd_var 1) pl_nil) (by exact (rel_need_reach h0))) ?_ sc_cell_places.nd
  refine ss_set1 6 (pd_call (c_need_point T) hr (by decide) rfl (pl_cons (pd_var 2) (pl_cons pd_str pl_nil)) (by exact rel_need_point)) ?_ sc_cell_places.nd
  refine ss_ifR (pb_w (pbw_or (pb_not (pb_val (pd_call (c_is_list T) hr (by decide) rfl (pl_cons (pd_var 3) pl_nil) (by exact rel_is_list)))) (fun _ => (pbw_or1 (pb_ne hr.units (pd_lenT (pd_var 3) rfl T.f_len) pd_int (by walk_at "sh") (by walk_at "sh")))))) (fun e => by simp [isLs, rList, rTuple, PyData.eqv] at e) (fun e => ?_)
  change PQ _ _ [.d (num h), .d (num r), .d (pt h vy), .d (.tuple [.int s0, .int s1]), .d (num h), .d (num (r + 1)), .d (pt h vy), .no] _ _ _
  refine ss_forT (xs := [.int s0, .int s1]) (gw := [.d (num h), .d (num r), .d (pt h vy), .d (.tuple [.int s0, .int s1]), .d (num h), .d (num (r + 1)), .d (pt h vy), .no]) (.one 7) rfl (pd_var 3) (fun _ _ => trivial) (less_of_fgt (fgt_refl _)) (pg_name sc_cell_places.nd rfl (Or.inl rfl)) (fun k x hx => ?_) ?_ PassesOwn.never
  · match k, hx with
    | 0, hx => cases hx; exact ss_expr (pd_call (c_need_side T TD) hr (by decide) rfl (pl_cons (pd_var 7) (pl_cons pd_str pl_nil)) (by exact (rel_need_side hN.h0))) (ss_nil (less_of_fgt (by repeat (first | exact Fgt.nil | refine Fgt.same ?_ | refine Fgt.no ?_))))
    | 1, hx => cases hx; exact ss_expr (pd_call (c_need_side T TD) hr (by decide) rfl (pl_cons (pd_var 7) (pl_cons pd_str pl_nil)) (by exact (rel_need_side hN.h1))) (ss_nil (less_of_fgt (by repeat (first | exact Fgt.nil | refine Fgt.same ?_ | refine Fgt.no ?_))))
    | _ + 2, hx => cases hx
  refine ss_ifR (pb_ne hr.units (pd_ixT (pd_var 6) pd_int) (pd_var 4) (by walk_at "sh") (by walk_at "sh")) (fun e => by rw [num_eqv, decide_eq_true rfl] at e; cases e) (fun e => ?_)
  refine ss_ifR (pb_val (pd_call (c_below T) hr (by decide) rfl (pl_cons (pd_call (c_square T) hr (by decide) rfl (pl_cons (pd_call (c_less_by T) hr (by decide) rfl (pl_cons (pd_var 5) (pl_cons pd_int pl_nil)) (by exact rel_less_by)) pl_nil) (by exact rel_square)) (pl_cons (pd_call (c_square_of T) hr (by decide) rfl (pl_cons (pd_var 6) pl_nil) (by exact rel_square_of)) pl_nil)) (by exact rel_below))) (fun e => absurd (of_decide_eq_true e) (by
    rw [show r + 1 - 1 = r by grind]
    exact Rat.not_lt.mpr hh)) (fun e => ?_)
  exact ss_ret (pd_call (c_nine_places T) hr (by decide) rfl (pl_cons (pd_var 4) (pl_cons (pd_var 5) (pl_cons (pd_var 6) (pl_cons (pd_var 3) pl_nil)))) (by exact (rel_nine_places hN))) (fun _ z => z)
theorem sc_cell_parts : FnScope ["first", "v", "h", "reach", "line", "far", "bars", "beads", "zero", "under", "short", "long", "great", "small", "one", "two", "three", "four", "start", "far_mid", "gone", "pin", "key", "part"] ["first", "v", "h", "reach"] (defScope (top 52)) := ⟨rfl, rfl, rfl, by decide +kernel, rfl, by decide +kernel, by decide +kernel⟩
theorem f_cell_parts (T : Txt K mg) : ∃ f fd, FunD K "cell_parts" "cell_parts" (defArgs (top 52)) (defBody (top 52)) (defScope (top 52)) [] [] f fd ∧ mg "cell_parts" = some (.ref f) ∧ FnOk P w K mg base CX0 6 f fd ["first", "v", "h", "reach"] (spP K R_cell_parts) := by
  refine okPF T.t_cell_parts sc_cell_parts (fun ds d h => ?_) (fun f cdv A outer s H E m ds d hr h => ?_)
  · obtain ⟨f', v', h, r, rfl, h0, h1, b1, b2, hr0, rfl⟩ := h
    rfl
  obtain ⟨f', v', h, r, rfl, h0, h1, b1, b2, hr0, rfl⟩ := h
  refine ss_expr (pd_call (c_need_integer T) hr (by decide) rfl (pl_cons (pd_var 0) (pl_cons pd_str (pl_cons pd_int (pl_cons pd_non pl_nil)))) (by exact (⟨.int f', _, some 1, none, rfl, by simp [wthn]; omega, rfl⟩ : R_need_integer _ _))) ?_
  refine ss_expr (pd_call (c_need_integer T) hr (by decide) rfl (pl_cons (pd_var 1) (pl_cons pd_str (pl_cons pd_int (pl_cons (pd_sub (pd_var 0) pd_int) pl_nil)))) (by exact (⟨.int v', _, some 0, some (f' - 1), rfl, by simp [wthn]; omega, rfl⟩ : R_need_integer _ _))) ?_
  refine ss_set1 4 (pd_call (c_need_number T) hr (by decide) rfl (pl_cons (pd_var 2) (pl_cons pd_str pl_nil)) (by exact rel_need_number)) ?_ sc_cell_parts.nd
  refine ss_set1 5 (pd_call (c_need_reach T) hr (by decide) rfl (pl_cons (pd_var 3) pl_nil) (by exact (rel_need_reach hr0))) ?_ sc_cell_parts.nd
  refine ss_asg (pd_call (c_pins_of T) hr (by decide) rfl (pl_cons (pd_var 4) (pl_cons (pd_var 5) pl_nil)) (by exact rel_pins_of)) (g_tup rfl (g_cons (g_name 8 sc_cell_parts.nd) (g_cons (g_name 9 sc_cell_parts.nd) g_nil))) ?_
  refine ss_asg (PLc.pd <| plc_T (own := [("part", 23)]) (ds := [.tuple [.int 3, .int 2], .tuple [.int 5, .int 2], .tuple [.int 17, .int 8], .tuple [.int 15, .int 8]]) (rs := [num ((r + 1) * (3/2)), num ((r + 1) * (5/2)), num ((r + 1) * (17/8)), num ((r + 1) * (15/8))]) (.one 23) rfl sc_cell_parts.nd (pd_le (pd_tup (pl_cons (pd_glob rfl T.k_SHORT) (pl_cons (pd_glob rfl T.k_LONG) (pl_starT (pd_glob rfl T.k_LOCK) pl_nil)))) (fun _ z => z)) (blkOk_by (N := ["first", "v", "h", "reach", "line", "far", "bars", "beads", "zero", "under", "short", "long", "great", "small", "one", "two", "three", "four", "start", "far_mid", "gone", "pin", "key", "part"]) (sc := defScope (top 52)) (by decide +kernel)) (show 23 ∈ [23] by decide) (fun _ _ => trivial) (Nat.le_of_ble_eq_true rfl) rfl (fun _ _ _ _ _ => (pg_name sc_cell_parts.nd rfl (Or.inl rfl))) (fun s H C cl fp i x' y' D acc hx hy => ?_)) (g_lst rfl (g_cons (g_name 10 sc_cell_parts.nd) (g_cons (g_name 11 sc_cell_parts.nd) (g_cons (g_name 12 sc_cell_parts.nd) (g_cons (g_name 13 sc_cell_parts.nd) g_nil))))) ?_
  · match i, hx, hy with
    | 0, hx, hy => cases hx; cases hy; exact (pd_call (c_product T) hr (by decide) rfl (pl_cons (pd_var 5) (pl_cons (pd_var 23) pl_nil)) (by exact rel_product))
    | 1, hx, hy => cases hx; cases hy; exact (pd_call (c_product T) hr (by decide) rfl (pl_cons (pd_var 5) (pl_cons (pd_var 23) pl_nil)) (by exact rel_product))
    | 2, hx, hy => cases hx; cases hy; exact (pd_call (c_product T) hr (by decide) rfl (pl_cons (pd_var 5) (pl_cons (pd_var 23) pl_nil)) (by exact rel_product))
    | 3, hx, hy => cases hx; cases hy; exact (pd_call (c_product T) hr (by decide) rfl (pl_cons (pd_var 5) (pl_cons (pd_var 23) pl_nil)) (by exact rel_product))
    | _ + 4, hx, hy => cases hx
  change PQ _ _ [.d (.int f'), .d (.int v'), .d (num h), .d (num r), .d (num h), .d (num (r + 1)), .no, .no, .d (pt (h - (r + 1)) 0), .d (pt (h - (r + 1) * (1/2)) 0), .d (num ((r + 1) * (3/2))), .d (num ((r + 1) * (5/2))), .d (num ((r + 1) * (17/8))), .d (num ((r + 1) * (15/8))), .no, .no, .no, .no, .no, .no, .no, .no, .no, .no] _ _ _
  refine ss_asg (pd_tup (pl_cons (pd_var 0) (pl_cons (pd_add (pd_var 0) pd_int) (pl_cons (pd_add (pd_var 0) pd_int) (pl_cons (pd_add (pd_var 0) pd_int) pl_nil))))) (g_tup rfl (g_cons (g_name 14 sc_cell_parts.nd) (g_cons (g_name 15 sc_cell_parts.nd) (g_cons (g_name 16 sc_cell_parts.nd) (g_cons (g_name 17 sc_cell_parts.nd) g_nil))))) ?_
  refine ss_asg (pd_tup (pl_cons (pd_add (pd_var 0) pd_int) (pl_cons (pd_add (pd_var 0) pd_int) (pl_cons (pd_add (pd_var 0) pd_int) (pl_cons (pd_add (pd_var 0) pd_int) (pl_cons (pd_add (pd_var 0) pd_int) pl_nil)))))) (g_tup rfl (g_cons (g_name 18 sc_cell_parts.nd) (g_cons (g_name 19 sc_cell_parts.nd) (g_cons (g_name 20 sc_cell_parts.nd) (g_cons (g_name 21 sc_cell_parts.nd) (g_cons (g_name 22 sc_cell_parts.nd) g_nil)))))) ?_
  change PQ _ _ [.d (.int f'), .d (.int v'), .d (num h), .d (num r), .d (num h), .d (num (r + 1)), .no, .no, .d (pt (h - (r + 1)) 0), .d (pt (h - (r + 1) * (1/2)) 0), .d (num ((r + 1) * (3/2))), .d (num ((r + 1) * (5/2))), .d (num ((r + 1) * (17/8))), .d (num ((r + 1) * (15/8))), .d (.int f'), .d (.int (f' + 1)), .d (.int (f' + 2)), .d (.int (f' + 3)), .d (.int (f' + 4)), .d (.int (f' + 5)), .d (.int (f' + 6)), .d (.int (f' + 7)), .d (.int (f' + 8)), .no] _ _ _
  refine ss_hideL 6 (pl_cons (pd_tup (pl_cons (pd_var 1) (pl_cons (pd_var 22) (pl_cons (pd_var 13) pl_nil)))) (pl_cons (pd_tup (pl_cons (pd_var 14) (pl_cons (pd_var 15) (pl_cons (pd_var 10) pl_nil)))) (pl_cons (pd_tup (pl_cons (pd_var 14) (pl_cons (pd_var 17) (pl_cons (pd_var 11) pl_nil)))) (pl_cons (pd_tup (pl_cons (pd_var 15) (pl_cons (pd_var 16) (pl_cons (pd_var 11) pl_nil)))) (pl_cons (pd_tup (pl_cons (pd_var 16) (pl_cons (pd_var 17) (pl_cons (pd_var 10) pl_nil)))) pl_nil))))) (Nat.le_of_ble_eq_true rfl) (fun D hD => ?_) sc_cell_parts.nd
  refine o_step (ext_one 6 (pl_cons (pd_tup (pl_cons (pd_var 18) (pl_cons (pd_var 22) (pl_cons (pd_var 12) pl_nil)))) (pl_cons (pd_tup (pl_cons (pd_var 19) (pl_cons (pd_var 22) (pl_cons (pd_var 12) pl_nil)))) (pl_cons (pd_tup (pl_cons (pd_var 20) (pl_cons (pd_var 21) (pl_cons (pd_call (c_product T) hr (by decide) rfl (pl_cons (pd_var 5) (pl_cons (pd_glob rfl T.k_HALF) pl_nil)) (by exact rel_product)) pl_nil)))) (pl_cons (pd_tup (pl_cons (pd_var 20) (pl_cons (pd_var 22) (pl_cons (pd_var 13) pl_nil)))) pl_nil)))) (Nat.le_of_ble_eq_true rfl) (Nat.le_of_ble_eq_true rfl)) ?_
  refine o_show 6 hD ?_
  refine ss_set1 7 (pd_tup (pl_cons (pd_tup (pl_cons (pd_var 1) (pl_cons (pd_var 15) (pl_cons (pd_var 16) (pl_cons (pd_glob rfl T.k_HALF) pl_nil))))) (pl_cons (pd_tup (pl_cons (pd_var 18) (pl_cons (pd_var 14) (pl_cons (pd_var 15) (pl_cons (pd_glob rfl T.k_HALF) pl_nil))))) (pl_cons (pd_tup (pl_cons (pd_var 19) (pl_cons (pd_var 16) (pl_cons (pd_var 17) (pl_cons (pd_glob rfl T.k_HALF) pl_nil))))) (pl_cons (pd_tup (pl_cons (pd_var 20) (pl_cons (pd_var 14) (pl_cons (pd_var 17) (pl_cons (pd_glob rfl T.k_HALF) pl_nil))))) pl_nil))))) ?_ sc_cell_parts.nd
  refine ss_ret (pd_tup (pl_cons (pd_tup (pl_cons (pd_tup (pl_cons (pd_var 18) (pl_cons (pd_var 8) pl_nil))) (pl_cons (pd_tup (pl_cons (pd_var 21) (pl_cons (pd_var 9) pl_nil))) pl_nil))) (pl_cons (pd_tupL (pd_var 6) rfl T.f_tuple) (pl_cons (pd_var 7) pl_nil)))) (fun _ z => z.trans ?_)
  unfold partsD
  rfl
theorem c_cell_parts (T : Txt K mg) : C8.Cal P w K mg base 6 "cell_parts" (spP K R_cell_parts) [] := calOf (f_cell_parts T) (fun _ _ _ _ _ _ us hl => match us, hl with | [_, _, _, _], _ => rfl)
end
end Cv

set_option Elab.async false
set_option linter.all false
set_option maxRecDepth 100000
set_option maxHeartbeats 2000000
/-! The hoist: a list of three that is turned in place. -/
namespace Cv
open PySem PySem.Spec PyProof.Rows L2
def CM : Nat := 1000000
def HW (K : PySem.W.Frag) (zs : List Addr) (p : Addr) (c : Nat) (H : Hp) : Prop := ∃ (l : Addr) (a b : Int) (xs : List Int), H p = some (.lst [.ref l, .int a, .int b]) ∧ Dp K (del (p :: zs) H) (.ref l) (.list (xs.map PyData.int)) ∧ (xs.length ≤ 100 ∧ ∃ B : Nat, B ≤ 2000000 ∧ ∀ x ∈ xs, x.natAbs < 2 ^ B) ∧ 0 ≤ a ∧ a ≤ c ∧ 0 ≤ b
theorem HW.up {K : PySem.W.Frag} {zs : List Addr} {p : Addr} {c c' : Nat} {H : Hp} (h : HW K zs p c H) (hc : c ≤ c') : HW K zs p c' H := by
  obtain ⟨l, a, b, xs, e, q, hl, h0, h1, h2⟩ := h
  exact ⟨l, a, b, xs, e, q, hl, h0, by omega, h2⟩
theorem HW.mono {K : PySem.W.Frag} {zs : List Addr} {p : Addr} {c : Nat} {H H' : Hp} (s : Same H H') (h : HW K zs p c H) : HW K zs p c H' := by
  obtain ⟨l, a, b, xs, e, q, r⟩ := h
  exact ⟨l, a, b, xs, s _ _ e, dp_mono (same_del s) _ _ q, r⟩
def Md.ho (K : PySem.W.Frag) (m : Md) (p : Addr) (c : Nat) : Md := ⟨p :: m.zs, fun H => m.W (del [p] H) ∧ HW K m.zs p c H, fun _ _ s h => ⟨m.mono _ _ (same_del s) h.1, h.2.mono s⟩⟩
def Md.hx (K : PySem.W.Frag) (m : Md) (p l : Addr) (a b : Int) (xs : List Int) : Md := ⟨p :: m.zs, fun H => m.W (del [p] H) ∧ H p = some (.lst [.ref l, .int a, .int b]) ∧ Dp K (del (p :: m.zs) H) (.ref l) (.list (xs.map PyData.int)), fun _ _ s h => ⟨m.mono _ _ (same_del s) h.1, s _ _ h.2.1, dp_mono (same_del s) _ _ h.2.2⟩⟩
section
variable {X : Cx} {m mo : Md} {g : List Sl} {R : PyData → Prop} {N : List Sl → Prop} {S : PyData → Prop} {e c : Expr} {rest sa : List Stmt} {pos : Pos} {x : Bool}
theorem o_set1 (i : Nat) {n : Str} {pos' : Pos} {d : PyData} (h : PD X m g e (Is d)) (hr : PSs X rest (tO X.K mo m (g.set i (.d d)) R N)) (hN : X.N.Nodup) (hi : X.N[i]? = some n := by rfl) (hx : Loc X.env.scope n := by first | exact Or.inl rfl | exact Or.inr rfl)
    (hs : swapsWith e (some (.Name n pos')) pos.line X.env = pure false := by rfl) (hf : X.fn n = true ∨ X.env.scope.names.lookup n = some .local := by first | exact .inl rfl | exact .inr rfl) : PSs X (.Assign [.Name n pos'] e pos :: rest) (tO X.K mo m g R N) :=
  PSs.wk (pss_cons (ps_set hN hi hx h hs hf) hr) fun D σ H ⟨o, k1, k2⟩ => ⟨o, fun v d' H' n s q => by
    cases s
    exact ⟨(o.step n).set i (slOk_d q), fun v' d' H2 n2 => k1 v' d' H2 (n.kp.trans n2), fun g' σ' H2 n2 => k2 g' σ' H2 (n.kp.trans n2)⟩⟩
theorem o_ifR (hc : PB X m g c (Is x)) (ha : x = true → PSs X sa (tO X.K mo m g R Nof)) (hr : x = false → PSs X rest (tO X.K mo m g R N)) : PSs X (.If c sa [] pos :: rest) (tO X.K mo m g R N) := by
  cases x with
  | true =>
    refine PSs.wk (pss_cons (ps_if hc (ha rfl) (pss_nil (X := X))) (PSs.imp (P := False) (t := tO X.K mo m g R N) fun z => z.elim)) fun D σ H ⟨o, k1, k2⟩ => ⟨o, fun b H' n s => ?_⟩
    cases s
    refine iteT ?_
    exact ⟨o.step n, fun v d H2 n2 => k1 v d H2 (n.kp.trans n2), fun _ _ _ _ _ _ z => z.elim⟩
  | false =>
    refine PSs.wk (pss_cons (ps_if hc (PSs.imp (P := False) (t := tO X.K mo m g R N) (e := sa) fun z => z.elim) (pss_nil (X := X))) (hr rfl)) fun D σ H ⟨o, k1, k2⟩ => ⟨o, fun b H' n s => ?_⟩
    cases s
    refine iteF ?_
    exact ⟨o.step n, fun v d H2 n2 => k1 v d H2 (n.kp.trans n2), fun g' σ' H2 n2 => k2 g' σ' H2 (n.kp.trans n2)⟩
theorem o_ret (h : PD X m g e S) (w : ∀ d, S d → R d) (hz : m.zs = mo.zs) (hw : ∀ H, m.W H → mo.W H) : PSs X [.Return (some e) pos] (tO X.K mo m g R N) := PSs.wk (pss_one (ps_ret h)) fun D σ H ⟨o, k, _⟩ => ⟨o, fun v d H' n s q => k v d H' n.kp (by rw [← hz]; exact n.al) (hw _ n.w) (w d s) (by rw [← hz]; exact q)⟩
variable {p l : Addr} {a b : Int} {xs : List Int}
/-- p[0], p[1], p[2] -/
theorem hx_at (i : Nat) {n : Str} {ie : Expr} {k : Int} {d : PyData} {pos1 : Pos} (hi : PD X (m.hx X.K p l a b xs) g ie (Is (.int k))) (h : atI [PyData.list (xs.map PyData.int), .int a, .int b] k = some d := by rfl) (hg : g[i]? = some (.v (.ref p)) := by rfl) (hN : X.N[i]? = some n := by rfl) (hv : Vis X.env.scope n := by first | exact Or.inl rfl | exact Or.inr (Or.inl rfl) | exact Or.inr (Or.inr rfl))
    (hd : (n == ("__debug__" : Str)) = false := by decide) (hcd : (n == ("__classdict__" : Str)) = false := by decide) (hs : PlainIx ie := by intro _ _; rfl) : PD X (m.hx X.K p l a b xs) g (.Subscript (.Name n pos1) ie pos) (Is d) :=
  PE.wk (pe_ix ix_list (pe_var hN hv hd hcd) hi hs) fun σ H Q ⟨o, kk⟩ => by
    obtain ⟨ov, h1, h2⟩ := repS_get o.rp hg
    have h2' : ov = some (.ref p) := h2
    subst h2'
    refine ⟨_, h1, o, fun u y H1 n1 s1 q1 => ?_⟩
    cases s1
    cases dp_int q1
    obtain ⟨w, e1, e2⟩ := n1.w
    have dd : DpAll X.K (del (p :: m.zs) H1) [.ref l, .int a, .int b] [PyData.list (xs.map PyData.int), .int a, .int b] := .cons e2 (.cons (.int _) (.cons (.int _) .nil))
    obtain ⟨v, h3, h4⟩ := dps_at dd h
    exact ⟨p, _, k, v, rfl, rfl, SqL.of e1, h3, kk v d H1 n1 rfl h4⟩
/-- p[1] = e, p[2] = e -/
theorem hx_set (i : Nat) {n : Str} {k : Int} {j : Int} {a' b' : Int} {pos1 pos2 pos3 : Pos} {kn : Nat} (he : PD X (m.hx X.K p l a b xs) g e (Is (.int j))) (hi : PD X (m.hx X.K p l a b xs) g (.Constant (.int k) kn pos3) (Is (.int k))) (hk : (k = 1 ∧ a' = j ∧ b' = b) ∨ (k = 2 ∧ a' = a ∧ b' = j))
    (hr : PSs X rest (tO X.K mo (m.hx X.K p l a' b' xs) g R N)) (hg : g[i]? = some (.v (.ref p)) := by rfl) (hN : X.N[i]? = some n := by rfl) (hv : Vis X.env.scope n := by first | exact Or.inl rfl | exact Or.inr (Or.inl rfl) | exact Or.inr (Or.inr rfl))
    (hd : (n == ("__debug__" : Str)) = false := by decide) (hcd : (n == ("__classdict__" : Str)) = false := by decide) (hs : swapsWithSole [.Subscript (.Name n pos1) (.Constant (.int k) kn pos3) pos2] e pos.line X.env = pure false := by rfl) (hw : swappedStores [.Subscript (.Name n pos1) (.Constant (.int k) kn pos3) pos2] e X.env = pure none := by rfl)
    (h1 : (assignEach [.Subscript (.Name n pos1) (.Constant (.int k) kn pos3) pos2] X.env).map (·.2) = [assign (.Subscript (.Name n pos1) (.Constant (.int k) kn pos3) pos2) X.env] := by rfl) : PSs X (.Assign [.Subscript (.Name n pos1) (.Constant (.int k) kn pos3) pos2] e pos :: rest) (tO X.K mo (m.hx X.K p l a b xs) g R N) :=
  PSs.wk (pss_cons (ps_asg he (pg_sub (pe_var hN hv hd hcd) hi set_list) hs hw h1) hr) fun E σ H ⟨o, k1, k2⟩ => ⟨o, fun v d H1 n1 s1 q1 => by
    cases s1
    cases dp_int q1
    have o1 := o.step n1
    obtain ⟨ov, h1, h2⟩ := repS_get o1.rp hg
    have h2' : ov = some (.ref p) := h2
    subst h2'
    refine ⟨_, h1, o1, fun y d2 H2 n2 s2 q2 => ?_⟩
    cases s2
    cases dp_int q2
    have nt := n1.trans n2
    obtain ⟨w, e1, e2⟩ := nt.w
    have e0 : ∀ o : HO, del (p :: m.zs) (upd H2 p o) = del (p :: m.zs) H2 := fun o => del_upd List.mem_cons_self
    have fin : ∀ ys : List V, ys = [.ref l, .int a', .int b'] → tO X.K mo (m.hx X.K p l a' b' xs) g R N E σ (upd H2 p (.lst ys)) := fun ys ey => by
      subst ey
      have kk : Kp (p :: m.zs) H (upd H2 p (.lst [.ref l, .int a', .int b'])) := fun b u z => by rw [e0]; exact nt.kp b u z
      refine ⟨⟨fun z hz => ?_, ⟨?_, upd_same, ?_⟩, ?_⟩, fun v d H' k3 => k1 v d H' (kk.trans k3), fun g' σ' H' k3 => k2 g' σ' H' (kk.trans k3)⟩
      · by_cases hz2 : z = p
        · exact ⟨_, by rw [hz2, upd_same]⟩
        · obtain ⟨w, ew⟩ := nt.al z hz
          exact ⟨w, by rw [upd_ne hz2]; exact ew⟩
      · rw [del_upd List.mem_cons_self]
        exact w
      · rw [e0]
        exact e2
      · show RepS X.K (del (p :: m.zs) _) g σ
        rw [e0]
        exact (o.step nt).rp
    rcases hk with ⟨rfl, rfl, rfl⟩ | ⟨rfl, rfl, rfl⟩
    · exact ⟨p, _, 1, 1, rfl, rfl, e1, rfl, fin _ rfl⟩
    · exact ⟨p, _, 2, 2, rfl, rfl, e1, rfl, fin _ rfl⟩⟩
/-- i ** j -/
theorem pd_pow {a b : Expr} {i j : Int} (ha : PD X m g a (Is (.int i))) (hb : PD X m g b (Is (.int j))) (h : CPow i j) : PD X m g (.BinOp a .Pow b pos) (Is (.int (i ^ j.toNat))) := pd_I (pe_op op_pow ha hb) (fun _ _ _ => .int _) (is2 ⟨h, rfl⟩)
theorem ints_lay : ∀ xs : List Int, PyData.canLayAll0 (xs.map PyData.int) = true
  | [] => by simp [PyData.canLayAll0]
  | x :: xs => by simp [PyData.canLayAll0, PyData.canLay0, ints_lay xs]
theorem ints_depth : ∀ xs : List Int, PyData.depthAll (xs.map PyData.int) ≤ 0
  | [] => by simp [PyData.depthAll]
  | x :: xs => by
    have := ints_depth xs
    simp only [List.map_cons, PyData.depthAll, PyData.depth]
    omega
theorem shp_ints (xs : List Int) : SeqAt.shaped (.list (xs.map PyData.int)) = true := by
  have := ints_depth xs
  exact shp (by simp [PyData.canLay0, ints_lay]) (by simp only [PyData.depth]; omega)
theorem eqv_ints (xs : List Int) : PyData.eqv (.list (xs.map PyData.int)) (.list []) = xs.isEmpty := by
  cases xs <;> simp [PyData.eqv, PyData.eqvAll]
end
end Cv

set_option Elab.async false
set_option linter.all false
set_option maxRecDepth 100000
set_option maxHeartbeats 2000000
/-! What turns the hoist: expressions, calls, statements; k tells how many turns at most. -/
namespace Cv
open PySem PySem.Spec PyProof.Rows L2
theorem PS.ex' {α : Sort _} {X : Cx} {e : Stmt} {t : α → TS} (h : ∀ a, PS X e (t a)) : PS X e (fun D σ H => ∃ a, t a D σ H) := ⟨fun pins s σ H D I ⟨a, q⟩ => (h a).run pins s σ H D I q⟩
/-- the state between two: up to c turns so far -/
structure Hst (K : PySem.W.Frag) (mo : Md) (p : Addr) (c : Nat) (H : Hp) : Prop where
  al : Alc (p :: mo.zs) H
  w : (mo.ho K p c).W H
theorem Hst.up {K : PySem.W.Frag} {mo : Md} {p : Addr} {c c' : Nat} {H : Hp} (h : Hst K mo p c H) (hc : c ≤ c') : Hst K mo p c' H := ⟨h.al, h.w.1, h.w.2.up hc⟩
def tH (K : PySem.W.Frag) (mo : Md) (p : Addr) (g : List Sl) (k : Nat) (S : PyData → Prop) : TE := fun σ H Q => ∃ c, c + k ≤ CM ∧ Okk K (mo.ho K p c) g σ H ∧ ∀ v d H', Kp (p :: mo.zs) H H' → Hst K mo p (c + k) H' → S d → Dp K (del (p :: mo.zs) H') v d → Q v H'
def tHA (K : PySem.W.Frag) (mo : Md) (p : Addr) (g : List Sl) (k : Nat) (S : List PyData → Prop) : TA := fun σ H Q => ∃ c, c + k ≤ CM ∧ Okk K (mo.ho K p c) g σ H ∧ ∀ v d H', Kp (p :: mo.zs) H H' → Hst K mo p (c + k) H' → S d → DpAll K (del (p :: mo.zs) H') v d → Q v H'
def tXH (K : PySem.W.Frag) (mo : Md) (p : Addr) (k : Nat) (g : List Sl) (R : PyData → Prop) (N : List Sl → Prop) : TS := fun D σ H => ∃ c, c + k ≤ CM ∧ Okk K (mo.ho K p c) g σ H ∧ (∀ v d H', Kp (p :: mo.zs) H H' → Hst K mo p (c + k) H' → R d → Dp K (del (p :: mo.zs) H') v d → D.rt v H') ∧
  ∀ g' σ' H', Kp (p :: mo.zs) H H' → N g' → Okk K (mo.ho K p (c + k)) g' σ' H' → D.nx σ' H'
theorem okk_h {K : PySem.W.Frag} {mo : Md} {p : Addr} {c c' : Nat} {g : List Sl} {σ : L2.St} {H H' : Hp} (o : Okk K (mo.ho K p c) g σ H) (k : Kp (p :: mo.zs) H H') (h : Hst K mo p c' H') : Okk K (mo.ho K p c') g σ H' := ⟨h.al, h.w, repS_mono k o.rp⟩
theorem nxt_h {K : PySem.W.Frag} {mo : Md} {p : Addr} {c : Nat} {H H' : Hp} (n : Nxt (mo.ho K p c) H H') : Hst K mo p c H' := ⟨n.al, n.w⟩
section
variable {X : Cx} {mo : Md} {p : Addr} {g : List Sl} {k k1 k2 : Nat} {S S1 S2 : PyData → Prop} {SS : List PyData → Prop} {R : PyData → Prop} {N : List Sl → Prop} {e a b : Expr} {es : List Expr} {rest sa : List Stmt} {pos : Pos}
theorem h_pure (h : ∀ c, PD X (mo.ho X.K p c) g e S) : PE X e (tH X.K mo p g 0 S) := PE.wk (PE.ex h) fun σ H Q ⟨c, hc, o, kk⟩ => ⟨c, o, fun v d H' n s q => kk v d H' n.kp (nxt_h n) s q⟩
theorem h_le (h : PE X e (tH X.K mo p g k S1)) (hk : k ≤ k2) (w : ∀ d, S1 d → S d) : PE X e (tH X.K mo p g k2 S) := PE.wk h fun σ H Q ⟨c, hc, o, kk⟩ => ⟨c, by omega, o, fun v d H' n s z q => kk v d H' n (s.up (by omega)) (w d z) q⟩
theorem ha_nil : PA X [] (tHA X.K mo p g 0 (Is [])) := PA.wk pa_nil fun σ H Q ⟨c, hc, o, kk⟩ => kk [] [] H (Same.refl _) ⟨o.al, o.w⟩ rfl .nil
theorem ha_cons (h : PE X e (tH X.K mo p g k1 S)) (hr : PA X es (tHA X.K mo p g k2 SS)) (hs : starEach (e :: es) X.env = (false, eval e X.env) :: starEach es X.env := by rfl) : PA X (e :: es) (tHA X.K mo p g (k1 + k2) fun l => ∃ d ds, l = d :: ds ∧ S d ∧ SS ds) :=
  PA.wk (pa_cons h hr hs) fun σ H Q ⟨c, hc, o, kk⟩ => ⟨c, by omega, o, fun v d H1 n1 s1 z1 q1 => ⟨c + k1, by omega, okk_h o n1 s1, fun vs ds H2 n2 s2 z2 q2 => kk _ _ H2 (n1.trans n2) (by rw [← Nat.add_assoc]; exact s2) ⟨d, ds, rfl, z1, z2⟩ (.cons (dp_mono n2 _ _ q1) q2)⟩⟩
theorem ha_le {SS' : List PyData → Prop} (h : PA X es (tHA X.K mo p g k SS)) (w : ∀ d, SS d → SS' d) : PA X es (tHA X.K mo p g k SS') := PA.wk h fun σ H Q ⟨c, hc, o, kk⟩ => ⟨c, hc, o, fun v d H' n s z q => kk v d H' n s (w d z) q⟩
theorem Hst.same {K : PySem.W.Frag} {c : Nat} {H H' : Hp} (h : Hst K mo p c H) (s : Same H H') : Hst K mo p c H' := ⟨h.al.same s, (mo.ho K p c).mono _ _ s h.w⟩
theorem h_tup {kt : Nat} (h : PA X es (tHA X.K mo p g k SS)) (hl : ∀ ds, SS ds → ds.length ≤ 1000) : PE X (.Tuple es kt pos) (tH X.K mo p g k fun d => ∃ ds, d = .tuple ds ∧ SS ds) := PE.wk (pe_tup h) fun σ H Q ⟨c, hc, o, kk⟩ => ⟨c, hc, o, fun v d H1 n1 s1 z1 q1 => ⟨by
  have h5 : (1000 : Nat) < sizeLine := by decide
  have := hl d z1
  rw [dps_len q1]
  omega, fun q hq => kk _ _ _ (n1.trans (Kp.of_same (same_new hq))) (s1.same (same_new hq)) ⟨d, rfl, z1⟩ (dp_newT s1.al hq q1)⟩⟩
theorem h_lst (h : PA X es (tHA X.K mo p g k SS)) (hl : ∀ ds, SS ds → ds.length ≤ 1000) : PE X (.List es pos) (tH X.K mo p g k fun d => ∃ ds, d = .list ds ∧ SS ds) := PE.wk (pe_lst h) fun σ H Q ⟨c, hc, o, kk⟩ => ⟨c, hc, o, fun v d H1 n1 s1 z1 q1 => ⟨by
  have h5 : (1000 : Nat) < sizeLine := by decide
  have := hl d z1
  rw [dps_len q1]
  omega, fun q hq => kk _ _ _ (n1.trans (Kp.of_same (same_new hq))) (s1.same (same_new hq)) ⟨d, rfl, z1⟩ (dp_newL s1.al hq q1)⟩⟩
/-- int operators -/
theorem h_bin {r : R2} {f : Int → Int → Int} {C : Int → Int → Prop} (h : PE X e (tOp r (tH X.K mo p g k1 S1) (tH X.K mo p g k2 S2))) (hr : ∀ i j H (Q : VK), C i j → Q (.int (f i j)) H → r (.int i) (.int j) H Q)
    (hs : ∀ x y, S1 x → S2 y → ∃ i j, x = .int i ∧ y = .int j ∧ C i j ∧ S (.int (f i j))) : PE X e (tH X.K mo p g (k1 + k2) S) := PE.wk h fun σ H Q ⟨c, hc, o, kk⟩ => ⟨c, by omega, o, fun u x H1 n1 s1 z1 q1 => ⟨c + k1, by omega, okk_h o n1 s1, fun v y H2 n2 s2 z2 q2 => by
  obtain ⟨i, j, rfl, rfl, hC, hS⟩ := hs x y z1 z2
  cases dp_int q1
  cases dp_int q2
  exact hr i j H2 Q hC (kk _ _ H2 (n1.trans n2) (by rw [← Nat.add_assoc]; exact s2) hS (.int _))⟩⟩
theorem h_add (ha : PE X a (tH X.K mo p g k1 S1)) (hb : PE X b (tH X.K mo p g k2 S2)) (hs : ∀ x y, S1 x → S2 y → ∃ i j, x = .int i ∧ y = .int j ∧ S (.int (i + j))) : PE X (.BinOp a .Add b pos) (tH X.K mo p g (k1 + k2) S) := h_bin (C := fun _ _ => True) (f := fun i j => i + j) (pe_op op_add ha hb) (fun i j H Q _ q => ⟨i, j, rfl, rfl, q⟩) fun x y z1 z2 => let ⟨i, j, e1, e2, h⟩ := hs x y z1 z2; ⟨i, j, e1, e2, trivial, h⟩
theorem h_sub (ha : PE X a (tH X.K mo p g k1 S1)) (hb : PE X b (tH X.K mo p g k2 S2)) (hs : ∀ x y, S1 x → S2 y → ∃ i j, x = .int i ∧ y = .int j ∧ S (.int (i - j))) : PE X (.BinOp a .Sub b pos) (tH X.K mo p g (k1 + k2) S) := h_bin (C := fun _ _ => True) (f := fun i j => i - j) (pe_op op_sub ha hb) (fun i j H Q _ q => ⟨i, j, rfl, rfl, q⟩) fun x y z1 z2 => let ⟨i, j, e1, e2, h⟩ := hs x y z1 z2; ⟨i, j, e1, e2, trivial, h⟩
theorem h_mul (ha : PE X a (tH X.K mo p g k1 S1)) (hb : PE X b (tH X.K mo p g k2 S2)) (hs : ∀ x y, S1 x → S2 y → ∃ i j, x = .int i ∧ y = .int j ∧ CMulX i j ∧ S (.int (i * j))) : PE X (.BinOp a .Mult b pos) (tH X.K mo p g (k1 + k2) S) := h_bin (C := CMulX) (f := fun i j => i * j) (pe_op op_mulX ha hb) (fun i j H Q hC q => ⟨i, j, rfl, rfl, hC, q⟩) hs
/-- list + list -/
theorem h_cat {SS1 SS2 : List PyData → Prop} (ha : PE X a (tH X.K mo p g k1 fun d => ∃ ds, d = .list ds ∧ SS1 ds)) (hb : PE X b (tH X.K mo p g k2 fun d => ∃ ds, d = .list ds ∧ SS2 ds)) (h1 : ∀ ds, SS1 ds → ds.length ≤ 500) (h2 : ∀ ds, SS2 ds → ds.length ≤ 500) :
    PE X (.BinOp a .Add b pos) (tH X.K mo p g (k1 + k2) fun d => ∃ ds es, d = .list (ds ++ es) ∧ SS1 ds ∧ SS2 es) := PE.wk (pe_op op_catL ha hb) fun σ H Q ⟨c, hc, o, kk⟩ => ⟨c, by omega, o, fun u x H1 n1 s1 z1 q1 => ⟨c + k1, by omega, okk_h o n1 s1, fun v y H2 n2 s2 z2 q2 => by
  obtain ⟨ds, rfl, z1⟩ := z1
  obtain ⟨es, rfl, z2⟩ := z2
  obtain ⟨p1, xs, rfl, h3, h4⟩ := dp_lst (dp_mono n2 _ _ q1)
  obtain ⟨p2, ys, rfl, h5, h6⟩ := dp_lst q2
  have h7 : (1000 : Nat) < sizeLine := by decide
  have l1 := h1 ds z1
  have l2 := h2 es z2
  exact ⟨p1, p2, xs, ys, rfl, rfl, sqL_mono (del_same _ _) h3, sqL_mono (del_same _ _) h5, by rw [dps_len h4, dps_len h6]; omega, fun q hq => kk _ _ _ ((n1.trans n2).trans (Kp.of_same (same_new hq))) (by rw [← Nat.add_assoc]; exact s2.same (same_new hq)) ⟨ds, es, rfl, z1, z2⟩ (dp_newL s2.al hq (dps_app h4 h6))⟩⟩⟩
/-- a pure def over such -/
theorem h_callP {RR : List PyData → PyData → Prop} {kd j : Nat} {f : Str} {pp : Pos} (c : C8.Cal X.prog X.w X.K X.mg X.base kd f (spP X.K RR) []) (hr : Room j X.A) (hk : kd ≤ j) (hg : Gl X f) (ha : PA X (e :: es) (tHA X.K mo p g k SS)) (h : ∀ ds, SS ds → ∃ d, RR ds d ∧ S d)
    (hdb : (f == ("__debug__" : Str)) = false := by decide) (he : starEach (e :: es) X.env = (false, eval e X.env) :: starEach es X.env := by rfl) (hpl : (backTo pos (starEach es X.env)).any (·.1) = false := by rfl) : PE X (.Call (.Name f pp) (e :: es) [] pos) (tH X.K mo p g k S) :=
  PE.wk (C8.pe_c c hr hk hg ha hdb he hpl) fun σ H Q ⟨c, hc, o, kk⟩ => ⟨c, hc, o, fun vs ds1 H1 n1 s1 z1 q1 => by
    obtain ⟨d, h1, h2⟩ := h ds1 z1
    exact ⟨p :: mo.zs, ds1, d, s1.al, by rw [List.append_nil]; exact q1, h1, fun v H' sm q => kk v d H' (n1.trans (Kp.of_same sm)) (s1.same sm) h2 q⟩⟩
end
/-- a def that turns the hoist -/
def spH (K : PySem.W.Frag) (kk : Nat) (R : List PyData → (PyData → Prop) → Prop) : Sp := fun vs H Q _ => ∃ (zs : List Addr) (p : Addr) (us : List V) (ds : List PyData) (c : Nat) (S : PyData → Prop), vs = .ref p :: us ∧ p ∉ zs ∧ Alc (p :: zs) H ∧ DpAll K (del (p :: zs) H) us ds ∧ HW K zs p c H ∧ c + kk ≤ CM ∧ R ds S ∧
  ∀ v d H', Kp (p :: zs) H H' → (∀ z ∈ zs, ∀ o, H z = some o → H' z = some o) → Alc (p :: zs) H' → HW K zs p (c + kk) H' → S d → Dp K (del (p :: zs) H') v d → Q v H'
section
variable {X : Cx} {mo : Md} {p : Addr} {g : List Sl} {k k1 k2 : Nat} {S : PyData → Prop} {SS : List PyData → Prop} {R : PyData → Prop} {N : List Sl → Prop} {e a b : Expr} {es : List Expr} {rest sa : List Stmt} {pos : Pos}
theorem same_ho {zs : List Addr} {H H' : Hp} {p : Addr} (k : Kp (p :: zs) H H') (hz : ∀ z ∈ zs, ∀ o, H z = some o → H' z = some o) : Same (del [p] H) (del [p] H') := fun b o e => by
  obtain ⟨h1, h2⟩ := del_some e
  rw [del_out h1]
  have hp : b ≠ p := fun z => h1 (by rw [z]; exact List.mem_cons_self)
  by_cases hb : b ∈ zs
  · exact hz b hb o h2
  · exact (del_some (k b o (by rw [del_out (fun m => (List.mem_cons.mp m).elim hp hb)]; exact h2))).2
theorem h_callH {RR : List PyData → (PyData → Prop) → Prop} {kk kd j : Nat} {f x : Str} {pp pos1 : Pos} (i : Nat) (c : C8.Cal X.prog X.w X.K X.mg X.base kd f (spH X.K kk RR) []) (hr : Room j X.A) (hk : kd ≤ j) (hg : Gl X f) (hp : p ∉ mo.zs) (ha : PA X es (tHA X.K mo p g k SS)) (h : ∀ ds, SS ds → RR ds S) (hgp : g[i]? = some (.v (.ref p)) := by rfl) (hN : X.N[i]? = some x := by rfl)
    (hv : Vis X.env.scope x := by first | exact Or.inl rfl | exact Or.inr (Or.inl rfl) | exact Or.inr (Or.inr rfl)) (hd : (x == ("__debug__" : Str)) = false := by decide) (hcd : (x == ("__classdict__" : Str)) = false := by decide)
    (hdb : (f == ("__debug__" : Str)) = false := by decide) (he : starEach (.Name x pos1 :: es) X.env = (false, eval (.Name x pos1) X.env) :: starEach es X.env := by rfl) (hpl : (backTo pos (starEach es X.env)).any (·.1) = false := by rfl) : PE X (.Call (.Name f pp) (.Name x pos1 :: es) [] pos) (tH X.K mo p g (k + kk) S) :=
  PE.wk (C8.pe_c c hr hk hg (pa_cons (pe_var hN hv hd hcd) ha he) hdb he hpl) fun σ H Q ⟨c, hc, o, kq⟩ => by
    obtain ⟨ov, h1, h2⟩ := repS_get o.rp hgp
    have h2' : ov = some (.ref p) := h2
    subst h2'
    refine ⟨_, h1, c, by omega, o, fun vs ds H1 n1 s1 z1 q1 => ?_⟩
    exact ⟨mo.zs, p, vs, ds, c + k, S, by rw [List.append_nil], hp, s1.al, q1, s1.w.2, by omega, h ds z1, fun v d H' n2 hz al hw s q => kq v d H' (n1.trans n2) ⟨al, mo.mono _ _ (same_ho n2 hz) s1.w.1, by rw [← Nat.add_assoc]; exact hw⟩ s q⟩
/-! ### statements -/
theorem xh_set (i : Nat) {n : Str} {pos' : Pos} (h : PE X e (tH X.K mo p g k1 S)) (hr : ∀ d, S d → PSs X rest (tXH X.K mo p k2 (g.set i (.d d)) R N)) (hN : X.N.Nodup) (hi : X.N[i]? = some n := by rfl) (hx : Loc X.env.scope n := by first | exact Or.inl rfl | exact Or.inr rfl)
    (hs : swapsWith e (some (.Name n pos')) pos.line X.env = pure false := by rfl) (hf : X.fn n = true ∨ X.env.scope.names.lookup n = some .local := by first | exact .inl rfl | exact .inr rfl) : PSs X (.Assign [.Name n pos'] e pos :: rest) (tXH X.K mo p (k1 + k2) g R N) :=
  PSs.wk (pss_cons (ps_set hN hi hx h hs hf) (PSs.ex fun d => PSs.imp (hr d))) fun D σ H ⟨c, hc, o, q1, q2⟩ => ⟨c, by omega, o, fun v d H1 n1 s1 z1 r1 => ⟨d, z1, c + k1, by omega, (okk_h o n1 s1).set i (slOk_d r1), fun v' d' H2 n2 s2 => q1 v' d' H2 (n1.trans n2) (by rw [← Nat.add_assoc]; exact s2), fun g' σ' H2 n2 z2 o2 => q2 g' σ' H2 (n1.trans n2) z2 (by rw [← Nat.add_assoc]; exact o2)⟩⟩
theorem xh_set1 (i : Nat) {n : Str} {pos' : Pos} {d : PyData} (h : ∀ c, PD X (mo.ho X.K p c) g e (Is d)) (hr : PSs X rest (tXH X.K mo p k (g.set i (.d d)) R N)) (hN : X.N.Nodup) (hi : X.N[i]? = some n := by rfl) (hx : Loc X.env.scope n := by first | exact Or.inl rfl | exact Or.inr rfl)
    (hs : swapsWith e (some (.Name n pos')) pos.line X.env = pure false := by rfl) (hf : X.fn n = true ∨ X.env.scope.names.lookup n = some .local := by first | exact .inl rfl | exact .inr rfl) : PSs X (.Assign [.Name n pos'] e pos :: rest) (tXH X.K mo p k g R N) := by
  have := xh_set (k2 := k) i (h_pure h) (fun d' z => by cases z; exact hr) hN hi hx hs hf
  rw [Nat.zero_add] at this
  exact this
theorem xh_setLc {elt tg iter : Expr} {ifs : List Expr} {scope : Scope} {spos py : Pos} {d : PyData} {y : Str} (i : Nat) (h : ∀ c, PLc X (mo.ho X.K p c) g elt tg iter ifs scope pos (Is d)) (hr : PSs X rest (tXH X.K mo p k (g.set i (.d d)) R N))
    (hi : X.N[i]? = some y := by rfl) (hl : X.env.scope.names.lookup y = some .local := by rfl) (hs : swapsWith (.ListComp elt [⟨tg, iter, ifs, 0⟩] scope pos) (some (.Name y py)) spos.line X.env = pure true := by rfl) : PSs X (.Assign [.Name y py] (.ListComp elt [⟨tg, iter, ifs, 0⟩] scope pos) spos :: rest) (tXH X.K mo p k g R N) :=
  PSs.wk (pss_cons (PS.ex' fun c => (h c).st i y py spos hi hl hs) hr) fun D σ H ⟨c, hc, o, q1, q2⟩ => ⟨c, o, fun v d' H1 n1 s1 r1 => by
    cases s1
    exact ⟨c, hc, (o.step n1).set i (slOk_d r1), fun v' d' H2 n2 s2 => q1 v' d' H2 (n1.kp.trans n2) s2, fun g' σ' H2 n2 z2 o2 => q2 g' σ' H2 (n1.kp.trans n2) z2 o2⟩⟩
theorem xh_asg {tg : Expr} (GG : PyData → List Sl) (h : PE X e (tH X.K mo p g k1 S)) (ht : ∀ c d, S d → PGd X (mo.ho X.K p c) g tg d (GG d)) (hr : ∀ d, S d → PSs X rest (tXH X.K mo p k2 (GG d) R N)) (hs : swapsWithSole [tg] e pos.line X.env = pure false := by rfl) (hw : swappedStores [tg] e X.env = pure none := by rfl)
    (h1 : (assignEach [tg] X.env).map (·.2) = [assign tg X.env] := by rfl) : PSs X (.Assign [tg] e pos :: rest) (tXH X.K mo p (k1 + k2) g R N) :=
  PSs.wk (pss_cons (ps_asg h (PG.ex (t := fun cd : Nat × PyData => fun v σ H Q => S cd.2 ∧ gI X.K (mo.ho X.K p cd.1) g (Is cd.2) (Is (GG cd.2)) v σ H Q) fun cd => ⟨fun pins s σ H v u Q I r ⟨z, q⟩ => (ht cd.1 cd.2 z).run pins s σ H v u Q I r q⟩) hs hw h1) (PSs.ex fun d => PSs.imp (hr d))) fun D σ H ⟨c, hc, o, q1, q2⟩ => ⟨c, by omega, o, fun v d H1 n1 s1 z1 r1 =>
    ⟨(c + k1, d), z1, okk_h o n1 s1, ⟨d, rfl, r1⟩, fun g2 σ2 H2 n2 s2 o2 => by
      cases s2
      exact ⟨d, z1, c + k1, by omega, o2, fun v' d' H3 n3 s3 => q1 v' d' H3 ((n1.trans n2.kp).trans n3) (by rw [← Nat.add_assoc]; exact s3), fun g' σ' H3 n3 z3 o3 => q2 g' σ' H3 ((n1.trans n2.kp).trans n3) z3 (by rw [← Nat.add_assoc]; exact o3)⟩⟩⟩
theorem xh_ifR {x : Bool} {cnd : Expr} (hc : ∀ c, PB X (mo.ho X.K p c) g cnd (Is x)) (ha : x = true → PSs X sa (tXH X.K mo p k g R Nof)) (hr : x = false → PSs X rest (tXH X.K mo p k g R N)) : PSs X (.If cnd sa [] pos :: rest) (tXH X.K mo p k g R N) := by
  cases x with
  | true =>
    refine PSs.wk (pss_cons (ps_if (PT.ex hc) (ha rfl) (pss_nil (X := X))) (PSs.imp (P := False) (t := tXH X.K mo p k g R N) fun z => z.elim)) fun D σ H ⟨c, hk, o, q1, q2⟩ => ⟨c, o, fun b H' n s => ?_⟩
    cases s
    refine iteT ?_
    exact ⟨c, hk, o.step n, fun v d H2 n2 => q1 v d H2 (n.kp.trans n2), fun _ _ _ _ z => z.elim⟩
  | false =>
    refine PSs.wk (pss_cons (ps_if (PT.ex hc) (PSs.imp (P := False) (t := tXH X.K mo p k g R N) (e := sa) fun z => z.elim) (pss_nil (X := X))) (hr rfl)) fun D σ H ⟨c, hk, o, q1, q2⟩ => ⟨c, o, fun b H' n s => ?_⟩
    cases s
    refine iteF ?_
    exact ⟨c, hk, o.step n, fun v d H2 n2 => q1 v d H2 (n.kp.trans n2), fun g' σ' H2 n2 => q2 g' σ' H2 (n.kp.trans n2)⟩
theorem xh_ret (h : PE X e (tH X.K mo p g k1 S)) (hk : k1 ≤ k) (w : ∀ d, S d → R d) : PSs X [.Return (some e) pos] (tXH X.K mo p k g R N) := PSs.wk (pss_one (ps_ret h)) fun D σ H ⟨c, hc, o, q1, _⟩ => ⟨c, by omega, o, fun v d H' n s z q => q1 v d H' n (s.up (by omega)) (w d z) q⟩
theorem xh_pure (h : ∀ c, PQ X (mo.ho X.K p c) g rest R Nof) : PSs X rest (tXH X.K mo p k g R N) := PSs.wk (PSs.ex h) fun D σ H ⟨c, hc, o, q1, _⟩ => ⟨c, o, fun v d H' n z q => q1 v d H' n.kp ((nxt_h n).up (by omega)) z q, fun _ _ _ _ z => z.elim⟩
theorem xh_le {k' : Nat} (h : PSs X rest (tXH X.K mo p k' g R N)) (hk : k' ≤ k) : PSs X rest (tXH X.K mo p k g R N) := PSs.wk h fun D σ H ⟨c, hc, o, q1, q2⟩ => ⟨c, by omega, o, fun v d H' n s z q => q1 v d H' n (s.up (by omega)) z q, fun g' σ' H' n z o' => q2 g' σ' H' n z ⟨o'.al, ⟨o'.w.1, o'.w.2.up (by omega)⟩, o'.rp⟩⟩
/-- the hoist's three items in sight -/
theorem xh_open (h : ∀ c l a b xs, c + k ≤ CM → 0 ≤ a → a ≤ (c : Int) → 0 ≤ b → (xs.length ≤ 100 ∧ ∃ B : Nat, B ≤ 2000000 ∧ ∀ x ∈ xs, x.natAbs < 2 ^ B) → PSs X rest (tO X.K (mo.ho X.K p (c + k)) (mo.hx X.K p l a b xs) g R Nof)) : PSs X rest (tXH X.K mo p k g R N) := by
  have hh : PSs X rest (fun D σ H => ∃ (c : Nat) (l : Addr) (a b : Int) (xs : List Int), (c + k ≤ CM ∧ 0 ≤ a ∧ a ≤ (c : Int) ∧ 0 ≤ b ∧ (xs.length ≤ 100 ∧ ∃ B : Nat, B ≤ 2000000 ∧ ∀ x ∈ xs, x.natAbs < 2 ^ B)) ∧ tO X.K (mo.ho X.K p (c + k)) (mo.hx X.K p l a b xs) g R Nof D σ H) := PSs.ex fun c => PSs.ex fun l => PSs.ex fun a => PSs.ex fun b => PSs.ex fun xs => PSs.imp fun z => h c l a b xs z.1 z.2.1 z.2.2.1 z.2.2.2.1 z.2.2.2.2
  refine PSs.wk hh fun D σ H ⟨c, hc, o, q1, _⟩ => ?_
  obtain ⟨w, l, a, b, xs, e, q, hl, h0, h1, h2⟩ := o.w
  exact ⟨c, l, a, b, xs, ⟨hc, h0, h1, h2, hl⟩, ⟨o.al, ⟨w, e, q⟩, o.rp⟩, fun v d H' n al w s q => q1 v d H' n ⟨al, w⟩ s q, fun _ _ _ _ _ _ z => z.elim⟩
theorem hx_ho {c : Nat} {l : Addr} {a b : Int} {xs : List Int} (h0 : 0 ≤ a) (h1 : a ≤ (c : Int)) (h2 : 0 ≤ b) (hl : xs.length ≤ 100 ∧ ∃ B : Nat, B ≤ 2000000 ∧ ∀ x ∈ xs, x.natAbs < 2 ^ B) : ∀ H, (mo.hx X.K p l a b xs).W H → (mo.ho X.K p c).W H := fun H w => ⟨w.1, l, a, b, xs, w.2.1, w.2.2, hl, h0, h1, h2⟩
end
/-! ### such a def by its body -/
section
variable {P : Program} {w : World} {K : PySem.W.Frag} {mg : Str → Option Value} {base : Heap}
def g0H (N : List Str) (p : Addr) (ds : List PyData) : List Sl := .v (.ref p) :: (ds.map Sl.d ++ List.replicate (N.length - (ds.length + 1)) .no)
theorem okH {x : Str} {i : Nat} {st : Nat → Stmt} {N ps : List Str} {k kk : Nat} {R : List PyData → (PyData → Prop) → Prop} (F : Tx K mg i x st) (S : FnScope N ps (defScope (st i))) (hb : ∀ (kV doc pm : Value) (an : Option Addr) (cdv ct : Value) (us : List Value), us.length = ps.length → bindArgs (PySem.W.fnOf x x (defArgs (st i)) (defBody (st i)) (defScope (st i)) .none kV doc pm an cdv ct) ⟨us, []⟩ = pure (ps.zip us))
    (hR : ∀ ds S, R ds S → ds.length + 1 = ps.length)
    (body : ∀ (f : Addr) (cdv : Value) (A : Around) (outer : List Env) (s : Shared) (H : Hp) (E : XK) (m : Md) (p : Addr) (ds : List PyData) (S : PyData → Prop), Room k (A.deeper (envOfC x (defScope (st i)) s.heap.objs.size f cdv)) → p ∉ m.zs → R ds S →
      PSs (cxOf CX0 P w K mg base N x (defScope (st i)) f cdv A outer s H E).nox (defBody (st i)) (tXH K m p kk (g0H N p ds) S Nof)) : C8.Cal P w K mg base (k + 1) x (spH K kk R) [] := by
  obtain ⟨f, fd, F1, hm⟩ := F.ex
  refine ⟨f, fd, ps, [], ?_, hm, F1.kp, F1.bindsN hb, .nil⟩
  refine F1.ok S (fun vs H Q E h => ?_) (fun cdv A outer s H vs Q E hr h => ?_)
  · obtain ⟨zs, p, us, ds, c, S', rfl, _, _, h1, _, _, h2, _⟩ := h
    rw [List.length_cons, dps_len h1, hR ds S' h2]
  · obtain ⟨zs, p, us, ds, c, S', rfl, hp, al, h1, hw, hc, h2, h3⟩ := h
    have hl := dps_len h1
    refine ⟨_, PSs.nox (body f cdv A outer s H E (mdP zs (del [p] H)) p ds S' hr hp h2), ?_⟩
    refine ⟨c, hc, ⟨al, ⟨fun _ _ _ e => e, hw⟩, ?_⟩, fun v d H' n st z q => ?_, fun _ _ _ _ z => z.elim⟩
    · show RepS K (del (p :: zs) H) (.v (.ref p) :: (ds.map Sl.d ++ List.replicate (N.length - (ds.length + 1)) .no)) (some (.ref p) :: (us.map some ++ List.replicate (N.length - (us.length + 1)) none))
      rw [hl]
      exact ⟨rfl, repS_start _ h1⟩
    · refine h3 v d H' n (fun z hz o e => ?_) st.al st.w.2 z q
      have hzp : z ∉ [p] := fun m => hp (by rw [← List.mem_singleton.mp m]; exact hz)
      exact (del_some (st.w.1 z hz o (by rw [del_out hzp]; exact e))).2
end
end Cv

set_option Elab.async false
set_option linter.all false
set_option maxRecDepth 100000
set_option maxHeartbeats 4000000
namespace Cv
open PySem PySem.Spec PyProof.Rows L2


def SInt (n : Int) : PyData → Prop := fun d => ∃ i, d = .int i ∧ 0 ≤ i ∧ i < n
def R__law_winch : List PyData → (PyData → Prop) → Prop := fun ds S => ∃ n : Int, ds = [.int n] ∧ 0 < n ∧ n < 1000000000 ∧ S = SInt n
def R__law_one : List PyData → (PyData → Prop) → Prop := fun ds S => ∃ es : List PyData, ds = [.list es] ∧ es ≠ [] ∧ es.length ≤ 100 ∧ ∀ d ∈ es, S d
def SNum : PyData → Prop := fun d => ∃ x, d = num x ∧ Bd x 7
def R__law_number : List PyData → (PyData → Prop) → Prop := fun ds S => ds = [] ∧ S = SNum
theorem at_mod {α : Type} {es : List α} {a : Int} (h : es ≠ []) : ∃ x ∈ es, atI es (a % (es.length : Nat)) = some x := by
  have hl : 0 < es.length := List.length_pos_iff.mpr h
  have h1 : 0 ≤ a % (es.length : Int) := Int.emod_nonneg _ (by omega)
  have h2 : a % (es.length : Int) < es.length := Int.emod_lt_of_pos _ (by omega)
  obtain ⟨j, hj⟩ : ∃ j : Nat, a % (es.length : Int) = j := ⟨(a % (es.length : Int)).toNat, by omega⟩
  have hjl : j < es.length := by omega
  rw [hj]
  exact ⟨es[j], List.getElem_mem hjl, atI_nat (List.getElem?_eq_getElem hjl)⟩
theorem cpow1 {y : Int} (h : y.natAbs < 18446744073709551616) {j : Int} (h0 : 0 ≤ j) (h1 : j ≤ 1000) : CPow y j := ⟨h0, by omega, h⟩
theorem cdivn {n : Int} (h0 : 0 < n) (h1 : n < 1000000000) (i : Int) : CDivW i n := by
  have t : (2 : Nat) ^ 30 = 1073741824 := by decide
  have h2 : n.natAbs < 2 ^ 30 := by omega
  exact ⟨h0, Nat.lt_of_lt_of_le (Nat.log2_lt (by omega) |>.mpr h2) (by decide)⟩
theorem smod {x n : Int} (h : 0 < n) : SInt n (.int (x % n)) := ⟨_, rfl, Int.emod_nonneg _ (by omega), Int.emod_lt_of_pos _ h⟩
theorem shp_lnil : SeqAt.shaped (.list []) = true := shp_ints []
theorem mix2 {m a : Int} (h0 : 0 ≤ m) (h1 : m < 2147483629) (h2 : 0 ≤ a) (h3 : a ≤ 1000000) : CMulX m (2 * a + 5179) ∧ CMulX 88609 a ∧ CMulX (88609 * a) a ∧ (m * (2 * a + 5179) + 88609 * a * a + 51131).natAbs < 18446744073709551616 := by
  have e1 : m.natAbs < 2 ^ 31 := by have : (2 : Nat) ^ 31 = 2147483648 := by decide
                                    omega
  have e2 : (2 * a + 5179).natAbs < 2 ^ 21 := by have : (2 : Nat) ^ 21 = 2097152 := by decide
                                                 omega
  have e3 : (88609 : Int).natAbs < 2 ^ 17 := by decide
  have e4 : a.natAbs < 2 ^ 20 := by have : (2 : Nat) ^ 20 = 1048576 := by decide
                                    omega
  have e5 := mul_bd e3 e4
  have e6 := mul_bd e5 e4
  have e7 := mul_bd e1 e2
  refine ⟨mulx_ok e1 e2 (by decide), mulx_ok e3 e4 (by decide), mulx_ok e5 e4 (by decide), ?_⟩
  have t1 : (2 : Nat) ^ (17 + 20 + 20) = 144115188075855872 := by decide
  have t2 : (2 : Nat) ^ (31 + 21) = 4503599627370496 := by decide
  rw [t1] at e6
  rw [t2] at e7
  generalize 88609 * a * a = y at *
  generalize m * (2 * a + 5179) = z at *
  omega

theorem h_ixL {X : Cx} {mo : Md} {p : Addr} {g : List Sl} {k : Nat} {S : PyData → Prop} {a b : Expr} {pos : Pos} {es : List PyData} {n : Int} (ha : ∀ {c}, PD X (mo.ho X.K p c) g a (Is (.list es))) (hb : PE X b (tH X.K mo p g k (SInt n))) (h : ∀ i, 0 ≤ i → i < n → ∃ d, atI es i = some d ∧ S d) (hs : PlainIx b := by intro _ _; rfl) : PE X (.Subscript a b pos) (tH X.K mo p g k S) :=
  PE.wk (pe_ix ix_list (PE.ex fun c => ha (c := c)) hb hs) fun σ H Q ⟨c, hc, o, kk⟩ => ⟨c, o, fun u x H1 n1 s1 q1 => ⟨c, hc, o.step n1, fun v y H2 n2 s2 z2 q2 => by
    cases s1
    obtain ⟨i, rfl, h0, h1⟩ := z2
    cases dp_int q2
    obtain ⟨d, e1, hS⟩ := h i h0 h1
    obtain ⟨l, xs, rfl, h3, h4⟩ := dp_lst (dp_mono n2 _ _ q1)
    obtain ⟨v, h5, h6⟩ := dps_at h4 e1
    exact ⟨l, xs, i, v, rfl, rfl, sqL_mono (del_same _ _) h3, h5, kk v d H2 (n1.kp.trans n2) s2 hS h6⟩⟩⟩
section
variable {P : Program} {w : World} {K : PySem.W.Frag} {mg : Str → Option Value} {base : Heap}

theorem sc__law_winch : FnScope ["_law_hoist_here", "_law_many", "_law_at", "_law_cell", "_law_mixed", "_law_rest"] ["_law_hoist_here", "_law_many"] (defScope (top 55)) := ⟨rfl, rfl, rfl, by decide +kernel, rfl, by decide +kernel, by decide +kernel⟩
theorem c__law_winch (T : Txt K mg) : C8.Cal P w K mg base 1 "_law_winch" (spH K 1 R__law_winch) [] := by
  refine okH T.t__law_winch sc__law_winch (fun _ _ _ _ _ _ us hl => match us, hl with | [_, _], _ => rfl) (fun ds S h => ?_) (fun f cdv A outer s H E mo p ds S hr hp h => ?_)
  · obtain ⟨n, rfl, hn0, hn1, rfl⟩ := h
    rfl
  obtain ⟨n, rfl, hn0, hn1, rfl⟩ := h
  refine xh_open fun c l a b xs hc h0 h1 h2 hB => ?_
  obtain ⟨hlen, BB, hBB, hx⟩ := hB
  have hCM : CM = 1000000 := rfl
  refine o_ifR (pb_gt (hx_at 0 pd_int) pd_int) (fun e => ?_) (fun e => ?_)
  · refine o_set1 5 (pd_toInt (hx_at 0 pd_int) rfl T.f_int) ?_ sc__law_winch.nd
    refine hx_set 0 (pd_div (pd_var 5) (pd_var 1) (cdivn hn0 hn1 _)) pd_int (.inr ⟨rfl, rfl, rfl⟩) ?_
    exact o_ret (pd_mod (pd_toInt (pd_var 5) rfl T.f_int) (pd_var 1) hn0) (fun d z => by cases z; exact smod hn0) rfl (hx_ho h0 (by omega) (Int.ediv_nonneg h2 (by omega)) ⟨hlen, BB, hBB, hx⟩)
  refine o_set1 2 (hx_at 0 pd_int) ?_ sc__law_winch.nd
  refine hx_set 0 (pd_add (pd_var 2) pd_int) pd_int (.inl ⟨rfl, rfl, rfl⟩) ?_
  refine o_ifR (pb_eq hr.units (hx_at 0 pd_int) (pd_lst pl_nil) (shp_ints _) shp_lnil) (fun e => ?_) (fun e => ?_)
  · exact o_ret pd_int (fun d z => by cases z; exact ⟨0, rfl, by omega, hn0⟩) rfl (hx_ho (by omega) (by omega) h2 ⟨hlen, BB, hBB, hx⟩)
  rw [eqv_ints] at e
  have hne : xs ≠ [] := fun z => by rw [z] at e; cases e
  have hne2 : xs.map PyData.int ≠ [] := fun z => hne (List.map_eq_nil_iff.mp z)
  have hlp : (0 : Int) < ((xs.map PyData.int).length : Nat) := by
    have := List.length_pos_iff.mpr hne2
    omega
  obtain ⟨y, hy, hat⟩ := at_mod (a := a) hne2
  obtain ⟨x, hxm, rfl⟩ := List.mem_map.mp hy
  have hxB := hx x hxm
  refine o_set1 3 (pd_ixL (hx_at 0 pd_int) (pd_mod (pd_toInt (pd_var 2) rfl T.f_int) (pd_lenL (hx_at 0 pd_int) rfl T.f_len) hlp) hat) ?_ sc__law_winch.nd
  have p18 : CPow 10 18 := cpow1 (by decide) (by decide) (by decide)
  refine o_ifR (pb_w (pbw_and (pb_lt (pd_var 2) (pd_lenL (hx_at 0 pd_int) rfl T.f_len)) (fun _ => (pbw_and1 (pb_ge (pd_abs (pd_var 3) rfl T.f_abs) (pd_pow pd_int pd_int (by assumption))))))) (fun e2 => ?_) (fun e2 => ?_)
  · have e3 : (10 : Int) ^ (18 : Int).toNat ≤ (x.natAbs : Int) := of_decide_eq_true (by
      rw [Bool.and_eq_true] at e2
      exact e2.2)
    have hmul : CMulX 2 ((x.natAbs : Int) - 10 ^ (18 : Int).toNat) := mulx_ok (a := 2) (b := BB) (by decide) (by
      have h10 : (0 : Int) ≤ 10 ^ (18 : Int).toNat := by decide
      omega) (by omega)
    have hrest : 0 ≤ 2 * ((x.natAbs : Int) - 10 ^ (18 : Int).toNat) + (if decide (x < 0) = true then 1 else 0) := by
      split <;> omega
    refine o_set1 5 (pd_add (pd_mul pd_int (pd_sub (pd_abs (pd_var 3) rfl T.f_abs) (pd_pow pd_int pd_int (by assumption))) hmul) (pd_toIntB (pd_lt (pd_var 3) pd_int) rfl T.f_int)) ?_ sc__law_winch.nd
    refine hx_set 0 (pd_div (pd_toInt (pd_var 5) rfl T.f_int) (pd_var 1) (cdivn hn0 hn1 _)) pd_int (.inr ⟨rfl, rfl, rfl⟩) ?_
    exact o_ret (pd_mod (pd_toInt (pd_var 5) rfl T.f_int) (pd_var 1) hn0) (fun d z => by cases z; exact smod hn0) rfl (hx_ho (by omega) (by omega) (Int.ediv_nonneg hrest (by omega)) ⟨hlen, BB, hBB, hx⟩)
  have hm0 : 0 ≤ x % 2147483549 := Int.emod_nonneg _ (by decide)
  have hm1 : x % 2147483549 < 2147483549 := Int.emod_lt_of_pos _ (by decide)
  have hp5 : CPow (x % 2147483549 + 51131 * a + 7481) 5 := cpow1 (by omega) (by decide) (by decide)
  have hmu : CMulX 51131 a := mulx_ok (a := 16) (b := 20) (by decide) (by
    have : (2 : Nat) ^ 20 = 1048576 := by decide
    omega) (by decide)
  refine o_set1 4 (pd_mod (pd_toInt (pd_pow (pd_add (pd_add (pd_mod (pd_toInt (pd_var 3) rfl T.f_int) pd_int (by decide)) (pd_mul pd_int (pd_var 2) hmu)) pd_int) pd_int hp5) rfl T.f_int) pd_int (by decide)) ?_ sc__law_winch.nd
  generalize hmx : (x % 2147483549 + 51131 * a + 7481) ^ (5 : Int).toNat % 2147483629 = mx
  have q0 : 0 ≤ mx := by rw [← hmx]; exact Int.emod_nonneg _ (by decide)
  have q1 : mx < 2147483629 := by rw [← hmx]; exact Int.emod_lt_of_pos _ (by decide)
  obtain ⟨w1, w2, w3, w4⟩ := mix2 q0 q1 h0 (by omega : a ≤ 1000000)
  have w5 : CMulX 2 a := mulx_ok (a := 2) (b := 20) (by decide) (by
    have : (2 : Nat) ^ 20 = 1048576 := by decide
    omega) (by decide)
  have w6 := cpow1 w4 (j := 3) (by decide) (by decide)
  refine o_set1 4 (pd_mod (pd_toInt (pd_pow (pd_add (pd_add (pd_mul (pd_var 4) (pd_add (pd_mul pd_int (pd_var 2) (by assumption)) pd_int) (by assumption)) (pd_mul (pd_mul pd_int (pd_var 2) (by assumption)) (pd_var 2) (by assumption))) pd_int) pd_int w6) rfl T.f_int) pd_int (by decide)) ?_ sc__law_winch.nd
  exact o_ret (pd_mod (pd_toInt (pd_div (pd_var 4) pd_int (cdivn (by decide) (by decide) _)) rfl T.f_int) (pd_var 1) hn0) (fun d z => by cases z; exact smod hn0) rfl (hx_ho (by omega) (by omega) h2 ⟨hlen, BB, hBB, hx⟩)
theorem sc__law_one : FnScope ["_law_hoist_here", "_law_some"] ["_law_hoist_here", "_law_some"] (defScope (top 56)) := ⟨rfl, rfl, rfl, by decide +kernel, rfl, by decide +kernel, by decide +kernel⟩
theorem c__law_one (T : Txt K mg) : C8.Cal P w K mg base 2 "_law_one" (spH K 1 R__law_one) [] := by
  refine okH T.t__law_one sc__law_one (fun _ _ _ _ _ _ us hl => match us, hl with | [_, _], _ => rfl) (fun ds S h => ?_) (fun f cdv A outer s H E mo p ds S hr hp h => ?_)
  · obtain ⟨es, rfl, hne, hlen, hS⟩ := h
    rfl
  obtain ⟨es, rfl, hne, hlen, hS⟩ := h
  have hl : 0 < es.length := List.length_pos_iff.mpr hne
  exact xh_ret (h_ixL (n := (es.length : Nat)) (pd_var 1) (h_callH 0 (c__law_winch T) hr (by decide) rfl hp (ha_le (ha_cons (h_pure fun c => (pd_lenL (pd_var 1) rfl T.f_len)) ha_nil) (SS' := Is [.int (es.length : Nat)]) (fun d z => by obtain ⟨x, y, e, h1, h2⟩ := z; cases h1; cases h2; exact e)) (fun ds z => by cases z; exact ⟨_, rfl, by omega, by omega, rfl⟩)) (fun i h0 h1 => by
    have hj : i.toNat < es.length := by omega
    exact ⟨es[i.toNat], by
      have := atI_nat (List.getElem?_eq_getElem hj)
      rw [show ((i.toNat : Nat) : Int) = i by omega] at this
      exact this, hS _ (List.getElem_mem hj)⟩)) (Nat.le_refl _) (fun d z => z)
end
end Cv

set_option Elab.async false
set_option linter.all false
set_option maxRecDepth 100000
set_option maxHeartbeats 4000000
namespace Cv
open PySem PySem.Spec PyProof.Rows L2


theorem dps_take {K : PySem.W.Frag} {H : Hp} : ∀ {vs : List V} {ds : List PyData} (n : Nat), DpAll K H vs ds → DpAll K H (vs.take n) (ds.take n)
  | _, _, 0, _ => .nil
  | _, _, n + 1, .nil => .nil
  | _, _, n + 1, .cons h t => .cons h (dps_take n t)
/-- l[:k] -/
theorem pd_take {X : Cx} {m : Md} {g : List Sl} {a b : Expr} {pos p2 : Pos} {ds : List PyData} {k : Nat} (ha : PD X m g a (Is (.list ds))) (hb : PD X m g b (Is (.int (k : Nat)))) : PD X m g (.Subscript a (.Slice none (some b) none p2) pos) (Is (.list (ds.take k))) :=
  PE.wk (pe_slice sl_list ha po_none (po_some hb)) fun σ H Q ⟨o, kk⟩ => ⟨o, fun u x H1 n1 s1 q1 => by
    show tPart (tI X.K m g (Is (.int (k : Nat)))) σ H1 (fun u H3 => rSlL X.K _ none u H3 Q)
    refine ⟨o.step n1, fun v y H2 n2 s2 q2 => ?_⟩
    cases s1
    cases s2
    refine ⟨(k : Nat), dp_int q2, ?_⟩
    obtain ⟨l, xs, rfl, h1, h2⟩ := dp_lst (n2.dp q1)
    refine ⟨l, xs, rfl, sqL_mono (del_same _ _) h1, fun p hp => kk _ _ _ ((n1.trans n2).same (same_new hp)) rfl (dp_newL n2.al hp ?_)⟩
    have e : cutV xs none (some ((k : Nat) : Int)) = xs.take k := by
      unfold cutV
      rw [HT.sIx_none, HT.sIx_nat, List.drop_zero, Nat.sub_zero, ← List.take_take, List.take_length]
    rw [e]
    exact dps_take k h2⟩
def spHo (K : PySem.W.Frag) : Sp := fun vs H Q _ => ∃ (zs : List Addr) (v : V) (ns : List Int), vs = [v] ∧ Alc zs H ∧ Dp K (del zs H) v (.list (ns.map PyData.int)) ∧
  ∀ p l H', Same H H' → H p = none → H' p = some (.lst [.ref l, .int 0, .int 0]) → Dp K (del (p :: zs) H') (.ref l) (.list ((ns.take 60).map PyData.int)) → Q (.ref p) H'
def R__law_number' : List PyData → (PyData → Prop) → Prop := R__law_number
theorem lt128 {n : Nat} (h : n < 128) : n < 2 ^ 7 := h
theorem snum_frac {p q : Int} (h1 : -100 ≤ p) (h2 : p ≤ 100) (h3 : 0 < q) (h4 : q ≤ 100) : Bd ((p : Rat) / (q : Rat)) 7 := bd_frac h3 (lt128 (by omega)) (lt128 (by omega))
theorem snum_int {p : Int} (h1 : -100 ≤ p) (h2 : p ≤ 100) : Bd (p : Rat) 7 := bdInt (lt128 (by omega)) (by decide)
theorem rl_low {p q : Int} (h3 : 0 < q) (h4 : q ≤ 100) : R__law_low [.int p, .int q] (num ((p : Rat) / (q : Rat))) := rel__law_low h3 (n := 7) (lt128 (by omega)) (by decide)

section
variable {P : Program} {w : World} {K : PySem.W.Frag} {mg : Str → Option Value} {base : Heap}

theorem sc__law_hoist : FnScope ["_law_script", "_law_cell"] ["_law_script"] (defScope (top 54)) := ⟨rfl, rfl, rfl, by decide +kernel, rfl, by decide +kernel, by decide +kernel⟩
theorem c__law_hoist (T : Txt K mg) : C8.Cal P w K mg base 1 "_law_hoist" (spHo K) [] := by
  obtain ⟨f, fd, F1, hm⟩ := T.t__law_hoist.ex
  refine ⟨f, fd, ["_law_script"], [], ?_, hm, F1.kp, F1.bindsN (fun _ _ _ _ _ _ us hl => match us, hl with | [_], _ => rfl), .nil⟩
  refine F1.ok sc__law_hoist (fun vs H Q E h => ?_) (fun cdv A outer s H vs Q E hr h => ?_)
  · obtain ⟨zs, v, ns, rfl, _⟩ := h
    rfl
  · obtain ⟨zs, v, ns, rfl, al, q, h3⟩ := h
    have hlen : ((ns.take 60).map PyData.int).length ≤ 1000 := by
      rw [List.length_map, List.length_take]
      omega
    refine ⟨_, PSs.nox (pss_one (ps_ret (pe_lst (pl_cons (m := mdP zs H) (g := [.d (.list (ns.map PyData.int)), .no]) (PLc.pd <| plc_L (own := [("_law_cell", 1)]) (ds := ((ns.take 60).map PyData.int)) (rs := ((ns.take 60).map PyData.int)) (.one 1) rfl sc__law_hoist.nd (pd_le (pd_take (k := 60) (pd_var 0) pd_int) (fun _ z => z.trans (by rw [List.map_take]))) (blkOk_by (N := ["_law_script", "_law_cell"]) (sc := defScope (top 54)) (by decide +kernel)) (show 1 ∈ [1] by decide) (fun _ _ => trivial) hlen rfl (fun _ _ _ _ _ => (pg_name sc__law_hoist.nd rfl (Or.inl rfl))) (fun s H C cl fp i x' y' D acc hx hy => ?_)) (pl_cons pd_int (pl_cons pd_int pl_nil)))))), ?_⟩
    · obtain ⟨n0, e0, e1⟩ : ∃ n0, x' = .int n0 ∧ y' = .int n0 := by
        rw [List.getElem?_map] at hx hy
        cases h0 : (ns.take 60)[i]? with
        | none => rw [h0] at hx; cases hx
        | some n0 => rw [h0] at hx hy; exact ⟨n0, (Option.some.inj hx).symm, (Option.some.inj hy).symm⟩
      subst e0 e1
      exact (pd_toInt (pd_var 1) rfl T.f_int)
    refine ⟨⟨al, fun _ _ _ e => e, ⟨⟨_, rfl, q⟩, trivial, trivial⟩⟩, fun vs ds H1 n1 s1 q1 => ?_⟩
    cases s1
    have h5 : (1000 : Nat) < sizeLine := by decide
    refine ⟨by rw [dps_len q1]; show 3 ≤ sizeLine; omega, fun p hp => ?_⟩
    cases q1 with
    | cons d1 d2 =>
      obtain ⟨y, z, rfl, d3, d4⟩ := dps2 d2
      cases dp_int d3
      cases dp_int d4
      obtain ⟨l, xs, rfl, g1, g2⟩ := dp_lst d1
      have sm := mdP_same n1
      refine h3 p l _ (sm.trans (same_new hp)) ?_ upd_same ?_
      · cases e : H p with
        | none => rfl
        | some u =>
          have := sm _ _ e
          rw [hp] at this
          cases this
      · rw [del_new hp]
        exact d1
theorem sc__law_number : FnScope ["_law_hoist_here"] ["_law_hoist_here"] (defScope (top 75)) := ⟨rfl, rfl, rfl, by decide +kernel, rfl, by decide +kernel, by decide +kernel⟩
theorem c__law_number (T : Txt K mg) : C8.Cal P w K mg base 3 "_law_number" (spH K 5 R__law_number) [] := by
  refine okH T.t__law_number sc__law_number (fun _ _ _ _ _ _ us hl => match us, hl with | [_], _ => rfl) (fun ds S h => ?_) (fun f cdv A outer s H E mo p ds S hr hp h => ?_)
  · obtain ⟨rfl, rfl⟩ := h
    rfl
  obtain ⟨rfl, rfl⟩ := h
  exact xh_ret (h_callH (S := SNum) 0 (c__law_one T) hr (by decide) rfl hp (ha_cons (h_lst (ha_cons (h_pure fun c => pd_int) (ha_cons (h_pure fun c => pd_int) (ha_cons (h_pure fun c => pd_neg pd_int) (ha_cons (h_callP (S := SNum) (c__law_low T) hr (by decide) rfl (ha_cons (h_sub (S := fun d => ∃ i : Int, d = .int i ∧ -9 ≤ i ∧ i ≤ 9) (h_callH 0 (c__law_winch T) hr (by decide) rfl hp (ha_cons (h_pure fun c => pd_int) ha_nil) (fun ds z => by obtain ⟨x, y, e, h1, h2⟩ := z; cases h1; cases h2; exact ⟨19, e, by decide, by decide, rfl⟩)) (h_pure fun c => pd_int) (fun x y h1 h2 => by obtain ⟨i, rfl, h3, h4⟩ := h1; cases h2; exact ⟨i, 9, rfl, rfl, _, rfl, by omega, by omega⟩)) (ha_cons (h_add (S := fun d => ∃ i : Int, d = .int i ∧ 1 ≤ i ∧ i ≤ 5) (h_pure fun c => pd_int) (h_callH 0 (c__law_winch T) hr (by decide) rfl hp (ha_cons (h_pure fun c => pd_int) ha_nil) (fun ds z => by obtain ⟨x, y, e, h1, h2⟩ := z; cases h1; cases h2; exact ⟨5, e, by decide, by decide, rfl⟩)) (fun x y h1 h2 => by obtain ⟨i, rfl, h3, h4⟩ := h2; cases h1; exact ⟨1, i, rfl, rfl, _, rfl, by omega, by omega⟩)) ha_nil)) (fun ds z => by obtain ⟨x, r, rfl, ⟨i, rfl, h1, h2⟩, ⟨y, r2, rfl, ⟨j, rfl, h3, h4⟩, h5⟩⟩ := z; cases h5; exact ⟨_, rl_low (by omega) (by omega), _, rfl, snum_frac (by omega) (by omega) (by omega) (by omega)⟩)) (ha_cons (h_sub (S := SNum) (h_callH 0 (c__law_winch T) hr (by decide) rfl hp (ha_cons (h_pure fun c => pd_int) ha_nil) (fun ds z => by obtain ⟨x, y, e, h1, h2⟩ := z; cases h1; cases h2; exact ⟨9, e, by decide, by decide, rfl⟩)) (h_pure fun c => pd_int) (fun x y h1 h2 => by obtain ⟨i, rfl, h3, h4⟩ := h1; cases h2; exact ⟨i, 4, rfl, rfl, _, (num_int _).symm, snum_int (by omega) (by omega)⟩)) (ha_cons (h_callP (S := SNum) (c__law_low T) hr (by decide) rfl (ha_cons (h_add (S := fun d => ∃ i : Int, d = .int i ∧ 1 ≤ i ∧ i ≤ 99) (h_mul (S := fun d => ∃ i : Int, d = .int i ∧ 0 ≤ i ∧ i ≤ 98) (h_pure fun c => pd_int) (h_callH 0 (c__law_winch T) hr (by decide) rfl hp (ha_cons (h_pure fun c => pd_int) ha_nil) (fun ds z => by obtain ⟨x, y, e, h1, h2⟩ := z; cases h1; cases h2; exact ⟨50, e, by decide, by decide, rfl⟩)) (fun x y h1 h2 => by obtain ⟨i, rfl, h3, h4⟩ := h2; cases h1; exact ⟨2, i, rfl, rfl, mulx_ok (a := 2) (b := 7) (by decide) (lt128 (by omega)) (by decide), _, rfl, by omega, by omega⟩)) (h_pure fun c => pd_int) (fun x y h1 h2 => by obtain ⟨i, rfl, h3, h4⟩ := h1; cases h2; exact ⟨i, 1, rfl, rfl, _, rfl, by omega, by omega⟩)) (ha_cons (h_pure fun c => pd_int) ha_nil)) (fun ds z => by obtain ⟨x, r, rfl, ⟨i, rfl, h1, h2⟩, ⟨y, r2, rfl, h4, h5⟩⟩ := z; cases h4; cases h5; exact ⟨_, rl_low (by omega) (by omega), _, rfl, snum_frac (by omega) (by omega) (by omega) (by omega)⟩)) ha_nil)))))) (fun ds z => by obtain ⟨x1, r1, rfl, _, x2, r2, rfl, _, x3, r3, rfl, _, x4, r4, rfl, _, x5, r5, rfl, _, x6, r6, rfl, _, h7⟩ := z; cases h7; exact Nat.le_of_ble_eq_true rfl)) ha_nil) (fun ds z => by
    obtain ⟨d, r, rfl, ⟨es, rfl, x1, r1, rfl, s1, x2, r2, rfl, s2, x3, r3, rfl, s3, x4, r4, rfl, s4, x5, r5, rfl, s5, x6, r6, rfl, s6, h7⟩, h8⟩ := z
    cases h7
    cases h8
    cases s1
    cases s2
    cases s3
    refine ⟨_, rfl, by simp, by simp, fun d hd => ?_⟩
    simp only [List.mem_cons, List.not_mem_nil, or_false] at hd
    rcases hd with rfl | rfl | rfl | rfl | rfl | rfl
    · exact ⟨0, num0.symm, bdLe bd0 (by decide)⟩
    · exact ⟨1, (num_int 1).symm, bdLe bd1 (by decide)⟩
    · exact ⟨-1, (num_int (-1)).symm, bdLe bdM1 (by decide)⟩
    · exact s4
    · exact s5
    · exact s6)) (by decide) (fun d z => z)
end
end Cv

set_option Elab.async false
set_option linter.all false
set_option maxRecDepth 100000
set_option maxHeartbeats 2000000
/-! repr of nested data: where no repr is under way. Defs that are called so. -/
namespace Cv
open PySem PySem.Spec PyProof.Rows L2
structure Rb (d : PyData) (n k : Nat) : Prop where
  sh : d.showable = true
  ls : d.leavesShort 1001 = true
  nd : d.hasDict = false
  bk : d.bulk ≤ n
  dp : d.depth ≤ k
structure RbA (ds : List PyData) (n k : Nat) : Prop where
  sh : PyData.showableAll ds = true
  ls : PyData.leavesShortAll 1001 ds = true
  nd : PyData.hasDictAll ds = false
  bk : PyData.bulkAll ds ≤ n
  dp : PyData.depthAll ds ≤ k
theorem rb_int {i : Int} (h : i.natAbs < 2 ^ 1000) : Rb (.int i) 0 0 := by
  have h2 : i.natAbs.log2 < 1000 := by
    by_cases hz : i.natAbs = 0
    · rw [hz]; decide
    · exact (Nat.log2_lt hz).mpr h
  refine ⟨?_, ?_, ?_, ?_, ?_⟩
  · simp only [PyData.showable, decide_eq_true_eq]
    omega
  · simp only [PyData.leavesShort, decide_eq_true_eq]
    show (Str.ofString (toString i)).length ≤ 1001
    rw [PySem.ofString_length]
    exact int_text_length_le (by decide) h2
  · simp [PyData.hasDict]
  · simp [PyData.bulk]
  · simp [PyData.depth]
theorem rb_nil : RbA [] 0 0 := ⟨by simp [PyData.showableAll], by simp [PyData.leavesShortAll], by simp [PyData.hasDictAll], by simp [PyData.bulkAll], by simp [PyData.depthAll]⟩
theorem rb_cons {d : PyData} {ds : List PyData} {a b k : Nat} {k' : Nat} (h : Rb d a k) (t : RbA ds b k') : RbA (d :: ds) (a + 1 + b) (max k k') := by
  obtain ⟨h1, h2, h3, h4, h5⟩ := h
  obtain ⟨t1, t2, t3, t4, t5⟩ := t
  refine ⟨by simp [PyData.showableAll, h1, t1], by simp [PyData.leavesShortAll, h2, t2], by simp [PyData.hasDictAll, h3, t3], ?_, ?_⟩
  · simp only [PyData.bulkAll]; omega
  · simp only [PyData.depthAll]; omega
theorem rb_tup {ds : List PyData} {n k : Nat} (h : RbA ds n k) : Rb (.tuple ds) n (k + 1) := by
  obtain ⟨h1, h2, h3, h4, h5⟩ := h
  refine ⟨by simpa only [PyData.showable] using h1, by simpa only [PyData.leavesShort] using h2, by simpa only [PyData.hasDict] using h3, by simpa only [PyData.bulk] using h4, by simp only [PyData.depth]; omega⟩
theorem rb_lst {ds : List PyData} {n k : Nat} (h : RbA ds n k) : Rb (.list ds) n (k + 1) := by
  obtain ⟨h1, h2, h3, h4, h5⟩ := h
  refine ⟨by simpa only [PyData.showable] using h1, by simpa only [PyData.leavesShort] using h2, by simpa only [PyData.hasDict] using h3, by simpa only [PyData.bulk] using h4, by simp only [PyData.depth]; omega⟩
theorem Rb.up {d : PyData} {n n' k k' : Nat} (h : Rb d n k) (hn : n ≤ n') (hk : k ≤ k') : Rb d n' k' := ⟨h.sh, h.ls, h.nd, Nat.le_trans h.bk hn, Nat.le_trans h.dp hk⟩
theorem rb_num {x : Rat} {n : Nat} (b : Bd x n) (hn : n ≤ 1000) : Rb (num x) 2 1 := by
  have b' := bdLe b hn
  unfold num
  split
  · exact (rb_int b'.up).up (by decide) (by decide)
  · exact (rb_tup (rb_cons (rb_int b'.up) (rb_cons (rb_int (nd_bd b'.dn)) rb_nil))).up (by decide) (by decide)
theorem rb_len {d : PyData} {n k : Nat} (h : Rb d n k) (hn : n ≤ 10000) : d.shown.length ≤ sizeLine := by
  have h1 := PyData.shown_le_bulk 1001 (by decide) d h.ls
  have h2 := h.bk
  rw [sizeLine_eq]
  have : (1001 + 2) * d.bulk ≤ 1003 * 10000 := Nat.mul_le_mul (by decide) (by omega)
  omega
theorem rb_pt {x y : Rat} {n m : Nat} (a : Bd x n) (b : Bd y m) (hn : n ≤ 1000) (hm : m ≤ 1000) : Rb (pt x y) 6 2 := (rb_tup (rb_cons (rb_num a hn) (rb_cons (rb_num b hm) rb_nil))).up (by decide) (by decide)
theorem rb_pl {p : Pl} (h : PB' p 690 142 904) : Rb p.d 17 3 := by
  unfold Pl.d
  exact (rb_tup (rb_cons (rb_pt h.b1 h.b2 (by decide) (by decide)) (rb_cons (rb_pt h.b3 h.b4 (by decide) (by decide)) (rb_cons (rb_num h.b5 (by decide)) rb_nil)))).up (by decide) (by decide)
theorem rb_map {α : Type} {f : α → PyData} {n k : Nat} : ∀ {l : List α}, (∀ x ∈ l, Rb (f x) n k) → RbA (l.map f) ((n + 1) * l.length) k
  | [], _ => ⟨rb_nil.sh, rb_nil.ls, rb_nil.nd, by simp [PyData.bulkAll], by simp [PyData.depthAll]⟩
  | x :: l, h => by
    have := rb_cons (h x List.mem_cons_self) (rb_map (l := l) fun y hy => h y (List.mem_cons_of_mem _ hy))
    refine ⟨this.sh, this.ls, this.nd, Nat.le_trans this.bk ?_, Nat.le_trans this.dp (by omega)⟩
    rw [List.length_cons, Nat.mul_succ]
    omega
section
variable {X : Cx} {m : Md} {g : List Sl} {a : Expr} {pos : Pos}
def rRepr (K : PySem.W.Frag) : List V → Hp → VK → Prop := fun vs H Q => ∃ (a : Addr) (d : PyData) (n k : Nat), vs = [.ref a] ∧ Dp K H (.ref a) d ∧ Rb d n k ∧ n ≤ 10000 ∧ k ≤ 50 ∧ Q (.str d.shown) H
theorem call_repr {j : Nat} (hg : X.A.guards = some []) (hr : Room j X.A) : CallR X (.builtin "repr") (rRepr X.K) := by
  intro pins s σ H vs us Q I r h
  obtain ⟨a, d, n, k, rfl, hd, hb, hn, hk, q⟩ := h
  obtain ⟨u, rfl, ru⟩ := Vals.one r
  obtain rfl : u = Value.ref a := ru
  obtain ⟨as, rd⟩ := Dp.reads I d (.ref a) (.ref a) hd rfl
  have hu := hr.un
  have hdp := hb.dp
  exact repr_of_reads' rd hb.sh (fun z => by rw [hb.nd] at z; cases z) hg (by omega) (fun _ _ e => e) (fun h' u' tk hk => ⟨.str d.shown, H, I.kept hk, ⟨_, rfl⟩, q⟩) (rb_len hb hn)
theorem pd_repr {d : PyData} {j n k : Nat} {p : Pos} (hgd : X.A.guards = some []) (hr : Room j X.A) (ha : PD X m g a (Is d)) (hb : Rb d n k) (hn : n ≤ 10000) (hk : k ≤ 50) (hd : (∃ ds, d = .list ds) ∨ ∃ ds, d = .tuple ds) (hg : Gl X "repr") (hm : X.mg "repr" = none) (hs : starEach [a] X.env = (false, eval a X.env) :: starEach [] X.env := by rfl) : PD X m g (.Call (.Name "repr" p) [a] [] pos) (Is (.str d.shown)) :=
  pd_cb (f := .none) (pe_callB (call_repr hgd hr) hg hm (by decide +kernel) (pl_cons ha pl_nil hs) (he := hs) (hpl := by rfl)) fun es us H Q al s q k' => by
    cases s
    obtain ⟨u, rfl, q0⟩ := dps1 q
    have q1 := dp_mono (del_same _ _) _ _ q0
    rcases hd with ⟨ds, rfl⟩ | ⟨ds, rfl⟩
    · obtain ⟨l, xs, rfl, _⟩ := dp_lst q0
      exact ⟨l, _, n, k, rfl, q1, hb, hn, hk, k' _ _ H (Same.refl H) rfl (.str _)⟩
    · obtain ⟨l, xs, rfl, _⟩ := dp_tup q0
      exact ⟨l, _, n, k, rfl, q1, hb, hn, hk, k' _ _ H (Same.refl H) rfl (.str _)⟩
end
/-! ### a def that is called where nothing is under way -/
structure FnG (P : Program) (w : World) (K : PySem.W.Frag) (mg : Str → Option Value) (base : Heap) (k : Nat) (f : Addr) (fd : FuncData) (ps : List Str) (sp : Sp) : Prop where
  len : ∀ vs H Q E, sp vs H Q E → vs.length = ps.length
  run : ∀ (A : Around) (outer : List Env) (s : Shared) (H : Hp) (args : Args) (us : List Value) (vs : List V) (Q : VK) (E : XK), A.guards = some [] → Room k A → Env0 P w K mg base A outer s H → BindsTo s fd args (ps.zip us) → Vals vs us → sp vs H Q E →
    codeAny (model P w) A (.call (.ref f) args) (CR CX0 outer P w H s Q E) s
theorem fnG_of {P : Program} {w : World} {K : PySem.W.Frag} {mg : Str → Option Value} {base : Heap} {k : Nat} {f : Addr} {name qual : Str} {params : Arguments} {body : List Stmt} {scope : Scope} {dV kV doc pm cdv ct oc : Value} {an od : Option Addr}
    {osl : Array (Option Value)} {N ps : List Str} {sp : Sp} (lk : K.lookup f = some ⟨oc, od, .func (PySem.W.fnOf name qual params body scope dV kV doc pm an cdv ct), osl⟩) (hcd : PySem.W.codeIn K cdv qual = true) (S : FnScope N ps scope)
    (len : ∀ vs H Q E, sp vs H Q E → vs.length = ps.length)
    (hbody : ∀ (A : Around) (outer : List Env) (s : Shared) (H : Hp) (vs : List V) (Q : VK) (E : XK), A.guards = some [] → Room k (A.deeper (envOfC qual scope s.heap.objs.size f cdv)) → sp vs H Q E →
      ∃ t, PSs (cxOf CX0 P w K mg base N qual scope f cdv A outer s H E) body t ∧ t { nx := fun _ H' => Q .non H', rt := Q } (start N vs) H) :
    FnG P w K mg base (k + 1) f (PySem.W.fnOf name qual params body scope dV kV doc pm an cdv ct) ps sp := by
  refine ⟨len, fun A outer s H args us vs Q E hgd hr e0 hb r hsp => ?_⟩
  have hl := len _ _ _ _ hsp
  have KX : K.In s.heap := e0.mod.kin.keeps fun b o e => (e0.bs b o e).1
  have lim : s.heap.NoLimit := e0.mod.nolimit.keeps fun b o e => (e0.bs b o e).1
  have hkind : ∀ y ∈ ps.zip us, scope.names.lookup y.1 = some .local ∨ (scope.names.lookup y.1 = some .cell ∧ ((cellsFrom (s.heap.objs.size + 1) scope.names []).lookup y.1).isSome = true) := fun ⟨n, v⟩ hy => by
    rcases S.par n (List.of_mem_zip hy).1 with q | q
    · exact .inl q
    · exact .inr ⟨q, PySem.W.cellsFrom_some _ _ _ (.inl q)⟩
  refine codeAny_call_function hr.depth (KX _ _ lk) rfl S.co S.gen rfl (PySem.W.codeRec_of KX hcd) (hb _ _ _ _ ?_)
  refine wpAny_newFunctionEnv_cells S.kind hkind fun env he s1 x => ?_
  subst he
  refine ⟨lim.keeps x.toInCall.keep, codeAny_func ?_⟩
  obtain ⟨t, ht, hq⟩ := hbody A outer s H vs Q E hgd (hr.deeper _) hsp
  have I : Inv (cxOf CX0 P w K mg base N qual scope f cdv A outer s H E) [] (start N vs) H s1 := inv_start S hr.hd e0 hl r x
  refine wpAny_mono (ht.run [] s1 (start N vs) H _ I hq) (fun fl s' hs => ?_) fun e s' hs => hs
  have fin : ∀ {σ' : L2.St} {H' : Hp} {v : V} {u : Value}, Inv (cxOf CX0 P w K mg base N qual scope f cdv A outer s H E) [] σ' H' s' → RelV v u → Q v H' → CE outer P w H s Q u s' :=
    fun {σ' H' v u} J rv q => ⟨v, H', J.os, J.bare, J.base, J.hok, rv, q⟩
  cases fl with
  | ret u =>
    obtain ⟨v, σ', H', J, rv, q⟩ := hs
    exact fin J rv q
  | next =>
    obtain ⟨σ', H', J, q⟩ := hs
    exact fin (v := V.non) (u := Value.none) J rfl q
  | brk =>
    obtain ⟨_, _, _, q⟩ := hs
    exact False.elim q
  | cont =>
    obtain ⟨_, _, _, q⟩ := hs
    exact False.elim q
structure CalG (P : Program) (w : World) (K : PySem.W.Frag) (mg : Str → Option Value) (base : Heap) (k : Nat) (x : Str) (sp : Sp) : Prop where
  ex : ∃ (f : Addr) (fd : FuncData) (ps : List Str), FnG P w K mg base k f fd ps sp ∧ mg x = some (.ref f) ∧ PySem.W.keepIn K (.ref f) = true ∧ Binds K fd ps []
theorem pe_cG {X : Cx} {k j : Nat} {x : Str} {sp : Sp} {p pos : Pos} {e : Expr} {es : List Expr} {t : TA} (c : CalG X.prog X.w X.K X.mg X.base k x sp) (hgd : X.A.guards = some []) (hr : Room j X.A) (hk : k ≤ j) (hg : Gl X x) (ha : PA X (e :: es) t)
    (hdb : (x == ("__debug__" : Str)) = false := by decide) (he : starEach (e :: es) X.env = (false, eval e X.env) :: starEach es X.env := by rfl) (hpl : (backTo pos (starEach es X.env)).any (·.1) = false := by rfl) :
    PE X (.Call (.Name x p) (e :: es) [] pos) (tCall sp [] E0 t) := by
  obtain ⟨f, fd, ps, F, hm, kp, b⟩ := c.ex
  refine ⟨fun pins s σ H Q I h => ?_⟩
  refine wpAny_Call_Name_kw (ld_glob I hg hm ?_ hdb)
  refine PySem.W.callWith_K (h₀ := X.base) I.ok.mod.kin kp (thn (ha.run pos pins s σ H _ I h) fun us s1 ⟨vs, H1, I1, r, q⟩ => ⟨I1.kIn, ?_⟩) he hpl
  have r2 : Vals (vs ++ []) (us ++ []) := r.append .nil
  have hl : (us ++ ([] : List Value)).length = ps.length := by rw [← r2.length]; exact F.len _ _ _ _ q
  refine wpAny_call (codeAny_mono (F.run X.A X.stack s1 H1 ⟨us, []⟩ (us ++ []) (vs ++ []) Q E0 hgd (hr.mono hk) I1.env0 (b s1 us I1.kIn hl) r2 q) fun r s' hq => ?_)
  cases r with
  | error e => exact pass0 pins σ H1 s1 e s' I1 hq
  | ok fl =>
    cases fl with
    | ret u => exact I1.after hq
    | next => exact False.elim hq
    | brk => exact False.elim hq
    | cont => exact False.elim hq
section
variable {P : Program} {w : World} {K : PySem.W.Frag} {mg : Str → Option Value} {base : Heap}
theorem okHG {x : Str} {i : Nat} {st : Nat → Stmt} {N ps : List Str} {k kk : Nat} {R : List PyData → (PyData → Prop) → Prop} (F : Tx K mg i x st) (S : FnScope N ps (defScope (st i))) (hb : ∀ (kV doc pm : Value) (an : Option Addr) (cdv ct : Value) (us : List Value), us.length = ps.length → bindArgs (PySem.W.fnOf x x (defArgs (st i)) (defBody (st i)) (defScope (st i)) .none kV doc pm an cdv ct) ⟨us, []⟩ = pure (ps.zip us))
    (hR : ∀ ds S, R ds S → ds.length + 1 = ps.length)
    (body : ∀ (f : Addr) (cdv : Value) (A : Around) (outer : List Env) (s : Shared) (H : Hp) (E : XK) (m : Md) (p : Addr) (ds : List PyData) (S : PyData → Prop), A.guards = some [] → Room k (A.deeper (envOfC x (defScope (st i)) s.heap.objs.size f cdv)) → p ∉ m.zs → R ds S →
      PSs (cxOf CX0 P w K mg base N x (defScope (st i)) f cdv A outer s H E).nox (defBody (st i)) (tXH K m p kk (g0H N p ds) S Nof)) : CalG P w K mg base (k + 1) x (spH K kk R) := by
  obtain ⟨f, fd, F1, hm⟩ := F.ex
  refine ⟨f, fd, ps, ?_, hm, F1.kp, F1.bindsN hb⟩
  obtain ⟨oc, od, dV, kV, doc, pm, an, cdv, ct, osl, rfl, lk, hcd, _, _⟩ := F1.ex
  refine fnG_of lk hcd S (fun vs H Q E h => ?_) (fun A outer s H vs Q E hgd hr h => ?_)
  · obtain ⟨zs, p, us, ds, c, S', rfl, _, _, h1, _, _, h2, _⟩ := h
    rw [List.length_cons, dps_len h1, hR ds S' h2]
  · obtain ⟨zs, p, us, ds, c, S', rfl, hp, al, h1, hw, hc, h2, h3⟩ := h
    have hl := dps_len h1
    refine ⟨_, PSs.nox (body f cdv A outer s H E (mdP zs (del [p] H)) p ds S' hgd hr hp h2), ?_⟩
    refine ⟨c, hc, ⟨al, ⟨fun _ _ _ e => e, hw⟩, ?_⟩, fun v d H' n st z q => ?_, fun _ _ _ _ z => z.elim⟩
    · show RepS K (del (p :: zs) H) (.v (.ref p) :: (ds.map Sl.d ++ List.replicate (N.length - (ds.length + 1)) .no)) (some (.ref p) :: (us.map some ++ List.replicate (N.length - (us.length + 1)) none))
      rw [hl]
      exact ⟨rfl, repS_start _ h1⟩
    · refine h3 v d H' n (fun z hz o e => ?_) st.al st.w.2 z q
      have hzp : z ∉ [p] := fun m => hp (by rw [← List.mem_singleton.mp m]; exact hz)
      exact (del_some (st.w.1 z hz o (by rw [del_out hzp]; exact e))).2
end
end Cv

set_option Elab.async false
set_option linter.all false
set_option maxRecDepth 100000
set_option maxHeartbeats 2000000
/-! A call by keywords alone; dict(a list of pairs)[a pair]. -/
namespace Cv
open PySem PySem.Spec PyProof.Rows L2
section
variable {X : Cx} {CX : CXT} {k : Nat} {f : Addr} {fd : FuncData} {ps ks : List Str} {sp : Sp} {E : XK} {x : Str} {p pos : Pos} {kws : List Keyword} {tk : TA} {g : List Value → List Value → List Value} {gV : List V → List V → List V}
theorem pe_callK0 (F : FnOk X.prog X.w X.K X.mg X.base CX k f fd ps sp) (hr : Room k X.A) (hg : Gl X x) (hm : X.mg x = some (.ref f)) (hk : PySem.W.keepIn X.K (.ref f) = true) (hb : KBinds X.K fd ps ks g gV) (hx : Passes CX X E)
    (hkw : PK X kws tk) (hall : (backToKw pos (keywordEach kws X.env)).all (·.1.isSome) = true := by rfl) (hks : (backToKw pos (keywordEach kws X.env)).filterMap (·.1) = ks := by rfl)
    (hdb : (x == ("__debug__" : Str)) = false := by decide) (hpl : ((backTo pos (starEach [] X.env)).any (·.1) || (backToKw pos (keywordEach kws X.env)).any (·.1.isNone)) = false := by rfl) :
    PE X (.Call (.Name x p) [] kws pos) (fun σ H Q => tk σ H fun zs H2 => sp (gV [] zs) H2 Q E) := by
  refine ⟨fun pins s σ H Q I h => ?_⟩
  refine wpAny_Call_Name_kw (ld_glob I hg hm ?_ hdb)
  refine PySem.W.callWith_KW0 (h₀ := X.base) I.ok.mod.kin hk hall (thn (hkw.run pos pins s σ H _ I h) fun ws s2 ⟨zs, H2, I2, rz, q2⟩ => ⟨I2.kIn, ?_⟩) hpl
  rw [hks]
  exact run_fnk (us := []) F hr hb hx I2 .nil rz q2
end
/-! ### dict(pairs)[pair] -/
structure DPe where
  t : Addr
  tk : Addr
  v : V
  i : Int
  j : Int
def DPe.key (e : DPe) : List L2.Key := [.inl e.i, .inl e.j]
theorem storedAllH_new {κ : Type} [DecidableEq κ] : ∀ (more xs : List (κ × Addr × Value)), (more.map (·.1)).Nodup → (∀ p ∈ more, atKey xs p.1 = none) → storedAllH xs more = xs ++ more
  | [], xs, _, _ => (List.append_nil _).symm
  | p :: more, xs, hn, h => by
    have hn' := List.nodup_cons.mp hn
    show storedAllH (storedH xs p.1 p.2.1 p.2.2) more = _
    rw [storedH_new (h p List.mem_cons_self), storedAllH_new more _ hn'.2 fun q hq => ?_, List.append_assoc]
    · rfl
    · have h1 := h q (List.mem_cons_of_mem _ hq)
      have hne : ¬ p.1 = q.1 := fun e => hn'.1 (List.mem_map.mpr ⟨q, hq, e.symm⟩)
      unfold atKey at h1 ⊢
      rw [Option.map_eq_none_iff] at h1 ⊢
      rw [List.find?_append, h1]
      simp [hne]
theorem atKey_mem {κ : Type} [DecidableEq κ] : ∀ {xs : List (κ × Addr × Value)} {p : κ × Addr × Value}, (xs.map (·.1)).Nodup → p ∈ xs → atKey xs p.1 = some p.2
  | [], p, _, h => by cases h
  | q :: xs, p, hn, h => by
    have hn' := List.nodup_cons.mp hn
    rcases List.mem_cons.mp h with e | h
    · subst e
      simp [atKey]
    · have hne : ¬ q.1 = p.1 := fun e => hn'.1 (List.mem_map.mpr ⟨p, h, e.symm⟩)
      have := atKey_mem hn'.2 h
      unfold atKey at this ⊢
      simp [hne] at this ⊢
      exact this
section
variable {X : Cx}
theorem pairs_of {pins : List (Addr × Obj)} {σ : L2.St} {H : Hp} {s : Shared} (I : Inv X pins σ H s) : ∀ es : List DPe, (∀ e ∈ es, SqT X.K H e.t [.ref e.tk, e.v] ∧ SqT X.K H e.tk [.int e.i, .int e.j]) →
    ∃ us : List Value, Paired (fun (e : DPe) (u : Value) => RelV e.v u ∧ PairAt s.heap e.t (.ref e.tk) u ∧ IsTupleKey (L2.mixKind X.prog X.w) s.heap e.key e.tk) es us
  | [], _ => ⟨[], .nil⟩
  | e :: es, h => by
    obtain ⟨us, t⟩ := pairs_of I es fun e' he => h e' (List.mem_cons_of_mem _ he)
    obtain ⟨h1, h2⟩ := h e List.mem_cons_self
    obtain ⟨its, rv, hT, _⟩ := I.tuple h1
    obtain ⟨its2, rv2, ⟨o2, ho2, hc2, n2, hd2⟩, _⟩ := I.tuple h2
    cases rv with
    | cons r1 r2 =>
      cases r2 with
      | cons r3 r4 =>
        cases r4
        cases r1
        refine ⟨_ :: us, .cons ⟨r3, .inl hT, o2, its2.toArray, n2, ho2, hc2, hd2, ?_⟩ t⟩
        have := items_are (P := X.prog) (w := X.w) (ks := [.inl e.i, .inl e.j]) (us := its2) rv2
        show ItemsAre _ [Sum.inl e.i, Sum.inl e.j] its2.toArray.toList
        simpa using this
theorem IsTupleKey.kept {P : Program} {w : World} {h h' : Heap} {ks : List L2.Key} {a : Addr} (x : IsTupleKey (L2.mixKind P w) h ks a) (k : ∀ o, h.get? a = some o → h'.get? a = some o) : IsTupleKey (L2.mixKind P w) h' ks a := let ⟨o, i, n, ho, r⟩ := x; ⟨o, i, n, k o ho, r⟩
def tDP (K : PySem.W.Frag) (ix : Nat) (tl : TE) : TE := fun σ H Q => tl σ H fun x H1 => ∃ (l : Addr) (es : List DPe) (tp : Addr) (e : DPe), x = .ref l ∧ SqL K H1 l (es.map fun e => V.ref e.t) ∧ (∀ e ∈ es, SqT K H1 e.t [.ref e.tk, e.v] ∧ SqT K H1 e.tk [.int e.i, .int e.j]) ∧ (es.map DPe.key).Nodup ∧ es.length ≤ 1000 ∧
  σ[ix]? = some (some (.ref tp)) ∧ e ∈ es ∧ SqT K H1 tp [.int e.i, .int e.j] ∧ Q e.v H1
theorem pe_dpair (ix : Nat) {lc : Expr} {tl : TE} {nm : Str} {p pn q pos : Pos} (hc : X.calm = true) (hu : X.A.units + 3 < cLine) (hg : Gl X "dict") (hm : X.mg "dict" = none) (hl : PE X lc tl) (hN : X.N[ix]? = some nm) (hv : Vis X.env.scope nm) (hd : (nm == ("__debug__" : Str)) = false := by decide) (hcd : (nm == ("__classdict__" : Str)) = false := by decide)
    (na : starEach [lc] X.env = (false, eval lc X.env) :: starEach [] X.env := by rfl) (hs : NoSl (.Name nm pn) := by intro _ _; rfl) : PE X (.Subscript (.Call (.Name "dict" p) [lc] [] q) (.Name nm pn) pos) (tDP X.K ix tl) := by
  refine ⟨fun pins s σ H Q I h => ?_⟩
  refine subD_of PySem.F.slot_dict_getitem.lookup hs ?_
  refine Call_ (ld_blt I hg hm boot_dict (PyProof.Rows.callWith_type1 (args_cons (thn (hl.run pins s σ H _ I h) fun x s1 ⟨y, H1, I1, r1, l, es, tp, e0, ey, hS, hE, hn, hz, hsl, he0, htp, qq⟩ => args_nil ?_) na) na))
  subst ey
  obtain rfl : x = Value.ref l := r1
  obtain ⟨its, rv, pl, _⟩ := I1.list hS
  obtain ⟨us, pr⟩ := pairs_of I1 es hE
  have hul : es.length = us.length := pr.length
  have hits : its = es.map fun e => Value.ref e.t := by
    have key : ∀ (es : List DPe) (its : List Value), Vals (es.map fun e => V.ref e.t) its → its = es.map fun e => Value.ref e.t := by
      intro es
      induction es with
      | nil => intro its r; cases r; rfl
      | cons e es ih =>
        intro its r
        cases r with
        | cons a b =>
          cases a
          rw [List.map_cons, ih _ b]
    exact key es its rv
  subst hits
  obtain ⟨ps, hps⟩ : ∃ ps : List (List L2.Key × Addr × Value), ps = (es.zip us).map fun (z : DPe × Value) => (z.1.key, z.1.tk, z.2) := ⟨_, rfl⟩
  have hpl : ps.length = es.length := by rw [hps, List.length_map, List.length_zip, ← hul, Nat.min_self]
  have hp1 : ps.map (·.1) = es.map DPe.key := by
    rw [hps, List.map_map]
    show (es.zip us).map (DPe.key ∘ Prod.fst) = _
    rw [← List.map_map, List.map_fst_zip (by omega)]
  have keyAt : ∀ {pins' : List (Addr × Obj)} {s' : Shared} {ad : Addr} {i j : Int}, Inv X pins' σ H1 s' → SqT X.K H1 ad [.int i, .int j] → IsTupleKey (L2.mixKind X.prog X.w) s'.heap [Sum.inl i, Sum.inl j] ad := fun {pins' s' ad i j} J hq => by
    obtain ⟨its2, rv2, ⟨o2, ho2, hc2, n2, hd2⟩, _⟩ := J.tuple hq
    have := items_are (P := X.prog) (w := X.w) (ks := [.inl i, .inl j]) (us := its2) rv2
    exact ⟨o2, its2.toArray, n2, ho2, hc2, hd2, by simpa using this⟩
  have hkeys : ∀ {pins' : List (Addr × Obj)} {s' : Shared}, Inv X pins' σ H1 s' → ∀ z ∈ ps, IsTupleKey (L2.mixKind X.prog X.w) s'.heap z.1 z.2.1 := by
    intro pins' s' J z hz'
    rw [hps] at hz'
    obtain ⟨⟨e, u⟩, hm', rfl⟩ := List.mem_map.mp hz'
    exact keyAt J (hE e (List.of_mem_zip hm').1).2
  have pget : ∀ {α β : Type} {R : α → β → Prop} {l : List α} {m : List β}, Paired R l m → ∀ (j : Nat) (a : α) (b : β), l[j]? = some a → m[j]? = some b → R a b := by
    intro α β R l m h
    induction h with
    | nil => intro j a b h1; simp at h1
    | cons h t ih =>
      intro j a b h1 h2
      cases j with
      | zero => cases h1; cases h2; exact h
      | succ j => exact ih j a b h1 h2
  have hzip : ∀ (j : Nat) (k v : Value), (ps.map fun z => ((Value.ref z.2.1, z.2.2) : Value × Value))[j]? = some (k, v) → ∃ e u, es[j]? = some e ∧ us[j]? = some u ∧ k = .ref e.tk ∧ v = u ∧ ps[j]? = some (e.key, e.tk, u) := by
    intro j k v hj
    rw [List.getElem?_map] at hj
    obtain ⟨z, hz1, hz2⟩ := Option.map_eq_some_iff.mp hj
    have hz3 := hz1
    rw [hps, List.getElem?_map] at hz1
    obtain ⟨⟨e, u⟩, hz4, hz5⟩ := Option.map_eq_some_iff.mp hz1
    rw [List.getElem?_zip_eq_some] at hz4
    subst hz5
    simp only [Prod.mk.injEq] at hz2
    exact ⟨e, u, hz4.1, hz4.2, hz2.1.symm, hz2.2.symm, hz3⟩
  have P := PairArg.list (prog := X.prog) (w := X.w) l (es.map fun e => Value.ref e.t).toArray (fun j => (es.getD j ⟨0, 0, .non, 0, 0⟩).t) (ps.map fun z => ((Value.ref z.2.1, z.2.2) : Value × Value))
  have hsz : (1000 : Nat) < sizeLine := by decide
  have big := I1.big
  have fr : H1 s1.heap.objs.size = none := I1.hok.fresh (Nat.le_refl _)
  refine call_dict_pairsH (knd := tupleKind (L2.mixKind X.prog X.w)) (ps := ps) P (I1.ok.hd hc) (show X.A.units + 1 + 1 < cLine by omega) ⟨pl, by rw [List.size_toArray, List.length_map, List.length_map, hpl], fun j k v hj => ?_⟩ ⟨by rw [List.length_map], fun j k v hj => ?_⟩ (fun h' hk z hz' => ?_) (by rw [List.length_map, hpl]; omega) fun h' tk hD hk => ?_
  · obtain ⟨e, u, he, hu', rfl, rfl, _⟩ := hzip j k v hj
    refine ⟨?_, ?_⟩
    · rw [List.getElem?_toArray, List.getElem?_map, he]
      simp [List.getD, he]
    · have := (pget pr j e v he hu').2.1
      simpa [List.getD, he] using this
  · obtain ⟨e, u, _, _, rfl, rfl, hps'⟩ := hzip j k v hj
    exact ⟨e.key, e.tk, hps', rfl⟩
  · have := hkeys I1 z hz'
    exact IsTupleKey.kept this fun o ho => hk _ o (Nat.ne_of_lt (Heap.lt_size ho)) (by simp) ho
  · rw [storedAllH_new ps [] (by rw [hp1]; exact hn) (fun _ _ => rfl), List.nil_append] at hD
    have I2 : Inv X pins σ H1 { s1 with heap := h', toks := tk } := I1.kept fun b o e => hk b o (by simp) e
    obtain ⟨od, es', ep, hod, hex, hdat, hes, his, hnd⟩ := hD
    obtain ⟨f0, f1, f2, _⟩ := I1.fpOk (Nat.le_refl _) fr
    have I3 : Inv X (pins ++ [(s1.heap.objs.size, od)]) σ H1 { s1 with heap := h', toks := tk } := I2.pins_of fun p hp => by
      rcases List.mem_append.mp hp with hp | hp
      · exact I2.pin p (List.mem_append_right _ hp)
      · rw [List.mem_singleton] at hp
        subst hp
        exact ⟨hod, f0, f1, f2, fun v z => by rw [hdat] at z; cases z⟩
    refine thn ((pe_var (pos := pn) hN hv hd hcd).run (pins ++ [(s1.heap.objs.size, od)]) _ σ H1 (fun x H' => x = .ref tp ∧ H' = H1) I3 ⟨_, hsl, rfl, rfl⟩) fun v s3 ⟨x, H4, I4, r4, e4, e5⟩ => ?_
    subst e4 e5
    obtain rfl : v = Value.ref tp := r4
    have hd4 := (I4.pin _ (List.mem_append_right _ (List.mem_append_right _ List.mem_cons_self))).1
    have hDO : s3.heap.DictOfH (tupleKind (L2.mixKind X.prog X.w)) s1.heap.objs.size ps := ⟨od, es', ep, hd4, hex, hdat, hes, fun z hz' => hkeys I4 z hz', hnd⟩
    obtain ⟨j, hj⟩ := List.mem_iff_getElem?.mp he0
    have hjl : j < us.length := by
      have := (List.getElem?_eq_some_iff.mp hj).1
      omega
    have hu0 : us[j]? = some us[j] := List.getElem?_eq_getElem hjl
    have hmem : (e0.key, e0.tk, us[j]) ∈ ps := by
      rw [hps]
      refine List.mem_map.mpr ⟨(e0, us[j]), ?_, rfl⟩
      exact List.mem_of_getElem? (i := j) (by rw [List.getElem?_zip_eq_some]; exact ⟨hj, hu0⟩)
    have hat := atKey_mem (by rw [hp1]; exact hn) hmem
    have I5 : Inv X pins σ H4 s3 := I4.pins_of fun p hp => I4.pin p (List.mem_append_right _ (List.mem_append_left _ hp))
    exact ⟨⟨od, hd4, hex.1⟩, wpAny_getItem_heap (tupleKind_room_in1 (by omega)) (keyAt I4 htp) hDO hat ⟨e0.v, H4, I5.tok _, (pget pr j e0 _ hj hu0).1, qq⟩⟩
end
def dpD (q : Int × Int × PyData) : PyData := .tuple [.tuple [.int q.1, .int q.2.1], q.2.2]
def DPq (K : PySem.W.Frag) (G : Hp) (q : Int × Int × PyData) (e : DPe) : Prop := e.i = q.1 ∧ e.j = q.2.1 ∧ Dp K G e.v q.2.2 ∧ SqT K G e.t [.ref e.tk, e.v] ∧ SqT K G e.tk [.int e.i, .int e.j]
theorem dpe_of {K : PySem.W.Frag} {G : Hp} : ∀ {qs : List (Int × Int × PyData)} {xs : List V}, DpAll K G xs (qs.map dpD) → ∃ es : List DPe, xs = es.map (fun e => V.ref e.t) ∧ Paired (DPq K G) qs es
  | [], _, h => by cases h; exact ⟨[], rfl, .nil⟩
  | q :: qs, _, h => by
    cases h with
    | cons h1 h2 =>
      obtain ⟨es, rfl, hp⟩ := dpe_of h2
      obtain ⟨t, ys, rfl, h3, h4⟩ := dp_tup h1
      obtain ⟨a, b, rfl, h5, h6⟩ := dps2 h4
      obtain ⟨tk, zs, rfl, h7, h8⟩ := dp_tup h5
      obtain ⟨c, d, rfl, h9, h10⟩ := dps2 h8
      cases dp_int h9
      cases dp_int h10
      exact ⟨⟨t, tk, b, q.1, q.2.1⟩ :: es, rfl, .cons ⟨rfl, rfl, h6, h3, h7⟩ hp⟩
theorem paired_keys {K : PySem.W.Frag} {G : Hp} : ∀ {qs : List (Int × Int × PyData)} {es : List DPe}, Paired (DPq K G) qs es → es.map (fun e => (e.i, e.j)) = qs.map fun q => (q.1, q.2.1)
  | _, _, .nil => rfl
  | _, _, .cons h t => by rw [List.map_cons, List.map_cons, paired_keys t, h.1, h.2.1]
theorem paired_memL {α β : Type} {R : α → β → Prop} : ∀ {l : List α} {m : List β}, Paired R l m → ∀ a ∈ l, ∃ b ∈ m, R a b
  | _, _, .nil, a, ha => by cases ha
  | _, _, .cons h t, a, ha => by
    rcases List.mem_cons.mp ha with e | ha
    · subst e
      exact ⟨_, List.mem_cons_self, h⟩
    · obtain ⟨b, h1, h2⟩ := paired_memL t a ha
      exact ⟨b, List.mem_cons_of_mem _ h1, h2⟩
theorem pd_dpair {X : Cx} {m : Md} {g : List Sl} (ix : Nat) {qs : List (Int × Int × PyData)} {q0 : Int × Int × PyData} {lc : Expr} {nm : Str} {p pn q pos : Pos} (hc : X.calm = true) (hu : X.A.units + 3 < cLine) (hg : Gl X "dict") (hm : X.mg "dict" = none) (hl : PD X m g lc (Is (.list (qs.map dpD)))) (h0 : q0 ∈ qs) (hn : (qs.map fun q => (q.1, q.2.1)).Nodup) (hz : qs.length ≤ 1000)
    (hgx : g[ix]? = some (.d (.tuple [.int q0.1, .int q0.2.1])) := by rfl) (hN : X.N[ix]? = some nm := by rfl) (hv : Vis X.env.scope nm := by first | exact Or.inl rfl | exact Or.inr (Or.inl rfl) | exact Or.inr (Or.inr rfl)) (hd : (nm == ("__debug__" : Str)) = false := by decide) (hcd : (nm == ("__classdict__" : Str)) = false := by decide)
    (na : starEach [lc] X.env = (false, eval lc X.env) :: starEach [] X.env := by rfl) (hs : NoSl (.Name nm pn) := by intro _ _; rfl) : PD X m g (.Subscript (.Call (.Name "dict" p) [lc] [] q) (.Name nm pn) pos) (Is q0.2.2) :=
  PE.wk (pe_dpair ix hc hu hg hm hl hN hv hd hcd na hs) fun σ H Q ⟨o, kk⟩ => ⟨o, fun v d H1 n1 s1 q1 => by
    cases s1
    obtain ⟨l, xs, rfl, h1, h2⟩ := dp_lst q1
    obtain ⟨es, rfl, hp⟩ := dpe_of h2
    obtain ⟨ov, h3, w, h4, h5⟩ := repS_get (o.step n1).rp hgx
    subst h4
    obtain ⟨tp, ys, rfl, h6, h7⟩ := dp_tup h5
    obtain ⟨a, b, rfl, h8, h9⟩ := dps2 h7
    cases dp_int h8
    cases dp_int h9
    obtain ⟨e, he, e1, e2, e3, e4, e5⟩ := paired_memL hp q0 h0
    have sm := del_same m.zs H1
    refine ⟨l, es, tp, e, rfl, sqL_mono sm h1, fun e' he' => ?_, ?_, by rw [← hp.length]; exact hz, h3, he, by rw [e1, e2]; exact sqT_mono sm h6, kk _ _ H1 n1 rfl e3⟩
    · obtain ⟨q', _, _, _, _, g4, g5⟩ := paired_mem hp e' he'
      exact ⟨sqT_mono sm g4, sqT_mono sm g5⟩
    · have e6 : es.map DPe.key = (es.map fun e => (e.i, e.j)).map fun z => [Sum.inl z.1, Sum.inl z.2] := by rw [List.map_map]; rfl
      rw [e6, paired_keys hp]
      refine List.Pairwise.map _ (fun a b h e => h ?_) hn
      simp only [List.cons.injEq, Sum.inl.injEq, and_true] at e
      exact Prod.ext e.1 e.2⟩
end Cv

set_option Elab.async false
set_option linter.all false
set_option maxRecDepth 100000
set_option maxHeartbeats 2000000
/-! The plain part: how far places are from one another, what lies in the middle. -/
namespace Cv
open PySem
theorem plN_zero {px py ax ay u : Rat} (h : u = 0 ∨ (ax = 0 ∧ ay = 0)) : plN px py ax ay u = ⟨px, py, 0, 0, 0⟩ := by unfold plN; rw [if_pos h]
theorem plX_neg (x y : Rat) : plX (-x) (-y) = -plX x y ∧ plY (-x) (-y) = -plY x y ∧ plG (-x) (-y) = plG x y := by
  have h1 : plX (-x) (-y) = -plX x y := by unfold plX; rw [(neg_nd x).1, (neg_nd y).2, Int.neg_mul]
  have h2 : plY (-x) (-y) = -plY x y := by unfold plY; rw [(neg_nd y).1, (neg_nd x).2, Int.neg_mul]
  refine ⟨h1, h2, ?_⟩
  unfold plG
  rw [h1, h2, Int.neg_gcd, Int.gcd_neg]
theorem quot_rat {X g : Int} (h : g ∣ X) (hg : 0 < g) : ((X / g : Int) : Rat) = (X : Rat) / (g : Rat) := by
  obtain ⟨c, rfl⟩ := h
  rw [Int.mul_ediv_cancel_left _ (by omega), Rat.intCast_mul]
  have : (g : Rat) ≠ 0 := fun e => by
    have := Rat.intCast_inj.mp (show ((g : Int) : Rat) = ((0 : Int) : Rat) by rw [e]; rfl)
    omega
  grind
/-- what one turn looks like -/
structure PlF (lx ly u gx gy t : Rat) : Prop where
  t0 : t ≠ 0
  x : gx * t = lx
  y : gy * t = ly
  u0 : u ≠ 0
  p : ∀ px py, plN px py lx ly u = ⟨px, py, gx, gy, u * t * t⟩
  m : ∀ px py, plN px py (-lx) (-ly) u = ⟨px, py, -gx, -gy, u * t * t⟩
theorem plF_of {lx ly u : Rat} (h1 : ¬ (u = 0 ∨ (lx = 0 ∧ ly = 0))) (h2 : sqr u = none) : ∃ gx gy t, PlF lx ly u gx gy t := by
  have hL : ¬ (lx = 0 ∧ ly = 0) := fun z => h1 (.inr z)
  have hu : u ≠ 0 := fun z => h1 (.inl z)
  have hL' : ¬ (-lx = 0 ∧ -ly = 0) := fun z => hL ⟨by grind, by grind⟩
  have hg := plG_pos hL
  have dX : plG lx ly ∣ plX lx ly := Int.gcd_dvd_left ..
  have dY : plG lx ly ∣ plY lx ly := Int.gcd_dvd_right ..
  obtain ⟨n1, n2, n3⟩ := plX_neg lx ly
  have hgr : (plG lx ly : Rat) ≠ 0 := fun e => by
    have := Rat.intCast_inj.mp (show ((plG lx ly : Int) : Rat) = ((0 : Int) : Rat) by rw [e]; rfl)
    omega
  have d1 := den_ne lx
  have d2 := den_ne ly
  have r1 := rat_nd lx
  have r2 := rat_nd ly
  refine ⟨((plX lx ly / plG lx ly : Int) : Rat), ((plY lx ly / plG lx ly : Int) : Rat), (plG lx ly : Rat) / (((lx.den : Int) * (ly.den : Int) : Int) : Rat), ?_, ?_, ?_, hu, fun px py => ?_, fun px py => ?_⟩
  · rw [Rat.intCast_mul]
    generalize ((lx.den : Int) : Rat) = a at *
    generalize ((ly.den : Int) : Rat) = b at *
    generalize (plG lx ly : Rat) = c at *
    intro e
    have : c = 0 := by grind
    exact hgr this
  · rw [quot_rat dX hg, Rat.intCast_mul]
    have e : (plX lx ly : Rat) = (lx.num : Rat) * ((ly.den : Int) : Rat) := by unfold plX; rw [Rat.intCast_mul]
    rw [e]
    generalize ((lx.den : Int) : Rat) = a at *
    generalize ((ly.den : Int) : Rat) = b at *
    generalize (plG lx ly : Rat) = c at *
    generalize (lx.num : Rat) = n at *
    rw [← r1]
    grind
  · rw [quot_rat dY hg, Rat.intCast_mul]
    have e : (plY lx ly : Rat) = (ly.num : Rat) * ((lx.den : Int) : Rat) := by unfold plY; rw [Rat.intCast_mul]
    rw [e]
    generalize ((lx.den : Int) : Rat) = a at *
    generalize ((ly.den : Int) : Rat) = b at *
    generalize (plG lx ly : Rat) = c at *
    generalize (ly.num : Rat) = n at *
    rw [← r2]
    grind
  · unfold plN
    rw [if_neg h1, h2]
    simp only [Pl.mk.injEq, true_and]
    grind
  · unfold plN
    rw [if_neg (fun z => z.elim hu hL'), h2]
    rw [n1, n2, n3, (neg_nd lx).2, (neg_nd ly).2, Int.neg_ediv_of_dvd dX, Int.neg_ediv_of_dvd dY, Rat.intCast_neg, Rat.intCast_neg]
    simp only [Pl.mk.injEq, true_and]
    grind
def Sgn (k : Rat) : Prop := k = 0 ∨ k = 1 ∨ k = -1
theorem far_plN {x1 y1 x2 y2 lx ly u k1 k2 : Rat} (h1 : Sgn k1) (h2 : Sgn k2) (hu : 0 ≤ u) (hp : (x2 - x1) * lx + (y2 - y1) * ly = 0) :
    farO (plN x1 y1 (lx * k1) (ly * k1) u) (plN x2 y2 (lx * k2) (ly * k2) u) = some ((x2 - x1) * (x2 - x1) + (y2 - y1) * (y2 - y1) + (k2 - k1) * (k2 - k1) * (lx * lx + ly * ly) * u) := by
  by_cases h0 : u = 0 ∨ (lx = 0 ∧ ly = 0)
  · have e : ∀ x y k : Rat, plN x y (lx * k) (ly * k) u = ⟨x, y, 0, 0, 0⟩ := fun x y k => plN_zero (h0.imp id fun ⟨a, b⟩ => ⟨by rw [a]; grind, by rw [b]; grind⟩)
    rw [e, e]
    unfold farO
    simp only
    rw [if_neg (by simp), if_pos (by grind)]
    congr 1
    rcases h0 with h | ⟨a, b⟩
    · subst h; grind
    · subst a b; grind
  · cases hs : sqr u with
    | some w =>
      obtain ⟨w1, _⟩ := sqr_eq hu hs
      have e : ∀ x y k : Rat, plN x y (lx * k) (ly * k) u = ⟨x + lx * k * w, y + ly * k * w, 0, 0, 0⟩ := fun x y k => by
        by_cases hk : u = 0 ∨ (lx * k = 0 ∧ ly * k = 0)
        · rw [plN_zero hk]
          rcases hk with h | ⟨a, b⟩
          · exact absurd (.inl h) h0
          · rw [a, b]
            simp only [Pl.mk.injEq, and_true]
            exact ⟨by grind, by grind⟩
        · unfold plN
          rw [if_neg hk, hs]
      rw [e, e]
      unfold farO
      simp only
      rw [if_neg (by simp), if_pos (by grind)]
      congr 1
      subst w1
      grind
    | none =>
      obtain ⟨gx, gy, t, F⟩ := plF_of h0 hs
      have hx := F.x
      have hy := F.y
      have ht := F.t0
      have hu0 : u * t * t ≠ 0 := fun z => by
        have := F.u0
        grind
      have perp : (x2 - x1) * gx + (y2 - y1) * gy = 0 := by
        rw [← hx, ← hy] at hp
        grind
      have e0 : ∀ x y : Rat, plN x y (lx * 0) (ly * 0) u = ⟨x, y, 0, 0, 0⟩ := fun x y => plN_zero (.inr ⟨by grind, by grind⟩)
      have e1 : ∀ x y : Rat, plN x y (lx * 1) (ly * 1) u = ⟨x, y, gx, gy, u * t * t⟩ := fun x y => by
        rw [show lx * 1 = lx by grind, show ly * 1 = ly by grind]
        exact F.p x y
      have e2 : ∀ x y : Rat, plN x y (lx * -1) (ly * -1) u = ⟨x, y, -gx, -gy, u * t * t⟩ := fun x y => by
        rw [show lx * -1 = -lx by grind, show ly * -1 = -ly by grind]
        exact F.m x y
      rcases h1 with rfl | rfl | rfl <;> rcases h2 with rfl | rfl | rfl
      all_goals
        simp only [e0, e1, e2]
        unfold farO
        simp only [ne_eq, not_true_eq_false, not_false_eq_true, and_true, and_false, false_and, true_and, if_false, hu0, if_true]
        rw [if_pos (by grind)]
        congr 1
        rw [← hx, ← hy]
        grind
theorem pl_eqv (p : Pl) : PyData.eqv p.d p.d = true := by
  unfold Pl.d
  simp only [PyData.eqv, PyData.eqvAll, num_eqv, Bool.and_true]
  simp
theorem mid_plN {x1 y1 x2 y2 x3 y3 lx ly u k : Rat} (hk : k = 1 ∨ k = -1) (hu : 0 ≤ u) (hx : (x1 + x2) * (1/2) = x3) (hy : (y1 + y2) * (1/2) = y3) :
    midB ⟨x3, y3, 0, 0, 0⟩ (plN x1 y1 (lx * k) (ly * k) u) (plN x2 y2 (lx * -k) (ly * -k) u) = true := by
  have fin : ∀ P Q : Pl, P.r = Q.r → (P.ax + Q.ax) * (1/2) = 0 → (P.ay + Q.ay) * (1/2) = 0 → (P.px + Q.px) * (1/2) = x3 → (P.py + Q.py) * (1/2) = y3 → midB ⟨x3, y3, 0, 0, 0⟩ P Q = true := fun P Q h1 h2 h3 h4 h5 => by
    unfold midB midP
    rw [if_neg (fun z => z.1 h1), h2, h3, h4, h5, plN_zero (.inr ⟨rfl, rfl⟩)]
    exact pl_eqv _
  by_cases h0 : u = 0 ∨ (lx = 0 ∧ ly = 0)
  · have e : ∀ x y k : Rat, plN x y (lx * k) (ly * k) u = ⟨x, y, 0, 0, 0⟩ := fun x y k => plN_zero (h0.imp id fun ⟨a, b⟩ => ⟨by rw [a]; grind, by rw [b]; grind⟩)
    rw [e, e]
    exact fin _ _ rfl (by simp only; grind) (by simp only; grind) hx hy
  · cases hs : sqr u with
    | some w =>
      have e : ∀ x y k : Rat, plN x y (lx * k) (ly * k) u = ⟨x + lx * k * w, y + ly * k * w, 0, 0, 0⟩ := fun x y k => by
        by_cases hk : u = 0 ∨ (lx * k = 0 ∧ ly * k = 0)
        · rw [plN_zero hk]
          rcases hk with h | ⟨a, b⟩
          · exact absurd (.inl h) h0
          · rw [a, b]
            simp only [Pl.mk.injEq, and_true]
            exact ⟨by grind, by grind⟩
        · unfold plN
          rw [if_neg hk, hs]
      rw [e, e]
      exact fin _ _ rfl (by simp only; grind) (by simp only; grind) (by simp only; grind) (by simp only; grind)
    | none =>
      obtain ⟨gx, gy, t, F⟩ := plF_of h0 hs
      have e1 : ∀ x y : Rat, plN x y (lx * 1) (ly * 1) u = ⟨x, y, gx, gy, u * t * t⟩ := fun x y => by
        rw [show lx * 1 = lx by grind, show ly * 1 = ly by grind]
        exact F.p x y
      have e2 : ∀ x y : Rat, plN x y (lx * -1) (ly * -1) u = ⟨x, y, -gx, -gy, u * t * t⟩ := fun x y => by
        rw [show lx * -1 = -lx by grind, show ly * -1 = -ly by grind]
        exact F.m x y
      rcases hk with rfl | rfl
      · rw [e1, e2]
        exact fin _ _ rfl (by simp only; grind) (by simp only; grind) hx hy
      · rw [show (- -1 : Rat) = 1 by grind, e1, e2]
        exact fin _ _ rfl (by simp only; grind) (by simp only; grind) hx hy
theorem plN_pb {px py ax ay r : Rat} (h : PlB px py ax ay r 307 71 620) : PB' (plN px py ax ay r) 690 142 904 := by
  obtain ⟨r0, b1, b2, b3, b4, b5, _⟩ := h
  unfold plN
  by_cases h0 : r = 0 ∨ (ax = 0 ∧ ay = 0)
  · rw [if_pos h0]
    exact ⟨bdLe b1 (by decide), bdLe b2 (by decide), bdLe bd0 (by decide), bdLe bd0 (by decide), bdLe bd0 (by decide), Rat.le_refl⟩
  · rw [if_neg h0]
    cases hs : sqr r with
    | some w =>
      have bw : Bd w 310 := sqr_bd r0 b5 (by decide) hs
      have c1 : Bd (px + ax * w) (307 + (71 + 310) + 1) := bdAdd
      have c2 : Bd (py + ay * w) (307 + (71 + 310) + 1) := bdAdd
      exact ⟨bdLe c1 (by decide), bdLe c2 (by decide), bdLe bd0 (by decide), bdLe bd0 (by decide), bdLe bd0 (by decide), Rat.le_refl⟩
    | none =>
      have hL : ¬ (ax = 0 ∧ ay = 0) := fun z => h0 (.inr z)
      have hg := plG_pos hL
      have hgb := plG_bd b3 b4 hL
      have hdd : (0 : Int) < (ax.den : Int) * (ay.den : Int) := Int.mul_pos (den_pos ax) (den_pos ay)
      have hdb : ((ax.den : Int) * (ay.den : Int)).natAbs < 2 ^ (71 + 71) := mul_bd (nd_bd b3.dn) (nd_bd b4.dn)
      have bq : Bd ((plG ax ay : Rat) / (((ax.den : Int) * (ay.den : Int) : Int) : Rat)) (71 + 71) := bd_frac hdd hgb hdb
      have hX : (plX ax ay).natAbs < 2 ^ (71 + 71) := mul_bd b3.up (nd_bd b4.dn)
      have hY : (plY ax ay).natAbs < 2 ^ (71 + 71) := mul_bd b4.up (nd_bd b3.dn)
      have c3 : Bd ((plX ax ay / plG ax ay : Int) : Rat) (71 + 71) := bdInt (Nat.lt_of_le_of_lt (Int.natAbs_ediv_le_natAbs _ _) hX) (by decide)
      have c4 : Bd ((plY ax ay / plG ax ay : Int) : Rat) (71 + 71) := bdInt (Nat.lt_of_le_of_lt (Int.natAbs_ediv_le_natAbs _ _) hY) (by decide)
      refine ⟨bdLe b1 (by decide), bdLe b2 (by decide), c3, c4, ?_, ?_⟩
      · generalize (plG ax ay : Rat) / (((ax.den : Int) * (ay.den : Int) : Int) : Rat) = q at *
        have c5 : Bd (r * (q * q)) (620 + ((71 + 71) + (71 + 71))) := bdMul
        exact bdLe c5 (by decide)
      · simp only
        exact Rat.mul_nonneg r0 (sq_nn _)
end Cv

set_option Elab.async false
set_option linter.all false
set_option maxRecDepth 100000
set_option maxHeartbeats 4000000
/-! The plain part: a cell's bars and beads. -/
namespace Cv
open PySem
theorem sgn_cases {s : Int} (h : s = 1 ∨ s = -1) : ∃ k : Rat, (k = 1 ∨ k = -1) ∧ (s : Rat) = k ∧ ((1 * s : Int) : Rat) = k ∧ ((-1 * s : Int) : Rat) = -k := by
  rcases h with rfl | rfl
  · exact ⟨1, .inl rfl, rfl, by decide +kernel, by decide +kernel⟩
  · exact ⟨-1, .inr rfl, by decide +kernel, by decide +kernel, by decide +kernel⟩
theorem sgn_of {k : Rat} (h : k = 1 ∨ k = -1) : Sgn k ∧ Sgn (-k) ∧ Sgn 0 ∧ k * k = 1 := by
  rcases h with rfl | rfl
  · exact ⟨.inr (.inl rfl), .inr (.inr rfl), .inl rfl, by grind⟩
  · exact ⟨.inr (.inr rfl), .inr (.inl (by grind)), .inl rfl, by grind⟩
/-- a cell in numbers: T, Z's x, the way, the part, two roots, two signs -/
structure Cell (T x y p L H k m : Rat) : Prop where
  pd : p * (x * x + y * y) = T * T
  eL : L = 25/16 * p - (p + 1) * (p + 1) * (1/4)
  eH : H = 289/64 * p - (p + 1) * (p + 1) * (1/4)
  L0 : 0 ≤ L
  H0 : 0 ≤ H
  hk : k = 1 ∨ k = -1
  hm : m = 1 ∨ m = -1
/-- a place at a share s of the way, aside by k -/
def plK (z x y s k u : Rat) : Pl := plN (z + x * s) (0 + y * s) (y * -1 * k) (x * k) u
theorem plK0 (z x y s u : Rat) : plK z x y s 0 u = ⟨z + x * s, 0 + y * s, 0, 0, 0⟩ := plN_zero (.inr ⟨by grind, by grind⟩)
theorem far_plK {z x y s1 s2 k1 k2 u : Rat} (h1 : Sgn k1) (h2 : Sgn k2) (hu : 0 ≤ u) : farO (plK z x y s1 k1 u) (plK z x y s2 k2 u) = some ((x * x + y * y) * ((s2 - s1) * (s2 - s1) + (k2 - k1) * (k2 - k1) * u)) := by
  unfold plK
  rw [far_plN h1 h2 hu (by grind)]
  congr 1
  grind
theorem mid_plK {z x y s1 s2 s3 k u : Rat} (hk : k = 1 ∨ k = -1) (hu : 0 ≤ u) (h : (s1 + s2) * (1/2) = s3) : midB ⟨z + x * s3, 0 + y * s3, 0, 0, 0⟩ (plK z x y s1 k u) (plK z x y s2 (-k) u) = true := by
  unfold plK
  exact mid_plN hk hu (by rw [← h]; grind) (by rw [← h]; grind)
theorem ne_false {o : Option Rat} {a b : Rat} (h : o = some a) (e : a = b) : neB o b = false := by rw [neB_eq, h, e]; simp
theorem ne_true {o : Option Rat} {a b : Rat} (h : o = some a) (e : a ≠ b) : neB o b = true := by rw [neB_eq, h]; simp [e]
section
variable {T z x y p L H k m : Rat}
theorem cell_bars (C : Cell T x y p L H k m) (h : Rat) (hz : z = h - T) :
    barB (plK z x y ((p - 1) * (1/2)) k L) (plK z x y ((1 - p) * (1/2)) (-k) L) (plK z x y ((p + 3) * (1/2)) k L) (plK z x y ((p * 3 + 1) * (1/2)) (-k) L) ⟨z + x * 0, 0 + y * 0, 0, 0, 0⟩ ⟨z + x * (p + 1), 0 + y * (p + 1), 0, 0, 0⟩ ⟨z + x * p, 0 + y * p, 0, 0, 0⟩ ⟨h - T * (1/2), 0, 0, 0, 0⟩ (plK z x y ((p + 1) * (1/2)) m H) ⟨z + x * 1, 0 + y * 1, 0, 0, 0⟩ T
      = [false, false, false, false, false, false, false, neB (farO ⟨z + x * p, 0 + y * p, 0, 0, 0⟩ ⟨h - T * (1/2), 0, 0, 0, 0⟩) (T * (1/2) * (T * (1/2))), false] := by
  obtain ⟨pd, eL, eH, L0, H0, hk, hm⟩ := C
  obtain ⟨k1, k2, k3, kk⟩ := sgn_of hk
  obtain ⟨m1, m2, m3, mm⟩ := sgn_of hm
  unfold barB
  rw [ne_false (by rw [← plK0 z x y 1 H]; exact far_plK m3 m1 H0) (by subst eH; grind), ne_false (far_plK k1 k2 L0) (by subst eL; grind), ne_false (far_plK k1 k2 L0) (by subst eL; grind), ne_false (far_plK k2 k1 L0) (by subst eL; grind), ne_false (far_plK k1 k2 L0) (by subst eL; grind),
    ne_false (by rw [← plK0 z x y 0 H]; exact far_plK m3 m1 H0) (by subst eH; grind), ne_false (by rw [← plK0 z x y (p + 1) H]; exact far_plK m3 m1 H0) (by subst eH; grind),
    ne_false (o := farO ⟨z + x * p, 0 + y * p, 0, 0, 0⟩ (plK z x y ((p + 1) * (1/2)) m H)) (by rw [← plK0 z x y p H]; exact far_plK m3 m1 H0) (by subst eH; grind)]
theorem cell_beads (C : Cell T x y p L H k m) (A B : Pl) :
    beadB (plK z x y ((p - 1) * (1/2)) k L) (plK z x y ((1 - p) * (1/2)) (-k) L) (plK z x y ((p + 3) * (1/2)) k L) (plK z x y ((p * 3 + 1) * (1/2)) (-k) L) ⟨z + x * 0, 0 + y * 0, 0, 0, 0⟩ ⟨z + x * (p + 1), 0 + y * (p + 1), 0, 0, 0⟩ ⟨z + x * p, 0 + y * p, 0, 0, 0⟩ A B ⟨z + x * 1, 0 + y * 1, 0, 0, 0⟩
      = [false, false, false, false] := by
  have hk := C.hk
  have L0 := C.L0
  have hk' : -k = 1 ∨ -k = -1 := by rcases hk with rfl | rfl <;> grind
  have nn : - -k = k := by grind
  have e1 : midB ⟨z + x * 1, 0 + y * 1, 0, 0, 0⟩ (plK z x y ((1 - p) * (1/2)) (-k) L) (plK z x y ((p + 3) * (1/2)) k L) = true := by
    have := mid_plK (z := z) (x := x) (y := y) (s1 := (1 - p) * (1/2)) (s2 := (p + 3) * (1/2)) (s3 := 1) hk' L0 (by grind)
    rw [nn] at this
    exact this
  have e2 : midB ⟨z + x * 0, 0 + y * 0, 0, 0, 0⟩ (plK z x y ((p - 1) * (1/2)) k L) (plK z x y ((1 - p) * (1/2)) (-k) L) = true := mid_plK hk L0 (by grind)
  have e3 : midB ⟨z + x * (p + 1), 0 + y * (p + 1), 0, 0, 0⟩ (plK z x y ((p + 3) * (1/2)) k L) (plK z x y ((p * 3 + 1) * (1/2)) (-k) L) = true := mid_plK hk L0 (by grind)
  have e4 : midB ⟨z + x * p, 0 + y * p, 0, 0, 0⟩ (plK z x y ((p - 1) * (1/2)) k L) (plK z x y ((p * 3 + 1) * (1/2)) (-k) L) = true := mid_plK hk L0 (by grind)
  unfold beadB
  rw [e1, e2, e3, e4]
  rfl
theorem qu_on (C : Cell T x y p L H k m) (h : Rat) (hz : z = h - T) (hx : x = T) : neB (farO ⟨z + x * p, 0 + y * p, 0, 0, 0⟩ ⟨h - T * (1/2), 0, 0, 0, 0⟩) (T * (1/2) * (T * (1/2))) = false := by
  have pd := C.pd
  refine ne_false (a := T * (1/2) * (T * (1/2))) ?_ rfl
  unfold farO
  simp only
  rw [if_neg (by simp), if_pos (by grind)]
  congr 1
  subst hz hx
  grind
theorem qu_off (C : Cell T x y p L H k m) (h : Rat) (hz : z = h - T) (hx : x ≠ T) (hT : T ≠ 0) (hp : p ≠ 0) : neB (farO ⟨z + x * p, 0 + y * p, 0, 0, 0⟩ ⟨h - T * (1/2), 0, 0, 0, 0⟩) (T * (1/2) * (T * (1/2))) = true := by
  have pd := C.pd
  refine ne_true (a := T * (1/2) * (T * (1/2)) + p * (T * (T - x))) ?_ ?_
  · unfold farO
    simp only
    rw [if_neg (by simp), if_pos (by grind)]
    congr 1
    subst hz
    grind
  · intro e
    have e1 : p * (T * (T - x)) = 0 := by grind
    rcases Rat.mul_eq_zero.mp e1 with e2 | e2
    · exact hp e2
    · rcases Rat.mul_eq_zero.mp e2 with e3 | e3
      · exact hT e3
      · exact hx (by grind)
end
/-- the nine of the law as a cell -/
theorem nine_cell {h r vx vy : Rat} {s0 s1 : Int} (h0 : s0 = 1 ∨ s0 = -1) (h1 : s1 = 1 ∨ s1 = -1) (ho : 0 < ceO h r vx vy) (hl : 0 < ceL (ceP h r vx vy)) :
    ∃ k m : Rat, Cell (r + 1) (ceX h r vx) (ceY vy) (ceP h r vx vy) (ceL (ceP h r vx vy)) (ceH (ceP h r vx vy)) k m ∧
      nineL h r vx vy s0 s1 = [plK (h - (r + 1)) (ceX h r vx) (ceY vy) ((ceP h r vx vy - 1) * (1/2)) k (ceL (ceP h r vx vy)), plK (h - (r + 1)) (ceX h r vx) (ceY vy) ((1 - ceP h r vx vy) * (1/2)) (-k) (ceL (ceP h r vx vy)), plK (h - (r + 1)) (ceX h r vx) (ceY vy) ((ceP h r vx vy + 3) * (1/2)) k (ceL (ceP h r vx vy)), plK (h - (r + 1)) (ceX h r vx) (ceY vy) ((ceP h r vx vy * 3 + 1) * (1/2)) (-k) (ceL (ceP h r vx vy)),
        plW h r (ceX h r vx) (ceY vy) 0, plW h r (ceX h r vx) (ceY vy) (ceP h r vx vy + 1), plW h r (ceX h r vx) (ceY vy) (ceP h r vx vy), plU h r, plK (h - (r + 1)) (ceX h r vx) (ceY vy) ((ceP h r vx vy + 1) * (1/2)) m (ceH (ceP h r vx vy))] := by
  obtain ⟨k, hk, _, k1, k2⟩ := sgn_cases h0
  obtain ⟨m, hm, m0, _, _⟩ := sgn_cases h1
  have hP := ceP_nn ho
  refine ⟨k, m, ⟨?_, rfl, rfl, Rat.le_of_lt hl, ceH_nn hP hl, hk, hm⟩, ?_⟩
  · have : ceX h r vx * ceX h r vx + ceY vy * ceY vy = ceO h r vx vy := rfl
    rw [this]
    unfold ceP
    have hne : ceO h r vx vy ≠ 0 := fun e => by rw [e] at ho; exact absurd ho (by decide)
    grind
  · unfold nineL nineG nine1 nine2 plS
    rw [k1, k2, m0]
    rfl
def knownE (vx vy : Rat) : Pl := ⟨vx, vy, 0, 0, 0⟩
/-- what is torn: nothing on the line, Q-U off it -/
theorem torn_is {h r vx vy : Rat} {s0 s1 : Int} (h0 : s0 = 1 ∨ s0 = -1) (h1 : s1 = 1 ∨ s1 = -1) (ho : 0 < ceO h r vx vy) (hl : 0 < ceL (ceP h r vx vy)) (hT : 0 < r + 1) :
    ∃ P0 P1 P2 P3 P4 P5 P6 P7 P8 : Pl, nineL h r vx vy s0 s1 = [P0, P1, P2, P3, P4, P5, P6, P7, P8] ∧ beadB P0 P1 P2 P3 P4 P5 P6 P7 P8 ⟨vx, vy, 0, 0, 0⟩ = [false, false, false, false] ∧
      barB P0 P1 P2 P3 P4 P5 P6 P7 P8 ⟨vx, vy, 0, 0, 0⟩ (r + 1) = [false, false, false, false, false, false, false, decide (vx ≠ h), false] := by
  obtain ⟨k, m, C, e⟩ := nine_cell h0 h1 ho hl
  refine ⟨_, _, _, _, _, _, _, _, _, e, ?_, ?_⟩
  · have eE : (⟨vx, vy, 0, 0, 0⟩ : Pl) = ⟨(h - (r + 1)) + ceX h r vx * 1, 0 + ceY vy * 1, 0, 0, 0⟩ := by
      simp only [Pl.mk.injEq, and_true]
      unfold ceX ceY
      exact ⟨by grind, by grind⟩
    rw [eE]
    exact cell_beads C _ _
  · have eE : (⟨vx, vy, 0, 0, 0⟩ : Pl) = ⟨(h - (r + 1)) + ceX h r vx * 1, 0 + ceY vy * 1, 0, 0, 0⟩ := by
      simp only [Pl.mk.injEq, and_true]
      unfold ceX ceY
      exact ⟨by grind, by grind⟩
    rw [eE]
    refine (cell_bars C h rfl).trans ?_
    by_cases hv : vx = h
    · rw [qu_on C h rfl (by unfold ceX; grind)]
      simp [hv]
    · have hp : ceP h r vx vy ≠ 0 := fun z => by
        have := C.pd
        rw [z] at this
        have h3 : (r + 1) * (r + 1) = 0 := by grind
        rcases Rat.mul_eq_zero.mp h3 with a | a <;> (rw [a] at hT; exact absurd hT (by decide))
      rw [qu_off C h rfl (by unfold ceX; grind) (fun a => by rw [a] at hT; exact absurd hT (by decide)) hp]
      simp [hv]
theorem filt_false (f v : Int) : filt [false, false, false, false, false, false, false, false, false] (endsD f v) ++ filt [false, false, false, false] (jointsD f v) = [] := rfl
theorem filt_qu (f v : Int) : filt [false, false, false, false, false, false, false, true, false] (endsD f v) ++ filt [false, false, false, false] (jointsD f v) = [.tuple [.int (f + 6), .int (f + 7)]] := rfl
/-- on the line there are places -/
theorem low_on {h r u : Rat} (hT : 0 < r + 1) (hu : u * u < 3 * ((r + 1) * (r + 1))) : 0 < ceO h r h u ∧ 0 < ceL (ceP h r h u) := by
  have e0 : ceO h r h u = (r + 1) * (r + 1) + u * u := by unfold ceO; grind
  have hTT : 0 < (r + 1) * (r + 1) := Rat.mul_pos hT hT
  have hO : 0 < ceO h r h u := by
    rw [e0]
    have := sq_nn u
    grind
  refine ⟨hO, ?_⟩
  have hne : ceO h r h u ≠ 0 := fun e => by rw [e] at hO; exact absurd hO (by decide)
  have pd : ceP h r h u * ceO h r h u = (r + 1) * (r + 1) := by unfold ceP; grind
  generalize ceP h r h u = p at *
  rw [e0] at pd hO hne
  generalize (r + 1) * (r + 1) = t at *
  have hv := sq_nn u
  generalize u * u = w at *
  -- p in (1/4, 1]
  have h1 : p ≤ 1 := by
    apply Rat.not_lt.mp
    intro z
    have : 0 < (p - 1) * (t + w) := Rat.mul_pos (by grind) hO
    grind
  have h2 : 1/4 < p := by
    apply Rat.not_le.mp
    intro z
    have : 0 ≤ (1/4 - p) * (t + w) := Rat.mul_nonneg (by grind) (by grind)
    grind
  unfold ceL
  have h3 : 0 < (4 * p - 1) * (4 - p) := Rat.mul_pos (by grind) (by grind)
  grind
end Cv

set_option Elab.async false
set_option linter.all false
set_option maxRecDepth 100000
set_option maxHeartbeats 2000000
namespace Cv
open PySem PySem.Spec PyProof.Rows L2
section
variable {X : Cx} {mo : Md} {p : Addr} {g : List Sl} {k k1 k2 : Nat} {S : PyData → Prop} {SS : List PyData → Prop} {R : PyData → Prop} {N : List Sl → Prop} {a b c : Expr} {rest : List Stmt} {pos : Pos}
theorem xh_par (i j : Nat) {n1 n2 : Str} {px py pt pt2 : Pos} {kt k' : Nat} (hc : X.calm = true) (hN : X.N.Nodup) (ha : PA X [a, b] (tHA X.K mo p g k1 SS)) (hS : ∀ ds, SS ds → ∃ d1 d2, ds = [d1, d2]) (hr : ∀ d1 d2, SS [d1, d2] → PSs X rest (tXH X.K mo p k2 ((g.set i (.d d1)).set j (.d d2)) R N)) (hi : X.N[i]? = some n1 := by rfl) (hj : X.N[j]? = some n2 := by rfl) (hij : i ≠ j := by decide)
    (hx : X.env.scope.names.lookup n1 = some .local := by rfl) (hy : X.env.scope.names.lookup n2 = some .local := by rfl) (hw : swappedStores [.Tuple [.Name n1 px, .Name n2 py] kt pt] (.Tuple [a, b] k' pt2) X.env = pure (some [n1, n2]) := by rfl)
    (hs : swapsWithSole [.Tuple [.Name n1 px, .Name n2 py] kt pt] (.Tuple [a, b] k' pt2) pos.line X.env = pure false := by rfl) : PSs X (.Assign [.Tuple [.Name n1 px, .Name n2 py] kt pt] (.Tuple [a, b] k' pt2) pos :: rest) (tXH X.K mo p (k1 + k2) g R N) :=
  PSs.wk (pss_cons (ps_par hc hN hi hj hij hx hy ha hw hs) (PSs.ex fun d : PyData × PyData => PSs.imp (hr d.1 d.2))) fun D σ H ⟨c, hc, o, q1, q2⟩ => ⟨c, by omega, o, fun vs ds H1 n1 s1 z1 r1 => by
    obtain ⟨d1, d2, rfl⟩ := hS ds z1
    obtain ⟨u, v, rfl, e1, e2⟩ := dps2 r1
    exact ⟨u, v, rfl, (d1, d2), z1, c + k1, by omega, ((okk_h o n1 s1).set i (slOk_d e1)).set j (slOk_d e2), fun v' d' H2 n2 s2 => q1 v' d' H2 (n1.trans n2) (by rw [← Nat.add_assoc]; exact s2), fun g' σ' H2 n2 z2 o2 => q2 g' σ' H2 (n1.trans n2) z2 (by rw [← Nat.add_assoc]; exact o2)⟩⟩
theorem xh_par3 (i j l : Nat) {n1 n2 n3 : Str} {px py pz pt pt2 : Pos} {kt k' : Nat} (hc : X.calm = true) (hN : X.N.Nodup) (ha : PA X [a, b, c] (tHA X.K mo p g k1 SS)) (hS : ∀ ds, SS ds → ∃ d1 d2 d3, ds = [d1, d2, d3]) (hr : ∀ d1 d2 d3, SS [d1, d2, d3] → PSs X rest (tXH X.K mo p k2 (((g.set i (.d d1)).set j (.d d2)).set l (.d d3)) R N)) (hi : X.N[i]? = some n1 := by rfl) (hj : X.N[j]? = some n2 := by rfl) (hl : X.N[l]? = some n3 := by rfl)
    (hij : i ≠ j := by decide) (hil : i ≠ l := by decide) (hjl : j ≠ l := by decide) (hx : X.env.scope.names.lookup n1 = some .local := by rfl) (hy : X.env.scope.names.lookup n2 = some .local := by rfl) (hz : X.env.scope.names.lookup n3 = some .local := by rfl)
    (hw : swappedStores [.Tuple [.Name n1 px, .Name n2 py, .Name n3 pz] kt pt] (.Tuple [a, b, c] k' pt2) X.env = pure (some [n1, n2, n3]) := by rfl)
    (hs : swapsWithSole [.Tuple [.Name n1 px, .Name n2 py, .Name n3 pz] kt pt] (.Tuple [a, b, c] k' pt2) pos.line X.env = pure false := by rfl) : PSs X (.Assign [.Tuple [.Name n1 px, .Name n2 py, .Name n3 pz] kt pt] (.Tuple [a, b, c] k' pt2) pos :: rest) (tXH X.K mo p (k1 + k2) g R N) :=
  PSs.wk (pss_cons (ps_par3 hc hN hi hj hl hij hil hjl hx hy hz ha hw hs) (PSs.ex fun d : PyData × PyData × PyData => PSs.imp (hr d.1 d.2.1 d.2.2))) fun D σ H ⟨c, hc, o, q1, q2⟩ => ⟨c, by omega, o, fun vs ds H1 n1 s1 z1 r1 => by
    obtain ⟨d1, d2, d3, rfl⟩ := hS ds z1
    cases r1 with
    | cons e0 r1 =>
      obtain ⟨u, v, rfl, e1, e2⟩ := dps2 r1
      exact ⟨_, u, v, rfl, (d1, d2, d3), z1, c + k1, by omega, (((okk_h o n1 s1).set i (slOk_d e0)).set j (slOk_d e1)).set l (slOk_d e2), fun v' d' H2 n2 s2 => q1 v' d' H2 (n1.trans n2) (by rw [← Nat.add_assoc]; exact s2), fun g' σ' H2 n2 z2 o2 => q2 g' σ' H2 (n1.trans n2) z2 (by rw [← Nat.add_assoc]; exact o2)⟩⟩
/-- texts that are the same -/
theorem pb_neS {m : Md} {x : Str} (ha : PD X m g a (Is (.str x))) (hb : PD X m g b (Is (.str x))) : PB X m g (.Compare a [.NotEq] [b] pos) (Is false) :=
  pb_test (pt_cmpR op_ne ha hb (nomark _)) fun σ H Q ⟨o, k⟩ => ⟨o, fun u y H1 n1 s1 q1 => ⟨o.step n1, fun v z H2 n2 s2 q2 => by
    cases s1
    cases s2
    cases dp_str q1
    cases dp_str q2
    refine ⟨rfl, ?_⟩
    rw [decide_eq_true rfl]
    exact k (.bl false) (.bool false) H2 (n1.trans n2) rfl (.bl _)⟩⟩
end
theorem bd_numE {h : Rat} (b : Bd h 7) : Bd (h * -1) 7 := by
  rw [show h * -1 = -h by grind]
  exact bdNeg
def absQ (h : Rat) : Rat := if h < 0 then h * -1 else h
theorem absQ_bd {h : Rat} (b : Bd h 7) : Bd (absQ h) 7 := by
  unfold absQ
  split
  · exact bd_numE b
  · exact b
theorem absQ_nn (h : Rat) : 0 ≤ absQ h ∧ absQ h * absQ h = h * h := by
  unfold absQ
  split
  · exact ⟨by grind, by grind⟩
  · exact ⟨Rat.not_lt.mp (by assumption), rfl⟩
theorem frac_nn {i j : Int} (h0 : 0 ≤ i) (h1 : 0 < j) : 0 ≤ (i : Rat) / (j : Rat) := by
  rw [Rat.div_def]
  refine Rat.mul_nonneg (Rat.intCast_nonneg.mpr h0) (Rat.le_of_lt (Rat.inv_pos.mpr (Rat.intCast_pos.mpr h1)))
theorem reach_facts {h u q : Rat} (hq : 0 ≤ q) : 0 ≤ absQ h + absQ u + q ∧ 0 < absQ h + absQ u + q + 1 ∧ h * h + u * u ≤ (absQ h + absQ u + q) * (absQ h + absQ u + q) ∧ u * u < 3 * ((absQ h + absQ u + q + 1) * (absQ h + absQ u + q + 1)) := by
  obtain ⟨a0, a1⟩ := absQ_nn h
  obtain ⟨b0, b1⟩ := absQ_nn u
  rw [← a1, ← b1]
  generalize absQ h = a at *
  generalize absQ u = b at *
  have e1 := Rat.mul_nonneg a0 b0
  have e2 := Rat.mul_nonneg a0 hq
  have e3 := Rat.mul_nonneg b0 hq
  have e4 := sq_nn q
  have e5 := sq_nn a
  have e6 := sq_nn b
  refine ⟨by grind, by grind, by grind, by grind⟩
theorem rb_sm {i : Int} (h : i.natAbs < 10000) : Rb (.int i) 0 0 := rb_int (Nat.lt_of_lt_of_le (Nat.lt_of_lt_of_le h (by decide : 10000 ≤ 2 ^ 14)) (Nat.pow_le_pow_right (by decide) (by decide)))
theorem rb_half : Rb (.tuple [.int 1, .int 2]) 2 1 := (rb_tup (rb_cons (rb_sm (by decide)) (rb_cons (rb_sm (by decide)) rb_nil))).up (by decide) (by decide)
theorem rb_bar {i j : Int} {l : Rat} {n : Nat} (h1 : i.natAbs < 10000) (h2 : j.natAbs < 10000) (b : Bd l n) (hn : n ≤ 1000) : Rb (barD i j l) 5 2 := (rb_tup (rb_cons (rb_sm h1) (rb_cons (rb_sm h2) (rb_cons (rb_num b hn) rb_nil)))).up (by decide) (by decide)
theorem rb_bead {i j k : Int} (h1 : i.natAbs < 10000) (h2 : j.natAbs < 10000) (h3 : k.natAbs < 10000) : Rb (beadD i j k) 6 2 := (rb_tup (rb_cons (rb_sm h1) (rb_cons (rb_sm h2) (rb_cons (rb_sm h3) (rb_cons rb_half rb_nil))))).up (by decide) (by decide)
theorem rb_parts {f v : Int} {h T : Rat} (h0 : 0 ≤ v) (h1 : v < f) (h2 : f ≤ 4000) (bh : Bd h 7) (bT : Bd T 22) : Rb (partsD f v h T) 200 5 := by
  have p1 : Rb (.tuple [.int (f + 4), pt (h - T) 0]) 10 3 := (rb_tup (rb_cons (rb_sm (by omega)) (rb_cons (rb_pt (bdSub : Bd (h - T) (7 + 22 + 1)) bd0 (by decide) (by decide)) rb_nil))).up (by decide) (by decide)
  have p2 : Rb (.tuple [.int (f + 7), pt (h - T * (1/2)) 0]) 10 3 := (rb_tup (rb_cons (rb_sm (by omega)) (rb_cons (rb_pt (bdSub : Bd (h - T * (1/2)) (7 + (22 + 2) + 1)) bd0 (by decide) (by decide)) rb_nil))).up (by decide) (by decide)
  have b1 : Bd (T * (15/8)) (22 + 4) := bdMul
  have b2 : Bd (T * (3/2)) (22 + 2) := bdMul
  have b3 : Bd (T * (5/2)) (22 + 3) := bdMul
  have b4 : Bd (T * (17/8)) (22 + 5) := bdMul
  have b5 : Bd (T * (1/2)) (22 + 2) := bdMul
  have q : RbA (barsD f v T) 60 2 := by
    have := rb_cons (rb_bar (i := v) (j := f + 8) (by omega) (by omega) b1 (by decide)) (rb_cons (rb_bar (i := f) (j := f + 1) (by omega) (by omega) b2 (by decide)) (rb_cons (rb_bar (i := f) (j := f + 3) (by omega) (by omega) b3 (by decide)) (rb_cons (rb_bar (i := f + 1) (j := f + 2) (by omega) (by omega) b3 (by decide)) (rb_cons (rb_bar (i := f + 2) (j := f + 3) (by omega) (by omega) b2 (by decide)) (rb_cons (rb_bar (i := f + 4) (j := f + 8) (by omega) (by omega) b4 (by decide)) (rb_cons (rb_bar (i := f + 5) (j := f + 8) (by omega) (by omega) b4 (by decide)) (rb_cons (rb_bar (i := f + 6) (j := f + 7) (by omega) (by omega) b5 (by decide)) (rb_cons (rb_bar (i := f + 6) (j := f + 8) (by omega) (by omega) b1 (by decide)) rb_nil))))))))
    exact ⟨this.sh, this.ls, this.nd, Nat.le_trans this.bk (by decide), Nat.le_trans this.dp (by decide)⟩
  have t : RbA (beadsD f v) 30 2 := by
    have := rb_cons (rb_bead (i := v) (j := f + 1) (k := f + 2) (by omega) (by omega) (by omega)) (rb_cons (rb_bead (i := f + 4) (j := f) (k := f + 1) (by omega) (by omega) (by omega)) (rb_cons (rb_bead (i := f + 5) (j := f + 2) (k := f + 3) (by omega) (by omega) (by omega)) (rb_cons (rb_bead (i := f + 6) (j := f) (k := f + 3) (by omega) (by omega) (by omega)) rb_nil)))
    exact ⟨this.sh, this.ls, this.nd, Nat.le_trans this.bk (by decide), Nat.le_trans this.dp (by decide)⟩
  exact (rb_tup (rb_cons (rb_tup (rb_cons p1 (rb_cons p2 rb_nil))) (rb_cons (rb_tup q) (rb_cons (rb_tup t) rb_nil)))).up (by decide) (by decide)
theorem nine_pb {h r vx vy : Rat} {s0 s1 : Int} (b1 : Bd h 7) (b2 : Bd r 20) (b3 : Bd vx 38) (b4 : Bd vy 7) (h0 : s0 = 1 ∨ s0 = -1) (h1 : s1 = 1 ∨ s1 = -1) (ho : 0 < ceO h r vx vy) (hl : 0 < ceL (ceP h r vx vy)) : ∀ P ∈ nineL h r vx vy s0 s1, PB' P 690 142 904 := by
  obtain ⟨c1, c2, c3, _, _⟩ := bd_sgn h0
  obtain ⟨d1, _, _, _, _⟩ := bd_sgn h1
  have hP := ceP_nn ho
  have bO : Bd (ceO h r vx vy) 157 := (inferInstance : Bd ((vx - (h - (r + 1))) * (vx - (h - (r + 1))) + (vy - 0) * (vy - 0)) 157)
  have bP : Bd (ceP h r vx vy) 201 := (inferInstance : Bd ((r + 1) * (r + 1) / ceO h r vx vy) 201)
  have bX : Bd (ceX h r vx) 69 := (inferInstance : Bd (vx - (h - (r + 1))) 69)
  have bY : Bd (ceY vy) 9 := (inferInstance : Bd (vy - 0) 9)
  have bL : Bd (ceL (ceP h r vx vy)) 616 := (inferInstance : Bd (25/16 * ceP h r vx vy - (ceP h r vx vy + 1) * (ceP h r vx vy + 1) * (1/4)) 616)
  have bH : Bd (ceH (ceP h r vx vy)) 620 := (inferInstance : Bd (289/64 * ceP h r vx vy - (ceP h r vx vy + 1) * (ceP h r vx vy + 1) * (1/4)) 620)
  have hH := ceH_nn hP hl
  unfold nineL
  generalize ceP h r vx vy = p at *
  generalize ceX h r vx = x at *
  generalize ceY vy = y at *
  have hl' := Rat.le_of_lt hl
  intro P hm
  unfold nineG nine1 nine2 at hm
  simp only [List.append_assoc, List.cons_append, List.nil_append, List.mem_cons, List.not_mem_nil, or_false] at hm
  rcases hm with rfl | rfl | rfl | rfl | rfl | rfl | rfl | rfl | rfl
  · exact plN_pb (plB_of 307 71 620 hl')
  · exact plN_pb (plB_of 307 71 620 hl')
  · exact plN_pb (plB_of 307 71 620 hl')
  · exact plN_pb (plB_of 307 71 620 hl')
  · exact bd_pt0 (bdLe (inferInstance : Bd (h - (r + 1) + x * 0) _) (by decide)) (bdLe (inferInstance : Bd (0 + y * 0) _) (by decide)) (by decide)
  · exact bd_pt0 (bdLe (inferInstance : Bd (h - (r + 1) + x * (p + 1)) _) (by decide)) (bdLe (inferInstance : Bd (0 + y * (p + 1)) _) (by decide)) (by decide)
  · exact bd_pt0 (bdLe (inferInstance : Bd (h - (r + 1) + x * p) _) (by decide)) (bdLe (inferInstance : Bd (0 + y * p) _) (by decide)) (by decide)
  · exact bd_pt0 (bdLe (inferInstance : Bd (h - (r + 1) * (1/2)) _) (by decide)) (bdLe bd0 (by decide)) (by decide)
  · exact plN_pb (plB_of 307 71 620 hH)
end Cv

set_option Elab.async false
set_option linter.all false
set_option maxRecDepth 100000
set_option maxHeartbeats 2000000
/-! cell_parts by keywords alone. -/
namespace Cv
open PySem PySem.Spec PyProof.Rows L2
theorem PK.wk {X : Cx} {kws : List Keyword} {t t' : TA} (h : PK X kws t) (w : ∀ σ H Q, t' σ H Q → t σ H Q) : PK X kws t' := ⟨fun pos pins s σ H Q I q => h.run pos pins s σ H Q I (w σ H Q q)⟩
section
variable {X : Cx} {m : Md} {g : List Sl} {e : Expr} {kws : List Keyword} {nm : Option Str} {kpos : Pos}
abbrev PKd (X : Cx) (m : Md) (g : List Sl) (kws : List Keyword) (S : List PyData → Prop) : Prop := PK X kws (tA X.K m g S)
theorem kd_nil : PKd X m g [] (Is []) := PK.wk pk_nil fun σ H Q ⟨o, k⟩ => k [] [] H o.rfl' rfl .nil
theorem kd_cons {d : PyData} {ds : List PyData} (ha : PD X m g e (Is d)) (hr : PKd X m g kws (Is ds)) : PKd X m g (⟨nm, e, kpos⟩ :: kws) (Is (d :: ds)) :=
  PK.wk (pk_cons ha hr) fun σ H Q ⟨o, k⟩ => ⟨o, fun v d1 H1 n1 s1 q1 => ⟨o.step n1, fun vs ds1 H2 n2 s2 q2 => by
    cases s1
    cases s2
    exact k _ _ H2 (n1.trans n2) rfl (.cons (n2.dp q1) q2)⟩⟩
end
def gRev {α : Type} : List α → List α → List α
  | [], [a, b, c, d] => [d, c, b, a]
  | _, _ => []
section
variable {P : Program} {w : World} {K : PySem.W.Frag} {mg : Str → Option Value} {base : Heap}
theorem kb_cell_parts {f : Addr} {fd : FuncData} (F : FunD K "cell_parts" "cell_parts" (defArgs (top 52)) (defBody (top 52)) (defScope (top 52)) [] [] f fd) : KBinds K fd ["first", "v", "h", "reach"] ["reach", "h", "v", "first"] gRev gRev := by
  obtain ⟨oc, od, dV, kV, doc, pm, an, cdv, ct, osl, rfl, lk, hcd, hD, hK⟩ := F.ex
  rcases hD with ⟨_, rfl⟩ | ⟨e, _⟩
  · refine ⟨fun s us ws M hl => ?_, fun r rz => ?_⟩
    · match us, ws, hl with
      | [], [a, b, c, d], _ => exact .of_eq rfl
      | [], [], h => cases h
      | [], [_], h => cases h
      | [], [_, _], h => cases h
      | [], [_, _, _], h => cases h
      | [], _ :: _ :: _ :: _ :: _ :: _, h => cases h
      | _ :: _, _, h => cases h
    · cases r with
      | cons _ _ => exact .nil
      | nil =>
        cases rz with
        | nil => exact .nil
        | cons a rz =>
          cases rz with
          | nil => exact .nil
          | cons b rz =>
            cases rz with
            | nil => exact .nil
            | cons c rz =>
              cases rz with
              | nil => exact .nil
              | cons d rz =>
                cases rz with
                | nil => exact .cons d (.cons c (.cons b (.cons a .nil)))
                | cons _ _ => exact .nil
  · exact absurd rfl e
end
theorem dps_rev4 {K : PySem.W.Frag} {H : Hp} {vs : List V} {a b c d : PyData} (h : DpAll K H vs [a, b, c, d]) : DpAll K H (gRev [] vs) [d, c, b, a] := by
  cases h with
  | cons h1 h =>
    cases h with
    | cons h2 h =>
      cases h with
      | cons h3 h =>
        cases h with
        | cons h4 h =>
          cases h
          exact .cons h4 (.cons h3 (.cons h2 (.cons h1 .nil)))
theorem pd_cellK {X : Cx} {m : Md} {g : List Sl} {j : Nat} {p pos : Pos} {kws : List Keyword} {a b c d r : PyData} (T : Txt X.K X.mg) (hr : Room j X.A) (hk : 6 ≤ j) (hg : Gl X "cell_parts") (ha : PKd X m g kws (Is [a, b, c, d])) (h : R_cell_parts [d, c, b, a] r)
    (hall : (backToKw pos (keywordEach kws X.env)).all (·.1.isSome) = true := by rfl) (hks : (backToKw pos (keywordEach kws X.env)).filterMap (·.1) = (["reach", "h", "v", "first"] : List Str) := by rfl)
    (hpl : ((backTo pos (starEach [] X.env)).any (·.1) || (backToKw pos (keywordEach kws X.env)).any (·.1.isNone)) = false := by rfl) : PD X m g (.Call (.Name "cell_parts" p) [] kws pos) (Is r) := by
  obtain ⟨f, fd, F, hm, ok⟩ := f_cell_parts (P := X.prog) (w := X.w) (base := X.base) T
  refine PE.wk (pe_callK0 (E := E0) ok (hr.mono hk) hg hm F.kp (kb_cell_parts F) pass0 ha hall hks (by decide) hpl) fun σ H Q ⟨o, kk⟩ => ⟨o, fun vs ds1 H1 n1 s1 q1 => by
    cases s1
    exact ⟨m.zs, [d, c, b, a], r, n1.al, dps_rev4 q1, h, fun v H' sm q => kk v r H' (n1.same sm) rfl q⟩⟩
end Cv

set_option Elab.async false
set_option linter.all false
set_option maxRecDepth 100000
set_option maxHeartbeats 4000000
namespace Cv
open PySem PySem.Spec PyProof.Rows L2


theorem pb_is {X : Cx} {m : Md} {g : List Sl} {e : Expr} {x y : Bool} (h : PB X m g e (Is x)) (q : x = y) : PB X m g e (Is y) := q ▸ h
theorem torn_rel {f v : Int} {h r vx vy : Rat} {s0 s1 : Int} (v0 : 0 ≤ v) (v1 : v < f) (v2 : f ≤ 4000) (b1 : Bd h 7) (b2 : Bd r 20) (b3 : Bd vx 38) (b4 : Bd vy 7) (h0 : s0 = 1 ∨ s0 = -1) (h1 : s1 = 1 ∨ s1 = -1) (ho : 0 < ceO h r vx vy) (hl : 0 < ceL (ceP h r vx vy)) (hT : 0 < r + 1) :
    R__law_torn [.int f, .int v, .list ((nineL h r vx vy s0 s1).map Pl.d), pt vx vy, partsD f v h (r + 1)] (.list (if vx = h then [] else [.tuple [.int (f + 6), .int (f + 7)]])) := by
  have hp := nine_pb b1 b2 b3 b4 h0 h1 ho hl
  obtain ⟨P0, P1, P2, P3, P4, P5, P6, P7, P8, e, e1, e2⟩ := torn_is h0 h1 ho hl hT
  rw [e] at hp ⊢
  refine ⟨f, v, P0, P1, P2, P3, P4, P5, P6, P7, P8, vx, vy, h, r + 1, rfl, v0, v1, v2, hp _ (by simp), hp _ (by simp), hp _ (by simp), hp _ (by simp), hp _ (by simp), hp _ (by simp), hp _ (by simp), hp _ (by simp), hp _ (by simp), bdLe b3 (by decide), bdLe b4 (by decide), (bdAdd : Bd (r + 1) (20 + 1 + 1)), ?_⟩
  rw [e1, e2]
  by_cases z : vx = h
  · rw [if_pos z, decide_eq_false (fun q => q z), filt_false]
  · rw [if_neg z, decide_eq_true z, filt_qu]
theorem rb_nine {h r vx vy : Rat} {s0 s1 : Int} (b1 : Bd h 7) (b2 : Bd r 20) (b3 : Bd vx 38) (b4 : Bd vy 7) (h0 : s0 = 1 ∨ s0 = -1) (h1 : s1 = 1 ∨ s1 = -1) (ho : 0 < ceO h r vx vy) (hl : 0 < ceL (ceP h r vx vy)) : Rb (.tuple ((nineL h r vx vy s0 s1).map Pl.d)) 162 4 :=
  (rb_tup (rb_map (n := 17) (k := 3) fun x hx => rb_pl (nine_pb b1 b2 b3 b4 h0 h1 ho hl x hx))).up (by rw [show (nineL h r vx vy s0 s1).length = 9 from rfl]; decide) (by decide)
theorem nil_eqv : PyData.eqv (.list []) (.list []) = true := by simp [PyData.eqv, PyData.eqvAll]
theorem qu_eqv (i j : Int) : PyData.eqv (.list [.tuple [.int i, .int j]]) (.list [.tuple [.int i, .int j]]) = true := by simp [PyData.eqv, PyData.eqvAll]
theorem shp_qu (i j : Int) : SeqAt.shaped (.list [.tuple [.int i, .int j]]) = true := shp (by simp [PyData.canLay0, PyData.canLayAll0]) (by simp [PyData.depth, PyData.depthAll])
def SOff : PyData → Prop := fun d => ∃ x, d = num x ∧ Bd x 30 ∧ x ≠ 0 ∧ 0 < x + 1
theorem off1 : SOff (.tuple [.int 1, .int 9]) := ⟨1/9, is19.eq, bdLe (inferInstance : Bd (1/9) _) (by decide), by decide +kernel, by decide +kernel⟩
theorem off2 : SOff (.tuple [.int (-1), .int 7]) := ⟨-1/7, is17.eq, bdLe (inferInstance : Bd (-1/7) _) (by decide), by decide +kernel, by decide +kernel⟩
theorem off4 : SOff (.tuple [.int (-1), .int 1000000000]) := ⟨-1/1000000000, is1b.eq, ⟨by decide +kernel, by decide +kernel⟩, by decide +kernel, by decide +kernel⟩
theorem off3 {i : Int} (h0 : 1 ≤ i) (h1 : i ≤ 9) : SOff (num ((i : Rat) / ((20 : Int) : Rat))) := by
  have hp : 0 < (i : Rat) / ((20 : Int) : Rat) := by
    rw [Rat.div_def]
    exact Rat.mul_pos (Rat.intCast_pos.mpr (by omega)) (Rat.inv_pos.mpr (Rat.intCast_pos.mpr (by decide)))
  exact ⟨_, rfl, bdLe (bd_frac (n := 7) (by decide) (lt128 (by omega)) (by decide)) (by decide), fun e => by rw [e] at hp; exact absurd hp (by decide), by grind⟩
theorem off_on {h r u δ : Rat} (hr : 0 ≤ r) (hd : 0 < δ + 1) : 0 < ceO h r (h + δ) u := by
  unfold ceO
  have h1 : 0 < δ + r + 1 := by grind
  have h2 := Rat.mul_pos h1 h1
  have h3 := sq_nn u
  grind
theorem off_ne {h δ : Rat} (hd : δ ≠ 0) : h + δ ≠ h := fun e => hd (by grind)
def qsD (f v : Int) (T : Rat) : List (Int × Int × PyData) := (barsQ f v T).map fun t => (t.1, t.2.1, num t.2.2)
theorem qs_nd {f v : Int} {T : Rat} (h : v < f) : ((qsD f v T).map fun q => (q.1, q.2.1)).Nodup := by
  unfold qsD barsQ
  simp only [List.map_cons, List.map_nil, List.nodup_cons, List.mem_cons, List.not_mem_nil, Prod.mk.injEq, or_false, not_or, not_false_eq_true, List.nodup_nil, and_true]
  omega
theorem unit3 {k : Nat} {A : Around} (r : Room k A) : A.units + 3 < cLine := by have := r.un; omega
theorem gs_eq (T : Rat) : T * (17/8) * (T * (17/8)) - T * (15/8) * (T * (15/8)) = T * T := by grind
theorem gs_lt {T : Rat} (h : 0 < T) : T * (5/4) < T * (17/8) := by grind
def R__law_parts_right : List PyData → (PyData → Prop) → Prop := fun ds S => ds = [] ∧ S = Is (.bool true)
theorem one_l {S : PyData → Prop} {SS : List PyData → Prop} (h : ∀ es, SS es → es ≠ [] ∧ es.length ≤ 100 ∧ ∀ d ∈ es, S d) : ∀ ds, (∃ d l, ds = d :: l ∧ (∃ es, d = PyData.list es ∧ SS es) ∧ l = []) → R__law_one ds S := fun ds z => by
  obtain ⟨d, l, rfl, ⟨es, rfl, z⟩, rfl⟩ := z
  obtain ⟨h1, h2, h3⟩ := h es z
  exact ⟨es, rfl, h1, h2, h3⟩
theorem winch_n {n : Int} (h0 : 0 < n) (h1 : n < 1000000000) : ∀ ds, (∃ d l, ds = d :: l ∧ d = PyData.int n ∧ l = []) → R__law_winch ds (SInt n) := fun ds z => by
  obtain ⟨d, l, rfl, rfl, rfl⟩ := z
  exact ⟨n, rfl, h0, h1, rfl⟩

local macro_rules | `(tactic| walk_at "nb") => `(tactic| (first | exact Bd.up | exact nd_bd Bd.dn | assumption | (apply mul_bd <;> walk_at "nb") | (apply add_bd <;> walk_at "nb")))
local macro_rules | `(tactic| walk_at "cm") => `(tactic| (apply mulx_ok; (walk_at "nb"); (walk_at "nb"); omega))
local macro_rules | `(tactic| walk_at "sh") => `(tactic| (first | exact num_shaped _ | exact shp_int _ | exact shp_int2 _ _ | exact shp_none))
local macro_rules | `(tactic| walk_at "sh") => `(tactic| (first | exact num_shaped _ | exact pt_shaped _ _ | exact pl_shaped _ | exact shp_int _ | exact shp_int2 _ _ | exact shp_none | exact shp_lnil | exact shp_qu _ _))
section
variable {P : Program} {w : World} {K : PySem.W.Frag} {mg : Str → Option Value} {base : Heap}

theorem sc__law_parts_right : FnScope ["_law_hoist_here", "_law_first", "_law_both", "_law_reach", "_law_told", "_law_places", "_law_off_here", "_law_others", "_law_far_here", "_law_v", "_law_h", "_law_up", "_law_sides", "_law_due", "_law_great", "_law_small", "_law_each", "_law_pair", "_law_one_here", "_law_other", "_law_length"] ["_law_hoist_here"] (defScope (top 79)) := ⟨rfl, rfl, rfl, by decide +kernel, rfl, by decide +kernel, by decide +kernel⟩
theorem c__law_parts_right (T : Txt K mg) (TD : TxD K mg 42 "need_side" top (.str "side")) : CalG P w K mg base 9 "_law_parts_right" (spH K 20 R__law_parts_right) := by
  refine okHG T.t__law_parts_right sc__law_parts_right (fun _ _ _ _ _ _ us hl => match us, hl with | [_], _ => rfl) (fun ds S h => ?_) (fun f cdv A outer s H E mo p ds S hgd hr hp h => ?_)
  · obtain ⟨rfl, rfl⟩ := h
    rfl
  obtain ⟨rfl, rfl⟩ := h
  refine xh_le (xh_set (k2 := 16) 1 (h_add (S := (fun d => ∃ i : Int, d = .int i ∧ 1 ≤ i ∧ i ≤ 3990)) (h_pure fun c => pd_int) (h_callH (S := (fun d => ∃ i : Int, d = .int i ∧ 0 ≤ i ∧ i ≤ 3989)) 0 (c__law_one T) hr (by decide) rfl hp (ha_cons (h_lst (ha_cons (h_callH (S := SInt 9) 0 (c__law_winch T) hr (by decide) rfl hp (ha_cons (h_pure fun c => pd_int) ha_nil) (winch_n (by decide) (by decide))) (ha_cons (h_callH (S := SInt 80) 0 (c__law_winch T) hr (by decide) rfl hp (ha_cons (h_pure fun c => pd_int) ha_nil) (winch_n (by decide) (by decide))) (ha_cons (h_sub (S := (fun d => ∃ i : Int, d = .int i ∧ 0 ≤ i ∧ i ≤ 3989)) (h_pure fun c => pd_int) (h_callH (S := SInt 9) 0 (c__law_winch T) hr (by decide) rfl hp (ha_cons (h_pure fun c => pd_int) ha_nil) (winch_n (by decide) (by decide))) (fun x y h1 h2 => by obtain ⟨i, rfl, h3, h4⟩ := h2; cases h1; exact ⟨3989, i, rfl, rfl, _, rfl, by omega, by omega⟩)) ha_nil))) (fun ds z => by obtain ⟨x1, r1, rfl, s1, x2, r2, rfl, s2, x3, r3, rfl, s3, h7⟩ := z; cases h7; exact Nat.le_of_ble_eq_true rfl)) ha_nil) (one_l (fun es z => by obtain ⟨x1, r1, rfl, s1, x2, r2, rfl, s2, x3, r3, rfl, s3, h7⟩ := z; cases h7; obtain ⟨i1, rfl, a1, b1⟩ := s1; obtain ⟨i2, rfl, a2, b2⟩ := s2; obtain ⟨i3, rfl, a3, b3⟩ := s3; refine ⟨by simp, by simp, fun d hd => ?_⟩; simp only [List.mem_cons, List.not_mem_nil, or_false] at hd; rcases hd with rfl | rfl | rfl; exact ⟨_, rfl, by omega, by omega⟩; exact ⟨_, rfl, by omega, by omega⟩; exact ⟨_, rfl, by omega, by omega⟩))) (fun x y h1 h2 => by obtain ⟨i, rfl, h3, h4⟩ := h2; cases h1; exact ⟨1, i, rfl, rfl, _, rfl, by omega, by omega⟩)) (fun d z => ?_) sc__law_parts_right.nd) (by decide)
  obtain ⟨f', rfl, f1, f2⟩ := z
  refine xh_le (xh_par3 (k2 := 5) 9 10 11 rfl sc__law_parts_right.nd (ha_cons (h_callH (S := SInt f') 0 (c__law_winch T) hr (by decide) rfl hp (ha_cons (h_pure fun c => pd_var 1) ha_nil) (winch_n (by omega) (by omega))) (ha_cons (h_callH (S := SNum) 0 (c__law_number T) hr (by decide) rfl hp ha_nil (fun ds z => ⟨z, rfl⟩)) (ha_cons (h_callH (S := SNum) 0 (c__law_number T) hr (by decide) rfl hp ha_nil (fun ds z => ⟨z, rfl⟩)) ha_nil))) (fun ds z => by obtain ⟨x1, r1, rfl, s1, x2, r2, rfl, s2, x3, r3, rfl, s3, h7⟩ := z; cases h7; exact ⟨_, _, _, rfl⟩) (fun d1 d2 d3 z => ?_)) (by decide)
  obtain ⟨x1, r1, e1, s1, x2, r2, e2, s2, x3, r3, e3, s3, e4⟩ := z
  cases e1
  cases e2
  cases e3
  cases e4
  obtain ⟨v', rfl, v0, v1⟩ := s1
  obtain ⟨h, rfl, bh⟩ := s2
  obtain ⟨u, rfl, bu⟩ := s3
  have bah := absQ_bd bh
  have bau := absQ_bd bu
  refine xh_setLc 2 (fun c => (plc_T (own := [("_law_each", 16)]) (ds := [num h, num u]) (rs := [num (absQ h), num (absQ u)]) (.one 16) rfl sc__law_parts_right.nd (pd_tup (pl_cons (pd_var 10) (pl_cons (pd_var 11) pl_nil))) (blkOk_by (N := ["_law_hoist_here", "_law_first", "_law_both", "_law_reach", "_law_told", "_law_places", "_law_off_here", "_law_others", "_law_far_here", "_law_v", "_law_h", "_law_up", "_law_sides", "_law_due", "_law_great", "_law_small", "_law_each", "_law_pair", "_law_one_here", "_law_other", "_law_length"]) (sc := defScope (top 79)) (by decide +kernel)) (show 16 ∈ [16] by decide) (fun _ _ => trivial) (Nat.le_of_ble_eq_true rfl) rfl (fun _ _ _ _ _ => (pg_name sc__law_parts_right.nd rfl (Or.inl rfl))) (fun s H C cl fp i x' y' D acc hx hy => ?_))) ?_
  · match i, hx, hy with
    | 0, hx, hy => cases hx; cases hy; exact pd_if (x := decide (h < 0)) (pb_val (pd_call (c__law_is_below T) hr (by decide) rfl (pl_cons (pd_var 16) (pl_cons pd_int pl_nil)) (by exact rel__law_is_below))) (fun hc => pd_le (pd_call (c__law_by T) hr (by decide) rfl (pl_cons (pd_var 16) (pl_cons (pd_neg pd_int) pl_nil)) (by exact rel__law_by)) (fun _ z => z.trans (by rw [absQ, if_pos (of_decide_eq_true hc)]))) (fun hc => pd_le (pd_var 16) (fun _ z => z.trans (by rw [absQ, if_neg (of_decide_eq_false hc)])))
    | 1, hx, hy => cases hx; cases hy; exact pd_if (x := decide (u < 0)) (pb_val (pd_call (c__law_is_below T) hr (by decide) rfl (pl_cons (pd_var 16) (pl_cons pd_int pl_nil)) (by exact rel__law_is_below))) (fun hc => pd_le (pd_call (c__law_by T) hr (by decide) rfl (pl_cons (pd_var 16) (pl_cons (pd_neg pd_int) pl_nil)) (by exact rel__law_by)) (fun _ z => z.trans (by rw [absQ, if_pos (of_decide_eq_true hc)]))) (fun hc => pd_le (pd_var 16) (fun _ z => z.trans (by rw [absQ, if_neg (of_decide_eq_false hc)])))
    | _ + 2, hx, hy => cases hx
  refine xh_le (xh_set (k2 := 4) 3 (h_callP (S := (fun d => ∃ i : Int, 0 ≤ i ∧ i < 12 ∧ d = num (absQ h + absQ u + (i : Rat) / ((5 : Int) : Rat)))) (c__law_sum T) hr (by decide) rfl (ha_cons (h_pure fun c => (pd_call (c__law_sum T) hr (by decide) rfl (pl_cons (pd_ixL (pd_var 2) pd_int) (pl_cons (pd_ixL (pd_var 2) pd_int) pl_nil)) (by exact rel__law_sum))) (ha_cons (h_callP (S := (fun d => ∃ i : Int, 0 ≤ i ∧ i < 12 ∧ d = num ((i : Rat) / ((5 : Int) : Rat)))) (c__law_low T) hr (by decide) rfl (ha_cons (h_callH (S := SInt 12) 0 (c__law_winch T) hr (by decide) rfl hp (ha_cons (h_pure fun c => pd_int) ha_nil) (winch_n (by decide) (by decide))) (ha_cons (h_pure fun c => pd_int) ha_nil)) (fun ds z => by obtain ⟨x, r, rfl, ⟨i, rfl, h1, h2⟩, y, r2, rfl, h3, h4⟩ := z; cases h3; cases h4; exact ⟨_, rl_low (by decide) (by decide), i, h1, h2, rfl⟩)) ha_nil)) (fun ds z => by
    obtain ⟨x, r, rfl, h0, y, r2, rfl, ⟨i, h1, h2, rfl⟩, h3⟩ := z
    cases h0
    cases h3
    have bi : Bd ((i : Rat) / ((5 : Int) : Rat)) 4 := bd_frac (by decide) (show i.natAbs < 16 by omega) (by decide)
    exact ⟨_, rel__law_sum, i, h1, h2, rfl⟩)) (fun d z => ?_) sc__law_parts_right.nd) (by decide)
  obtain ⟨i, i0, i1, rfl⟩ := z
  have bi : Bd ((i : Rat) / ((5 : Int) : Rat)) 4 := bd_frac (by decide) (show i.natAbs < 16 by omega) (by decide)
  obtain ⟨r0, t0, hh, uu⟩ := reach_facts (h := h) (u := u) (frac_nn i0 (show (0 : Int) < 5 by decide))
  have br : Bd (absQ h + absQ u + (i : Rat) / ((5 : Int) : Rat)) 20 := (inferInstance : Bd (absQ h + absQ u + (i : Rat) / ((5 : Int) : Rat)) (7 + 7 + 1 + 4 + 1))
  generalize absQ h + absQ u + (i : Rat) / ((5 : Int) : Rat) = r at *
  obtain ⟨on1, on2⟩ := low_on (h := h) t0 uu
  refine xh_le (xh_par (k2 := 2) 12 13 rfl sc__law_parts_right.nd (ha_cons (h_tup (ha_cons (h_callH (S := (fun d => ∃ i : Int, d = .int i ∧ (i = 1 ∨ i = -1))) 0 (c__law_one T) hr (by decide) rfl hp (ha_cons (h_lst (ha_cons (h_pure fun c => pd_int) (ha_cons (h_pure fun c => pd_neg pd_int) ha_nil)) (fun ds z => by obtain ⟨x1, r1, rfl, s1, x2, r2, rfl, s2, h7⟩ := z; cases h7; cases s1; cases s2; exact Nat.le_of_ble_eq_true rfl)) ha_nil) (one_l (fun es z => by obtain ⟨x1, r1, rfl, s1, x2, r2, rfl, s2, h7⟩ := z; cases h7; cases s1; cases s2; refine ⟨by simp, by simp, fun d hd => ?_⟩; simp only [List.mem_cons, List.not_mem_nil, or_false] at hd; rcases hd with rfl | rfl; exact ⟨_, rfl, .inl rfl⟩; exact ⟨_, rfl, .inr rfl⟩))) (ha_cons (h_callH (S := (fun d => ∃ i : Int, d = .int i ∧ (i = 1 ∨ i = -1))) 0 (c__law_one T) hr (by decide) rfl hp (ha_cons (h_lst (ha_cons (h_pure fun c => pd_int) (ha_cons (h_pure fun c => pd_neg pd_int) ha_nil)) (fun ds z => by obtain ⟨x1, r1, rfl, s1, x2, r2, rfl, s2, h7⟩ := z; cases h7; cases s1; cases s2; exact Nat.le_of_ble_eq_true rfl)) ha_nil) (one_l (fun es z => by obtain ⟨x1, r1, rfl, s1, x2, r2, rfl, s2, h7⟩ := z; cases h7; cases s1; cases s2; refine ⟨by simp, by simp, fun d hd => ?_⟩; simp only [List.mem_cons, List.not_mem_nil, or_false] at hd; rcases hd with rfl | rfl; exact ⟨_, rfl, .inl rfl⟩; exact ⟨_, rfl, .inr rfl⟩))) ha_nil)) (fun ds z => by obtain ⟨x1, r1, rfl, s1, x2, r2, rfl, s2, h7⟩ := z; cases h7; exact Nat.le_of_ble_eq_true rfl)) (ha_cons (h_pure fun c => (pd_call (c__law_parts T) hr (by decide) rfl (pl_cons (pd_var 1) (pl_cons (pd_var 9) (pl_cons (pd_var 10) (pl_cons (pd_var 3) pl_nil)))) (by exact (rel__law_parts v0 v1 (by omega) bh br)))) ha_nil)) (fun ds z => by obtain ⟨x1, r1, rfl, s1, x2, r2, rfl, s2, h7⟩ := z; cases h7; exact ⟨_, _, rfl⟩) (fun d1 d2 z => ?_)) (by decide)
  obtain ⟨x1, r1, e1, ⟨es, e5, y1, q1, rfl, ⟨s0, rfl, z0⟩, y2, q2, rfl, ⟨s1, rfl, z1⟩, rfl⟩, x2, r2, e2, e3, e4⟩ := z
  cases e1
  cases e2
  subst e5
  subst e3
  cases e4
  change PSs _ _ (tXH _ mo p 2 [.v (.ref p), .d (.int f'), .d (.list [num (absQ h), num (absQ u)]), .d (num r), .no, .no, .no, .no, .no, .d (.int v'), .d (num h), .d (num u), .d (.tuple [.int s0, .int s1]), .d (partsD f' v' h (r + 1)), .no, .no, .no, .no, .no, .no, .no] _ _)
  refine xh_set1 4 (fun c => (pd_call (c_cell_parts T) hr (by decide) rfl (pl_cons (pd_var 1) (pl_cons (pd_var 9) (pl_cons (pd_var 10) (pl_cons (pd_var 3) pl_nil)))) (by exact (rel_cell_parts v0 v1 bh br r0)))) ?_ sc__law_parts_right.nd
  have rbp := rb_parts v0 v1 (show f' ≤ 4000 by omega) bh (bdAdd : Bd (r + 1) (20 + 1 + 1))
  refine xh_ifR (x := false) (fun c => pb_neS (pd_repr hgd hr (pd_lst (pl_cons (pd_var 4) (pl_cons (pd_cellK T hr (by decide) rfl (kd_cons (pd_var 3) (kd_cons (pd_var 10) (kd_cons (pd_var 9) (kd_cons (pd_var 1) kd_nil)))) (rel_cell_parts v0 v1 bh br r0)) pl_nil))) (rb_lst (rb_cons rbp (rb_cons rbp rb_nil))) (by decide) (by decide) (.inl ⟨_, rfl⟩) rfl T.f_repr) (pd_repr hgd hr (pd_lst (pl_cons (pd_var 13) (pl_cons (pd_var 13) pl_nil))) (rb_lst (rb_cons rbp (rb_cons rbp rb_nil))) (by decide) (by decide) (.inl ⟨_, rfl⟩) rfl T.f_repr)) (fun z => by cases z) (fun _ => ?_)
  refine xh_set1 (d := .list ((nineL h r h u s0 s1).map Pl.d)) 5 (fun c => pd_le (pd_call (c__law_nine T) hr (by decide) rfl (pl_cons (pd_var 10) (pl_cons (pd_var 3) (pl_cons (pd_tup (pl_cons (pd_var 10) (pl_cons (pd_var 11) pl_nil))) (pl_cons (pd_var 12) pl_nil)))) (by exact (rel__law_nine bh br (bdLe bh (by decide)) bu z0 z1 on1))) (fun _ z => z.trans (by rw [if_pos on2]))) ?_ sc__law_parts_right.nd
  change PSs _ _ (tXH _ mo p 2 [.v (.ref p), .d (.int f'), .d (.list [num (absQ h), num (absQ u)]), .d (num r), .d (partsD f' v' h (r + 1)), .d (.list ((nineL h r h u s0 s1).map Pl.d)), .no, .no, .no, .d (.int v'), .d (num h), .d (num u), .d (.tuple [.int s0, .int s1]), .d (partsD f' v' h (r + 1)), .no, .no, .no, .no, .no, .no, .no] _ _)
  refine xh_ifR (x := false) (fun c => pb_is (pb_w (pbw_or (x := false) (pb_neS (pd_repr hgd hr (pd_call (c_cell_places T TD) hr (by decide) rfl (pl_cons (pd_var 10) (pl_cons (pd_var 3) (pl_cons (pd_tup (pl_cons (pd_var 10) (pl_cons (pd_var 11) pl_nil))) (pl_cons (pd_var 12) pl_nil)))) (by exact (rel_cell_places ⟨bh, br, bdLe bh (by decide), bu, z0, z1, on1, on2⟩ r0 hh))) (rb_nine bh br (bdLe bh (by decide)) bu z0 z1 on1 on2) (by decide) (by decide) (.inr ⟨_, rfl⟩) rfl T.f_repr) (pd_repr hgd hr (pd_tupL (pd_var 5) rfl T.f_tuple) (rb_nine bh br (bdLe bh (by decide)) bu z0 z1 on1 on2) (by decide) (by decide) (.inr ⟨_, rfl⟩) rfl T.f_repr)) (fun _ => pbw_or1 (pb_ne hr.units (x := .list []) (pd_le (pd_call (c__law_torn T) hr (by decide) rfl (pl_cons (pd_var 1) (pl_cons (pd_var 9) (pl_cons (pd_var 5) (pl_cons (pd_tup (pl_cons (pd_var 10) (pl_cons (pd_var 11) pl_nil))) (pl_cons (pd_var 4) pl_nil))))) (by exact (torn_rel v0 v1 (by omega) bh br (bdLe bh (by decide)) bu z0 z1 on1 on2 t0))) (fun _ z => z.trans (by rw [if_pos rfl]))) (pd_lst pl_nil) shp_lnil shp_lnil)))) (by rw [nil_eqv]; rfl)) (fun z => by cases z) (fun _ => ?_)
  refine xh_le (xh_set (k2 := 0) 6 (h_tup (ha_cons (h_callP (S := (fun d => ∃ δ : Rat, d = num (h + δ) ∧ Bd δ 30 ∧ δ ≠ 0 ∧ 0 < δ + 1)) (c__law_sum T) hr (by decide) rfl (ha_cons (h_pure fun c => (pd_var 10)) (ha_cons (h_callH (S := SOff) 0 (c__law_one T) hr (by decide) rfl hp (ha_cons (h_lst (ha_cons (h_pure fun c => (pd_tup (pl_cons pd_int (pl_cons pd_int pl_nil)))) (ha_cons (h_pure fun c => (pd_tup (pl_cons (pd_neg pd_int) (pl_cons pd_int pl_nil)))) (ha_cons (h_callP (S := SOff) (c__law_low T) hr (by decide) rfl (ha_cons (h_add (S := fun d => ∃ i : Int, d = .int i ∧ 1 ≤ i ∧ i ≤ 9) (h_pure fun c => pd_int) (h_callH (S := SInt 9) 0 (c__law_winch T) hr (by decide) rfl hp (ha_cons (h_pure fun c => pd_int) ha_nil) (winch_n (by decide) (by decide))) (fun x y h1 h2 => by obtain ⟨i, rfl, h3, h4⟩ := h2; cases h1; exact ⟨1, i, rfl, rfl, _, rfl, by omega, by omega⟩)) (ha_cons (h_pure fun c => pd_int) ha_nil)) (fun ds z => by obtain ⟨x, r, rfl, ⟨i, rfl, h1, h2⟩, y, r2, rfl, h3, h4⟩ := z; cases h3; cases h4; exact ⟨_, rl_low (by decide) (by decide), off3 h1 h2⟩)) (ha_cons (h_pure fun c => (pd_le (pd_tup (pl_cons (pd_neg pd_int) (pl_cons (pd_pow pd_int pd_int (cpow1 (by decide) (by decide) (by decide))) pl_nil))) (fun _ z => z.trans (show _ = PyData.tuple [.int (-1), .int 1000000000] from rfl)))) ha_nil)))) (fun ds z => by obtain ⟨x1, r1, rfl, s1, x2, r2, rfl, s2, x3, r3, rfl, s3, x4, r4, rfl, s4, h7⟩ := z; cases h7; cases s1; cases s2; cases s4; exact Nat.le_of_ble_eq_true rfl)) ha_nil) (one_l (fun es z => by obtain ⟨x1, r1, rfl, s1, x2, r2, rfl, s2, x3, r3, rfl, s3, x4, r4, rfl, s4, h7⟩ := z; cases h7; cases s1; cases s2; cases s4; refine ⟨by simp, by simp, fun d hd => ?_⟩; simp only [List.mem_cons, List.not_mem_nil, or_false] at hd; rcases hd with rfl | rfl | rfl | rfl; exact off1; exact off2; exact s3; exact off4))) ha_nil)) (fun ds z => by
    obtain ⟨x, r, rfl, h0, y, r2, rfl, ⟨δ, rfl, h1, h2, h4⟩, h3⟩ := z
    cases h0
    cases h3
    exact ⟨_, rel__law_sum, δ, rfl, h1, h2, h4⟩)) (ha_cons (h_pure fun c => (pd_var 11)) ha_nil)) (fun ds z => by obtain ⟨x1, r1, rfl, s1, x2, r2, rfl, s2, h7⟩ := z; cases h7; exact Nat.le_of_ble_eq_true rfl)) (fun d z => ?_) sc__law_parts_right.nd) (by decide)
  obtain ⟨es, rfl, x1, r1, rfl, ⟨δ, rfl, bd, d0, d1⟩, x2, r2, rfl, e2, e3⟩ := z
  subst e2
  subst e3
  have bo : Bd (h + δ) 38 := (inferInstance : Bd (h + δ) (7 + 30 + 1))
  have of1 := off_on (h := h) (u := u) r0 d1
  have ofn := off_ne (h := h) d0
  refine xh_pure (fun c => ?_)
  change PQ _ _ [.v (.ref p), .d (.int f'), .d (.list [num (absQ h), num (absQ u)]), .d (num r), .d (partsD f' v' h (r + 1)), .d (.list ((nineL h r h u s0 s1).map Pl.d)), .d (pt (h + δ) u), .no, .no, .d (.int v'), .d (num h), .d (num u), .d (.tuple [.int s0, .int s1]), .d (partsD f' v' h (r + 1)), .no, .no, .no, .no, .no, .no, .no] _ _ _
  refine ss_set1 (d := if 0 < ceL (ceP h r (h + δ) u) then .list ((nineL h r (h + δ) u s0 s1).map Pl.d) else .none) 7 (pd_call (c__law_nine T) hr (by decide) rfl (pl_cons (pd_var 10) (pl_cons (pd_var 3) (pl_cons (pd_var 6) (pl_cons (pd_var 12) pl_nil)))) (by exact (rel__law_nine bh br bo bu z0 z1 of1))) ?_ sc__law_parts_right.nd
  refine ss_ifR (x := false) ?_ (fun z => by cases z) (fun _ => ?_)
  · by_cases low : 0 < ceL (ceP h r (h + δ) u)
    · rw [if_pos low]
      exact pb_is (pb_w (pbw_and (pb_notN (pd_var 7)) (fun _ => pbw_and1 (pb_ne hr.units (x := .list [.tuple [.int (f' + 6), .int (f' + 7)]]) (pd_le (pd_call (c__law_torn T) hr (by decide) rfl (pl_cons (pd_var 1) (pl_cons (pd_var 9) (pl_cons (pd_var 7) (pl_cons (pd_var 6) (pl_cons (pd_var 4) pl_nil))))) (by exact (torn_rel v0 v1 (by omega) bh br bo bu z0 z1 of1 low t0))) (fun _ z => z.trans (by rw [if_neg ofn]))) (pd_lst (pl_cons (pd_tup (pl_cons (pd_add (pd_var 1) pd_int) (pl_cons (pd_add (pd_var 1) pd_int) pl_nil))) pl_nil)) (shp_qu _ _) (shp_qu _ _))))) (by rw [qu_eqv]; rfl)
    · rw [if_neg low]
      exact pb_is (pb_w (pbw_and (x := !isNoneD PyData.none) (y := false) (pb_notN (pd_var 7)) (fun z => by cases z))) rfl
  change PQ _ _ [.v (.ref p), .d (.int f'), .d (.list [num (absQ h), num (absQ u)]), .d (num r), .d (partsD f' v' h (r + 1)), .d (.list ((nineL h r h u s0 s1).map Pl.d)), .d (pt (h + δ) u), .d (if 0 < ceL (ceP h r (h + δ) u) then .list ((nineL h r (h + δ) u s0 s1).map Pl.d) else .none), .no, .d (.int v'), .d (num h), .d (num u), .d (.tuple [.int s0, .int s1]), .d (partsD f' v' h (r + 1)), .no, .no, .no, .no, .no, .no, .no] _ _ _
  refine ss_asg (PLc.pd <| plc_T (own := [("_law_pair", 17)]) (ds := [.tuple [.int (f' + 4), .int (f' + 8)], .tuple [.int v', .int (f' + 8)]]) (rs := [num ((r + 1) * (17/8)), num ((r + 1) * (15/8))]) (.one 17) rfl sc__law_parts_right.nd (pd_tup (pl_cons (pd_tup (pl_cons (pd_add (pd_var 1) pd_int) (pl_cons (pd_add (pd_var 1) pd_int) pl_nil))) (pl_cons (pd_tup (pl_cons (pd_le (pd_min rfl (pd_var 9) (pd_add (pd_var 1) pd_int) rfl T.f_min) (fun _ z => z.trans (by rw [if_neg (by omega)]))) (pl_cons (pd_add (pd_var 1) pd_int) pl_nil))) pl_nil))) (blkOk_by (N := ["_law_hoist_here", "_law_first", "_law_both", "_law_reach", "_law_told", "_law_places", "_law_off_here", "_law_others", "_law_far_here", "_law_v", "_law_h", "_law_up", "_law_sides", "_law_due", "_law_great", "_law_small", "_law_each", "_law_pair", "_law_one_here", "_law_other", "_law_length"]) (sc := defScope (top 79)) (by decide +kernel)) (show 17 ∈ [17] by decide) (fun _ _ => trivial) (Nat.le_of_ble_eq_true rfl) rfl (fun _ _ _ _ _ => (pg_name sc__law_parts_right.nd rfl (Or.inl rfl))) (fun s2 H2 C2 cl2 fp2 i2 x2 y2 D2 acc2 hx2 hy2 => ?_)) (g_lst rfl (g_cons (g_name 14 sc__law_parts_right.nd) (g_cons (g_name 15 sc__law_parts_right.nd) g_nil))) ?_
  · match i2, hx2, hy2 with
    | 0, hx2, hy2 =>
      cases hx2
      cases hy2
      refine (pd_dpair (q0 := (f' + 4, f' + 8, num ((r + 1) * (17/8)))) 17 rfl (unit3 hr) rfl T.f_dict (PLc.pd <| plc_T (own := [("_law_one_here", 18), ("_law_other", 19), ("_law_length", 20)]) (ds := (barsD f' v' (r + 1))) (rs := ((qsD f' v' (r + 1)).map dpD)) (.tup [18, 19, 20]) rfl sc__law_parts_right.nd (pd_ixT (pd_var 4) pd_int) (blkOk_by rfl) (show ∀ i ∈ [18, 19, 20], i ∈ [18, 19, 20] from fun _ z => z) (tgk_all rfl) (Nat.le_of_ble_eq_true rfl) rfl (fun _ _ _ _ _ => (pg_tup rfl (pgs_cons (pg_name sc__law_parts_right.nd rfl (Or.inl rfl)) (pgs_cons (pg_name sc__law_parts_right.nd rfl (Or.inl rfl)) (pgs_cons (pg_name sc__law_parts_right.nd rfl (Or.inl rfl)) pgs_nil))))) (fun s H C cl fp i x' y' D acc hx hy => ?_)) (by simp [qsD, barsQ]) (qs_nd v1) (Nat.le_of_ble_eq_true rfl))
      match i, hx, hy with
      | 0, hx, hy => cases hx; cases hy; exact (pd_tup (pl_cons (pd_tup (pl_cons (pd_var 18) (pl_cons (pd_var 19) pl_nil))) (pl_cons (pd_var 20) pl_nil)))
      | 1, hx, hy => cases hx; cases hy; exact (pd_tup (pl_cons (pd_tup (pl_cons (pd_var 18) (pl_cons (pd_var 19) pl_nil))) (pl_cons (pd_var 20) pl_nil)))
      | 2, hx, hy => cases hx; cases hy; exact (pd_tup (pl_cons (pd_tup (pl_cons (pd_var 18) (pl_cons (pd_var 19) pl_nil))) (pl_cons (pd_var 20) pl_nil)))
      | 3, hx, hy => cases hx; cases hy; exact (pd_tup (pl_cons (pd_tup (pl_cons (pd_var 18) (pl_cons (pd_var 19) pl_nil))) (pl_cons (pd_var 20) pl_nil)))
      | 4, hx, hy => cases hx; cases hy; exact (pd_tup (pl_cons (pd_tup (pl_cons (pd_var 18) (pl_cons (pd_var 19) pl_nil))) (pl_cons (pd_var 20) pl_nil)))
      | 5, hx, hy => cases hx; cases hy; exact (pd_tup (pl_cons (pd_tup (pl_cons (pd_var 18) (pl_cons (pd_var 19) pl_nil))) (pl_cons (pd_var 20) pl_nil)))
      | 6, hx, hy => cases hx; cases hy; exact (pd_tup (pl_cons (pd_tup (pl_cons (pd_var 18) (pl_cons (pd_var 19) pl_nil))) (pl_cons (pd_var 20) pl_nil)))
      | 7, hx, hy => cases hx; cases hy; exact (pd_tup (pl_cons (pd_tup (pl_cons (pd_var 18) (pl_cons (pd_var 19) pl_nil))) (pl_cons (pd_var 20) pl_nil)))
      | 8, hx, hy => cases hx; cases hy; exact (pd_tup (pl_cons (pd_tup (pl_cons (pd_var 18) (pl_cons (pd_var 19) pl_nil))) (pl_cons (pd_var 20) pl_nil)))
      | _ + 9, hx, hy => cases hx
    | 1, hx2, hy2 =>
      cases hx2
      cases hy2
      refine (pd_dpair (q0 := (v', f' + 8, num ((r + 1) * (15/8)))) 17 rfl (unit3 hr) rfl T.f_dict (PLc.pd <| plc_T (own := [("_law_one_here", 18), ("_law_other", 19), ("_law_length", 20)]) (ds := (barsD f' v' (r + 1))) (rs := ((qsD f' v' (r + 1)).map dpD)) (.tup [18, 19, 20]) rfl sc__law_parts_right.nd (pd_ixT (pd_var 4) pd_int) (blkOk_by rfl) (show ∀ i ∈ [18, 19, 20], i ∈ [18, 19, 20] from fun _ z => z) (tgk_all rfl) (Nat.le_of_ble_eq_true rfl) rfl (fun _ _ _ _ _ => (pg_tup rfl (pgs_cons (pg_name sc__law_parts_right.nd rfl (Or.inl rfl)) (pgs_cons (pg_name sc__law_parts_right.nd rfl (Or.inl rfl)) (pgs_cons (pg_name sc__law_parts_right.nd rfl (Or.inl rfl)) pgs_nil))))) (fun s H C cl fp i x' y' D acc hx hy => ?_)) (by simp [qsD, barsQ]) (qs_nd v1) (Nat.le_of_ble_eq_true rfl))
      match i, hx, hy with
      | 0, hx, hy => cases hx; cases hy; exact (pd_tup (pl_cons (pd_tup (pl_cons (pd_var 18) (pl_cons (pd_var 19) pl_nil))) (pl_cons (pd_var 20) pl_nil)))
      | 1, hx, hy => cases hx; cases hy; exact (pd_tup (pl_cons (pd_tup (pl_cons (pd_var 18) (pl_cons (pd_var 19) pl_nil))) (pl_cons (pd_var 20) pl_nil)))
      | 2, hx, hy => cases hx; cases hy; exact (pd_tup (pl_cons (pd_tup (pl_cons (pd_var 18) (pl_cons (pd_var 19) pl_nil))) (pl_cons (pd_var 20) pl_nil)))
      | 3, hx, hy => cases hx; cases hy; exact (pd_tup (pl_cons (pd_tup (pl_cons (pd_var 18) (pl_cons (pd_var 19) pl_nil))) (pl_cons (pd_var 20) pl_nil)))
      | 4, hx, hy => cases hx; cases hy; exact (pd_tup (pl_cons (pd_tup (pl_cons (pd_var 18) (pl_cons (pd_var 19) pl_nil))) (pl_cons (pd_var 20) pl_nil)))
      | 5, hx, hy => cases hx; cases hy; exact (pd_tup (pl_cons (pd_tup (pl_cons (pd_var 18) (pl_cons (pd_var 19) pl_nil))) (pl_cons (pd_var 20) pl_nil)))
      | 6, hx, hy => cases hx; cases hy; exact (pd_tup (pl_cons (pd_tup (pl_cons (pd_var 18) (pl_cons (pd_var 19) pl_nil))) (pl_cons (pd_var 20) pl_nil)))
      | 7, hx, hy => cases hx; cases hy; exact (pd_tup (pl_cons (pd_tup (pl_cons (pd_var 18) (pl_cons (pd_var 19) pl_nil))) (pl_cons (pd_var 20) pl_nil)))
      | 8, hx, hy => cases hx; cases hy; exact (pd_tup (pl_cons (pd_tup (pl_cons (pd_var 18) (pl_cons (pd_var 19) pl_nil))) (pl_cons (pd_var 20) pl_nil)))
      | _ + 9, hx, hy => cases hx
    | _ + 2, hx2, hy2 => cases hx2
  change PQ _ _ [.v (.ref p), .d (.int f'), .d (.list [num (absQ h), num (absQ u)]), .d (num r), .d (partsD f' v' h (r + 1)), .d (.list ((nineL h r h u s0 s1).map Pl.d)), .d (pt (h + δ) u), .d (if 0 < ceL (ceP h r (h + δ) u) then .list ((nineL h r (h + δ) u s0 s1).map Pl.d) else .none), .no, .d (.int v'), .d (num h), .d (num u), .d (.tuple [.int s0, .int s1]), .d (partsD f' v' h (r + 1)), .d (num ((r + 1) * (17/8))), .d (num ((r + 1) * (15/8))), .no, .no, .no, .no, .no] _ _ _
  have bT : Bd (r + 1) 22 := (bdAdd : Bd (r + 1) (20 + 1 + 1))
  refine ss_set1 8 (pd_call (c__law_sum T) hr (by decide) rfl (pl_cons (pd_var 3) (pl_cons pd_int pl_nil)) (by exact rel__law_sum)) ?_ sc__law_parts_right.nd
  refine ss_ret (pd_le (pd_and (x := true) (pd_le (pd_eq hr.units (pd_call (c__law_less T) hr (by decide) rfl (pl_cons (pd_call (c__law_by T) hr (by decide) rfl (pl_cons (pd_var 14) (pl_cons (pd_var 14) pl_nil)) (by exact rel__law_by)) (pl_cons (pd_call (c__law_by T) hr (by decide) rfl (pl_cons (pd_var 15) (pl_cons (pd_var 15) pl_nil)) (by exact rel__law_by)) pl_nil)) (by exact rel__law_less)) (pd_call (c__law_by T) hr (by decide) rfl (pl_cons (pd_var 8) (pl_cons (pd_var 8) pl_nil)) (by exact rel__law_by)) (by walk_at "sh") (by walk_at "sh")) (fun _ z => z.trans (by rw [num_eqv, gs_eq, decide_eq_true rfl]))) (fun _ => pd_one (pd_le (pd_call (c__law_is_below T) hr (by decide) rfl (pl_cons (pd_call (c__law_by T) hr (by decide) rfl (pl_cons (pd_var 8) (pl_cons (pd_tup (pl_cons pd_int (pl_cons pd_int pl_nil))) pl_nil)) (by exact rel__law_by)) (pl_cons (pd_var 14) pl_nil)) (by exact rel__law_is_below)) (fun _ z => z.trans (by rw [decide_eq_true (gs_lt t0)]))))) (fun _ z => z)) (fun _ z => z.trans ?_)
  rfl
end
end Cv

set_option Elab.async false
set_option linter.all false
set_option maxRecDepth 100000
set_option maxHeartbeats 2000000
/-! BadNumber: how it is made, how it is raised. -/
namespace Cv
open PySem PySem.Spec PyProof.Rows L2
def clsB : Stmt → List Stmt
  | .ClassDef (body := b) .. => b
  | _ => []
def initS : Stmt := (clsB (top 3)).getD 0 (.Pass ⟨0, 0, 0, 0⟩)
/-- what the top has written of both classes -/
structure BNC (K : PySem.W.Frag) (mg : Str → Option Value) (CE BN fI : Addr) (fd : FuncData) : Prop where
  mCE : mg "CurveError" = some (.ref CE)
  mBN : mg "BadNumber" = some (.ref BN)
  oex : OexC K BN
  part : PySem.W.findIn K (.ref BN) "part" = some none
  ini : PySem.W.findIn K (.ref BN) "__init__" = some (some (.ref fI))
  tI : PySem.W.typeIn K (.ref fI) = some (.type "function")
  ceG : PySem.W.specialIn K (.ref CE) "__getattribute__" = some (some (.builtin "type.__getattribute__"))
  ceT : PySem.W.typeIn K (.ref CE) = some (.type "type")
  ceR : PySem.W.readsIn K CE (.type "type") = true
  ceI : PySem.W.findCls K (.ref CE) (.type "type") "__init__" = some (.val (.builtin "ValueError.__init__"))
  def_ : FunD K "__init__" "BadNumber.__init__" (defArgs initS) (defBody initS) (defScope initS) [] [] fI fd
  exm : PySem.W.exmOne K (.ref BN) (.ref CE) = some true
  kit : PySem.W.kitOne K (.ref BN) (.ref BN) = some true
  xc : ExcC K BN
  xf : XfC K BN
section
variable {X : Cx} {CE BN fI : Addr} {fd : FuncData} {e : Expr} {es : List Expr} {ta : TA} {p1 p2 pos : Pos}
/-- CurveError.__init__(self, ..): it is ValueError's -/
theorem pe_ceinit {pl : Sem Bool} (B : BNC X.K X.mg CE BN fI fd) (hg : Gl X "CurveError") (ha : PA X (e :: es) ta)
    (hc : eval (.Call (.Attribute (.Name "CurveError" p1) "__init__" p2) (e :: es) [] pos) X.env = (do
      let ov ← eval (.Name "CurveError" p1) X.env
      standAt p2.atName
      let (f, first) ← holding [ov] (getMethod ov "__init__" pl)
      callWith pos f first (backTo pos (starEach (e :: es) X.env)) (backToKw pos (keywordEach [] X.env))) := by rfl)
    (he : starEach (e :: es) X.env = (false, eval e X.env) :: starEach es X.env := by rfl) (hpl : (backTo pos (starEach es X.env)).any (·.1) = false := by rfl) :
    PE X (.Call (.Attribute (.Name "CurveError" p1) "__init__" p2) (e :: es) [] pos) (tVeI X.K ta) := by
  refine ⟨fun pins s σ H Q I h => ?_⟩
  refine PySem.W.methodCall_KW (ld_glob I hg B.mCE ?_) hc
  obtain ⟨m, fr⟩ := I.fr
  refine PySem.W.method_of_cls fr I.ok.mod.kin B.ceG (PySem.W.cls_val fr I.ok.mod.kin B.ceT B.ceR B.ceI (by decide +kernel) ?_)
  show wpAny _ _ (callWith pos (Value.builtin "ValueError.__init__") [] (backTo pos (starEach (e :: es) X.env)) []) _ _ _
  refine PyProof.Rows.callWith_method1 (thn (ha.run pos pins _ σ H _ (I.tok _) h) fun us s1 ⟨vs, H1, I1, r1, a, C, ws, ev, hl, T, ea, q⟩ => ?_) he hpl
  subst ev
  cases r1 with
  | @cons _ u0 _ ur ra rw' =>
    obtain rfl : u0 = Value.ref a := ra
    have hlen : ur.length ≤ sizeLine := by
      rw [← Paired.length rw', sizeLine_eq]
      omega
    exact oinit_ok T I1 ea hlen fun s' J => ⟨.non, H1, J, rfl, q⟩
end
/-- its __init__ -/
def spI (BN : Addr) : Sp := fun vs H Q _ => ∃ (a : Addr) (y : V), vs = [.ref a, y] ∧ H a = some (exo a BN none) ∧ ∀ dx, H dx = none → dx ≠ a → Q .non (upd (upd H dx (exd dx [("part", y)])) a (exo a BN (some dx)))
section
variable {P : Program} {w : World} {K : PySem.W.Frag} {mg : Str → Option Value} {base : Heap} {CE BN fI : Addr} {fd : FuncData}
theorem sc_init : FnScope ["self", "part"] ["self", "part"] (defScope initS) := ⟨rfl, rfl, rfl, by decide +kernel, rfl, by decide +kernel, by decide +kernel⟩
theorem fn_init (B : BNC K mg CE BN fI fd) : FnOk P w K mg base CX0 1 fI fd ["self", "part"] (spI BN) := by
  refine B.def_.ok sc_init (fun vs H Q E h => ?_) (fun cdv A outer s H vs Q E hr h => ?_)
  · obtain ⟨a, y, rfl, _⟩ := h
    rfl
  · obtain ⟨a, y, rfl, h1, h2⟩ := h
    refine ⟨_, PSs.nox (pss_cons (ps_expr (pe_ceinit (X := (cxOf CX0 P w K mg base ["self", "part"] "BadNumber.__init__" (defScope initS) fI cdv A outer s H E).nox) B rfl (pa_cons (pe_var (i := 0) rfl (Or.inl rfl)) (pa_cons pe_str pa_nil)))) (pss_one (ps_ost (pe_var (i := 0) rfl (Or.inl rfl)) (pe_var (i := 1) rfl (Or.inl rfl))))), ?_⟩
    refine ⟨.ref a, rfl, a, BN, _, rfl, by decide, B.oex, h1, ?_⟩
    refine ⟨y, rfl, .ref a, rfl, a, BN, rfl, B.oex, B.part, .inl ⟨h1, fun dx n ne => h2 dx n ne⟩⟩
end
end Cv

set_option Elab.async false
set_option linter.all false
set_option maxRecDepth 100000
set_option maxHeartbeats 2000000
/-! Defs that raise BadNumber. -/
namespace Cv
open PySem PySem.Spec PyProof.Rows L2
/-- the exception that is let out: BadNumber, its part p -/
def Out (BN : Addr) (p : Str) (H : Hp) (E : XK) : Prop := ∀ dd H', Same H H' → H' dd = some (.xd [("part", .str p)]) → E (.ref BN) (some dd) H'
def spR (K : PySem.W.Frag) (BN : Addr) (R : List PyData → Str → Prop) : Sp := fun vs H Q E => ∃ zs ds p, Alc zs H ∧ DpAll K (del zs H) vs ds ∧ R ds p ∧ Out BN p H E
structure CalR (P : Program) (w : World) (K : PySem.W.Frag) (mg : Str → Option Value) (base : Heap) (k : Nat) (x : Str) (BN : Addr) (R : List PyData → Str → Prop) : Prop where
  ex : ∃ (f : Addr) (fd : FuncData) (ps : List Str), FnOk P w K mg base (L2.CX P w) k f fd ps (spR K BN R) ∧ mg x = some (.ref f) ∧ PySem.W.keepIn K (.ref f) = true ∧ Binds K fd ps []
/-- a statement's reading: nothing but the exception -/
def tR (K : PySem.W.Frag) (m : Md) (g : List Sl) (BN : Addr) (p : Str) (E : XK) : TS := fun _ σ H => Okk K m g σ H ∧ ∀ H', Nxt m H H' → Out BN p H' E
section
variable {X : Cx} {m : Md} {g : List Sl} {BN CE fI : Addr} {fd : FuncData} {p : Str} {E : XK} {e c : Expr} {es : List Expr} {sa rest : List Stmt} {pos : Pos}
theorem upd2_same {H : Hp} {a dx : Addr} {u v : HO} (ha : H a = none) (hd : H dx = none) (ne : dx ≠ a) (r : HO) : Same H (upd (L2.del (upd (upd H dx u) a v) a) dx r) := fun b o e => by
  have n1 : b ≠ a := fun z => by rw [z, ha] at e; cases e
  have n2 : b ≠ dx := fun z => by rw [z, hd] at e; cases e
  rw [upd_ne n2, L2.del_ne n1, upd_ne n1, upd_ne n2]
  exact e
theorem r_raise {j : Nat} {x : Str} {pn p2 : Pos} (hx : x = "BadNumber") (B : BNC X.K X.mg CE BN fI fd) (hc : X.calm = true) (hr : Room j X.A) (hk : 2 ≤ j) (tk : Takes X (fun cls d _ H => E cls d H)) (hg : Gl X x) (he : PD X m g e (Is (.str p)))
    (hs : starEach (e :: []) X.env = (false, eval e X.env) :: starEach [] X.env := by rfl) (hpl : (backTo p2 (starEach [] X.env)).any (·.1) = false := by rfl) : PSs X [.Raise (some (.Call (.Name x pn) [e] [] p2)) none pos] (tR X.K m g BN p E) := by
  subst hx
  refine PSs.wk (pss_one (ps_raise hc tk (pmk_oex (dvs := []) (ds := []) B.oex B.ini B.tI (fn_init B) (hr.mono hk) (B.def_.bindsN (fun _ _ _ _ _ _ us hl => match us, hl with | [_, _], _ => rfl)) .nil pass0 hg B.mBN (pl_cons he pl_nil hs) (by decide) hs hpl))) fun D σ H ⟨o, q⟩ => ?_
  refine ⟨o, fun vs ds H1 n1 s1 q1 => ?_⟩
  cases s1
  obtain ⟨v, rfl, q2⟩ := dps1 q1
  cases dp_str q2
  refine ⟨by show 1 ≤ 1000; decide, fun a ha => ⟨a, .str p, rfl, upd_same, fun dx n ne => ⟨rfl, dx, _, upd_same, by rw [upd_ne ne]; exact upd_same, ?_, ?_⟩⟩⟩
  · rw [upd_ne ne] at n
    exact n
  · have n' : H1 dx = none := by rw [upd_ne ne] at n; exact n
    refine q H1 n1 dx _ (fun b o e => ?_) upd_same
    have n1 : b ≠ a := fun z => by rw [z, ha] at e; cases e
    have n2 : b ≠ dx := fun z => by rw [z, n'] at e; cases e
    rw [upd_ne n2, L2.del_ne n1, upd_ne n1, upd_ne n2, upd_ne n1]
    exact e
theorem r_if (hc : PB X m g c (Is true)) (ha : PSs X sa (tR X.K m g BN p E)) : PSs X (.If c sa [] pos :: rest) (tR X.K m g BN p E) :=
  PSs.wk (pss_cons (ps_if hc ha (pss_nil (X := X))) (PSs.imp (P := False) (t := tR X.K m g BN p E) fun z => z.elim)) fun D σ H ⟨o, q⟩ => ⟨o, fun b H' n s => by
    cases s
    exact iteT ⟨o.step n, fun H2 n2 => q H2 (n.trans n2)⟩⟩
/-- what holds on: a statement that goes on -/
theorem r_skip (hc : PB X m g c (Is false)) (hr : PSs X rest (tR X.K m g BN p E)) : PSs X (.If c sa [] pos :: rest) (tR X.K m g BN p E) :=
  PSs.wk (pss_cons (ps_if hc (PSs.imp (P := False) (t := tR X.K m g BN p E) (e := sa) fun z => z.elim) (pss_nil (X := X))) hr) fun D σ H ⟨o, q⟩ => ⟨o, fun b H' n s => by
    cases s
    exact iteF ⟨o.step n, fun H2 n2 => q H2 (n.trans n2)⟩⟩
theorem r_set (i : Nat) {n : Str} {pos' : Pos} {d : PyData} (h : PD X m g e (Is d)) (hr : PSs X rest (tR X.K m (g.set i (.d d)) BN p E)) (hN : X.N.Nodup) (hi : X.N[i]? = some n := by rfl) (hx : Loc X.env.scope n := by first | exact Or.inl rfl | exact Or.inr rfl)
    (hs : swapsWith e (some (.Name n pos')) pos.line X.env = pure false := by rfl) (hf : X.fn n = true ∨ X.env.scope.names.lookup n = some .local := by first | exact .inl rfl | exact .inr rfl) : PSs X (.Assign [.Name n pos'] e pos :: rest) (tR X.K m g BN p E) :=
  PSs.wk (pss_cons (ps_set hN hi hx h hs hf) hr) fun D σ H ⟨o, q⟩ => ⟨o, fun v d' H1 n1 s1 r1 => by
    cases s1
    exact ⟨(o.step n1).set i (slOk_d r1), fun H2 n2 => q H2 (n1.trans n2)⟩⟩
theorem r_expr (h : PD X m g e (fun _ => True)) (hr : PSs X rest (tR X.K m g BN p E)) (hs : swapsWith e none pos.line X.env = pure false := by rfl) : PSs X (.Expr e pos :: rest) (tR X.K m g BN p E) :=
  PSs.wk (pss_cons (ps_expr h hs) hr) fun D σ H ⟨o, q⟩ => ⟨o, fun v d' H1 n1 s1 r1 => ⟨o.step n1, fun H2 n2 => q H2 (n1.trans n2)⟩⟩
/-- a call that raises -/
theorem pe_rc {k j : Nat} {x : Str} {pn : Pos} {R : List PyData → Str → Prop} {ds : List PyData} (c : CalR X.prog X.w X.K X.mg X.base k x BN R) (hr : Room j X.A) (hk : k ≤ j) (tk : Takes X (fun cls d _ H => E cls d H)) (hg : Gl X x) (ha : PL X m g (e :: es) (Is ds)) (h : R ds p)
    (hdb : (x == ("__debug__" : Str)) = false := by decide) (he : starEach (e :: es) X.env = (false, eval e X.env) :: starEach es X.env := by rfl) (hpl : (backTo pos (starEach es X.env)).any (·.1) = false := by rfl) :
    PE X (.Call (.Name x pn) (e :: es) [] pos) (fun σ H Q => Okk X.K m g σ H ∧ ∀ H', Nxt m H H' → Out BN p H' E) := by
  obtain ⟨f, fd, ps, F, hm, kp, b⟩ := c.ex
  refine PE.wk (pe_callS (E := fun _ => E) F (hr.mono hk) hg hm kp b (fun σ => passAt tk σ) ha hdb he hpl) fun σ H Q ⟨o, q⟩ => ⟨o, fun vs ds1 H1 n1 s1 q1 => ?_⟩
  cases s1
  exact ⟨m.zs, ds, p, n1.al, q1, h, q H1 n1⟩
theorem r_callE {u : TE} (h : PE X e u) (hu : ∀ σ H Q, (Okk X.K m g σ H ∧ ∀ H', Nxt m H H' → Out BN p H' E) → u σ H Q) (hs : swapsWith e none pos.line X.env = pure false := by rfl) : PSs X (.Expr e pos :: rest) (tR X.K m g BN p E) :=
  PSs.wk (pss_cons (ps_expr h hs) (PSs.imp (P := False) (t := tR X.K m g BN p E) (e := rest) fun z => z.elim)) fun D σ H q => hu σ H _ q
theorem r_callS {u : TE} (i : Nat) {n : Str} {pos' : Pos} (h : PE X e u) (hu : ∀ σ H Q, (Okk X.K m g σ H ∧ ∀ H', Nxt m H H' → Out BN p H' E) → u σ H Q) (hN : X.N.Nodup) (hi : X.N[i]? = some n := by rfl) (hx : Loc X.env.scope n := by first | exact Or.inl rfl | exact Or.inr rfl)
    (hs : swapsWith e (some (.Name n pos')) pos.line X.env = pure false := by rfl) (hf : X.fn n = true ∨ X.env.scope.names.lookup n = some .local := by first | exact .inl rfl | exact .inr rfl) : PSs X (.Assign [.Name n pos'] e pos :: rest) (tR X.K m g BN p E) :=
  PSs.wk (pss_cons (ps_set hN hi hx h hs hf) (PSs.imp (P := False) (t := tR X.K m g BN p E) (e := rest) fun z => z.elim)) fun D σ H q => hu σ H _ q
end
section
variable {P : Program} {w : World} {K : PySem.W.Frag} {mg : Str → Option Value} {base : Heap}
theorem okR {x : Str} {i : Nat} {st : Nat → Stmt} {N ps : List Str} {k : Nat} {BN : Addr} {R : List PyData → Str → Prop} (F : Tx K mg i x st) (S : FnScope N ps (defScope (st i))) (hb : ∀ (kV doc pm : Value) (an : Option Addr) (cdv ct : Value) (us : List Value), us.length = ps.length → bindArgs (PySem.W.fnOf x x (defArgs (st i)) (defBody (st i)) (defScope (st i)) .none kV doc pm an cdv ct) ⟨us, []⟩ = pure (ps.zip us))
    (hR : ∀ ds d, R ds d → ds.length = ps.length)
    (body : ∀ (f : Addr) (cdv : Value) (A : Around) (outer : List Env) (s : Shared) (H : Hp) (E : XK) (m : Md) (ds : List PyData) (p : Str), Room k (A.deeper (envOfC x (defScope (st i)) s.heap.objs.size f cdv)) → R ds p →
      Takes (cxOf (L2.CX P w) P w K mg base N x (defScope (st i)) f cdv A outer s H E) (fun cls d _ H => E cls d H) →
      PSs (cxOf (L2.CX P w) P w K mg base N x (defScope (st i)) f cdv A outer s H E) (defBody (st i)) (tR K m (g0 N ds) BN p E)) : CalR P w K mg base (k + 1) x BN R := by
  obtain ⟨f, fd, F1, hm⟩ := F.ex
  refine ⟨f, fd, ps, ?_, hm, F1.kp, F1.bindsN hb⟩
  refine F1.ok S (fun vs H Q E h => ?_) (fun cdv A outer s H vs Q E hr h => ?_)
  · obtain ⟨zs, ds, d, _, h1, h2, _⟩ := h
    rw [dps_len h1, hR ds d h2]
  · obtain ⟨zs, ds, p, al, h1, h2, h3⟩ := h
    have hl := dps_len h1
    refine ⟨_, body f cdv A outer s H E (mdP zs H) ds p hr h2 (takes_of rfl rfl rfl rfl), ?_⟩
    have o : Okk K (mdP zs H) (g0 N ds) (L2.start N vs) H := ⟨al, fun _ _ _ e => e, by
      show RepS K (del zs H) (ds.map Sl.d ++ List.replicate (N.length - ds.length) .no) (vs.map some ++ List.replicate (N.length - vs.length) none)
      rw [hl]
      exact repS_start _ h1⟩
    exact ⟨o, fun H' n dd H2 s2 e => h3 dd H2 ((mdP_same n).trans s2) e⟩
end
end Cv

set_option Elab.async false
set_option linter.all false
set_option maxRecDepth 100000
set_option maxHeartbeats 4000000
namespace Cv
open PySem PySem.Spec PyProof.Rows L2


def RX_need_integer : List PyData → Str → Prop := fun ds p => ∃ (x : PyData) (lo hi : Option Int), ds = [x, .str p, optD lo, optD hi] ∧ wthn x lo hi = false
def RX_need_number : List PyData → Str → Prop := fun ds p => ∃ x : PyData, ds = [x, .str p] ∧ NumOk x ∧ isNumD x = false
def RX_need_reach : List PyData → Str → Prop := fun ds p => p = "reach" ∧ ((∃ x : PyData, ds = [x] ∧ NumOk x ∧ isNumD x = false) ∨ ∃ (q : Rat) (n : Nat), ds = [num q] ∧ Bd q n ∧ n ≤ 7000 ∧ q < 0)
/-- what cell_parts finds first -/
inductive RX_cell_parts : List PyData → Str → Prop where
  | first {a b c d : PyData} (h : wthn a (some 1) none = false) : RX_cell_parts [a, b, c, d] "first"
  | v {f : Int} {b c d : PyData} (h1 : 1 ≤ f) (h : wthn b (some 0) (some (f - 1)) = false) : RX_cell_parts [.int f, b, c, d] "v"
  | h {f v : Int} {c d : PyData} (h1 : 1 ≤ f) (h2 : 0 ≤ v) (h3 : v < f) (h : NumOk c ∧ isNumD c = false) : RX_cell_parts [.int f, .int v, c, d] "h"
  | reach {f v : Int} {x : Rat} {d : PyData} (h1 : 1 ≤ f) (h2 : 0 ≤ v) (h3 : v < f) (h : RX_need_reach [d] "reach") : RX_cell_parts [.int f, .int v, num x, d] "reach"

local macro_rules | `(tactic| walk_at "nb") => `(tactic| (first | exact Bd.up | exact nd_bd Bd.dn | assumption | (apply mul_bd <;> walk_at "nb") | (apply add_bd <;> walk_at "nb")))
local macro_rules | `(tactic| walk_at "cm") => `(tactic| (apply mulx_ok; (walk_at "nb"); (walk_at "nb"); omega))
local macro_rules | `(tactic| walk_at "sh") => `(tactic| (first | exact num_shaped _ | exact shp_int _ | exact shp_int2 _ _ | exact shp_none))
section
variable {P : Program} {w : World} {K : PySem.W.Frag} {mg : Str → Option Value} {base : Heap} {CE BN fI : Addr} {fd : FuncData}

theorem x_need_integer (T : Txt K mg) (B : BNC K mg CE BN fI fd) : CalR P w K mg base 3 "need_integer" BN RX_need_integer := by
  refine okR T.t_need_integer sc_need_integer (fun _ _ _ _ _ _ us hl => match us, hl with | [_, _, _, _], _ => rfl) (fun ds p h => ?_) (fun f cdv A outer s H E m ds p hr h tk => ?_)
  · obtain ⟨x, lo, hi, rfl, _⟩ := h
    rfl
  obtain ⟨x, lo, hi, rfl, h⟩ := h
  exact r_if (pb_is (pb_not (pb_val (pd_call (c_is_within T) hr (by decide) rfl (pl_cons (pd_var 0) (pl_cons (pd_var 2) (pl_cons (pd_var 3) pl_nil))) (by exact (⟨x, lo, hi, rfl, rfl⟩ : R_is_within _ _))))) (by rw [h]; rfl)) (r_raise rfl B rfl hr (by decide) tk rfl (pd_var 1))
theorem x_need_number (T : Txt K mg) (B : BNC K mg CE BN fI fd) : CalR P w K mg base 4 "need_number" BN RX_need_number := by
  refine okR T.t_need_number sc_need_number (fun _ _ _ _ _ _ us hl => match us, hl with | [_, _], _ => rfl) (fun ds p h => ?_) (fun f cdv A outer s H E m ds p hr h tk => ?_)
  · obtain ⟨x, rfl, _⟩ := h
    rfl
  obtain ⟨x, rfl, h1, h2⟩ := h
  exact r_if (pb_is (pb_not (pb_val (pd_call (c_is_number T) hr (by decide) rfl (pl_cons (pd_var 0) pl_nil) (by exact (⟨x, rfl, h1, rfl⟩ : R_is_number _ _))))) (by rw [h2]; rfl)) (r_raise rfl B rfl hr (by decide) tk rfl (pd_var 1))
theorem x_need_reach (T : Txt K mg) (B : BNC K mg CE BN fI fd) : CalR P w K mg base 5 "need_reach" BN RX_need_reach := by
  refine okR T.t_need_reach sc_need_reach (fun _ _ _ _ _ _ us hl => match us, hl with | [_], _ => rfl) (fun ds p h => ?_) (fun f cdv A outer s H E m ds p hr h tk => ?_)
  · obtain ⟨_, ⟨x, rfl, _⟩ | ⟨q, n, rfl, _⟩⟩ := h <;> rfl
  obtain ⟨rfl, ⟨x, rfl, h1, h2⟩ | ⟨q, n, rfl, bq, hn, hq⟩⟩ := h
  · exact r_callS 1 (pe_rc (x_need_number T B) hr (by decide) tk rfl (pl_cons (pd_var 0) (pl_cons pd_str pl_nil)) ⟨x, rfl, h1, h2⟩) (fun _ _ _ z => z) sc_need_reach.nd
  · refine r_set 1 (pd_call (c_need_number T) hr (by decide) rfl (pl_cons (pd_var 0) (pl_cons pd_str pl_nil)) (by exact rel_need_number)) ?_ sc_need_reach.nd
    exact r_if (pb_is (pb_val (pd_call (c_below T) hr (by decide) rfl (pl_cons (pd_var 1) (pl_cons pd_int pl_nil)) (by exact (rel_below (by omega))))) (decide_eq_true hq)) (r_raise rfl B rfl hr (by decide) tk rfl pd_str)
theorem x_cell_parts (T : Txt K mg) (B : BNC K mg CE BN fI fd) : CalR P w K mg base 6 "cell_parts" BN RX_cell_parts := by
  refine okR T.t_cell_parts sc_cell_parts (fun _ _ _ _ _ _ us hl => match us, hl with | [_, _, _, _], _ => rfl) (fun ds p h => ?_) (fun f cdv A outer s H E m ds p hr h tk => ?_)
  · cases h <;> rfl
  cases h with
  | first h => exact r_callE (pe_rc (x_need_integer T B) hr (by decide) tk rfl (pl_cons (pd_var 0) (pl_cons pd_str (pl_cons pd_int (pl_cons pd_non pl_nil)))) ⟨_, some 1, none, rfl, h⟩) (fun _ _ _ z => z)
  | v h1 h =>
    refine r_expr (pd_le (pd_call (c_need_integer T) hr (by decide) rfl (pl_cons (pd_var 0) (pl_cons pd_str (pl_cons pd_int (pl_cons pd_non pl_nil)))) (by exact (⟨.int _, _, some 1, none, rfl, by simp [wthn]; omega, rfl⟩ : R_need_integer _ _))) (fun _ _ => trivial)) ?_
    exact r_callE (pe_rc (x_need_integer T B) hr (by decide) tk rfl (pl_cons (pd_var 1) (pl_cons pd_str (pl_cons pd_int (pl_cons (pd_sub (pd_var 0) pd_int) pl_nil)))) ⟨_, some 0, some _, rfl, h⟩) (fun _ _ _ z => z)
  | @h f1 v1 _ _ h1 h2 h3 h =>
    refine r_expr (pd_le (pd_call (c_need_integer T) hr (by decide) rfl (pl_cons (pd_var 0) (pl_cons pd_str (pl_cons pd_int (pl_cons pd_non pl_nil)))) (by exact (⟨.int _, _, some 1, none, rfl, by simp [wthn]; omega, rfl⟩ : R_need_integer _ _))) (fun _ _ => trivial)) ?_
    refine r_expr (pd_le (pd_call (c_need_integer T) hr (by decide) rfl (pl_cons (pd_var 1) (pl_cons pd_str (pl_cons pd_int (pl_cons (pd_sub (pd_var 0) pd_int) pl_nil)))) (by exact (⟨.int v1, _, some 0, some (f1 - 1), rfl, by simp [wthn]; omega, rfl⟩ : R_need_integer _ _))) (fun _ _ => trivial)) ?_
    exact r_callS 4 (pe_rc (x_need_number T B) hr (by decide) tk rfl (pl_cons (pd_var 2) (pl_cons pd_str pl_nil)) ⟨_, rfl, h.1, h.2⟩) (fun _ _ _ z => z) sc_cell_parts.nd
  | @reach f1 v1 _ _ h1 h2 h3 h =>
    refine r_expr (pd_le (pd_call (c_need_integer T) hr (by decide) rfl (pl_cons (pd_var 0) (pl_cons pd_str (pl_cons pd_int (pl_cons pd_non pl_nil)))) (by exact (⟨.int _, _, some 1, none, rfl, by simp [wthn]; omega, rfl⟩ : R_need_integer _ _))) (fun _ _ => trivial)) ?_
    refine r_expr (pd_le (pd_call (c_need_integer T) hr (by decide) rfl (pl_cons (pd_var 1) (pl_cons pd_str (pl_cons pd_int (pl_cons (pd_sub (pd_var 0) pd_int) pl_nil)))) (by exact (⟨.int v1, _, some 0, some (f1 - 1), rfl, by simp [wthn]; omega, rfl⟩ : R_need_integer _ _))) (fun _ _ => trivial)) ?_
    refine r_set 4 (pd_call (c_need_number T) hr (by decide) rfl (pl_cons (pd_var 2) (pl_cons pd_str pl_nil)) (by exact rel_need_number)) ?_ sc_cell_parts.nd
    exact r_callS 5 (pe_rc (x_need_reach T B) hr (by decide) tk rfl (pl_cons (pd_var 3) pl_nil) h) (fun _ _ _ z => z) sc_cell_parts.nd
end
end Cv

set_option Elab.async false
set_option linter.all false
set_option maxRecDepth 100000
set_option maxHeartbeats 4000000
/-! A caught exception that a local keeps behind the suite. -/
namespace Cv
open PySem PySem.Spec PyProof.Rows L2
/-- what the clause 'except x as n' wishes, where all that follows knows the exception -/
def wKeep (K : PySem.W.Frag) (c : Value) (i : Nat) (ts : Addr → Value → Option Addr → TS) (tr : Addr → Value → Option Addr → TS) (D : Ends) : WX := fun cls d σ H =>
  PySem.W.exmOne K cls c = some true ∧ ∀ a, H a = none → ts a cls d { nx := fun σ' H' => tr a cls d D (σ'.set i none) H', rt := fun _ _ => False, bk := fun _ _ => False, ct := fun _ _ => False } (σ.set i (some (.ref a))) H
section
variable {X : Cx} {x n : Str} {c : Value} {i : Nat} {body suite rest : List Stmt} {b₀ : Stmt} {np pos pos' : Pos} {tb : WX → TS} {ts tr : Addr → Value → Option Addr → TS}
theorem pss_try_keep (hs : X.stack = X.env :: X.outer) (hf : X.env.frame = some X.env.locals) (hN : X.N.Nodup) (hi : X.N[i]? = some n) (hln : X.env.kindOf n = some .local) (hc : Names X x c)
    (hb : ∀ (W : WX) (pn : List (Addr × Obj)) (xe : Value → Shared → Prop), Takes (X.tr pn xe) W → PassesOwn (model X.prog X.w) X.A X.env xe → PSs (X.tr pn xe) body (tb W))
    (hsu : ∀ (a : Addr) (oe : Obj) (cls : Value) (d : Option Addr) (pn : List (Addr × Obj)), Zc cls d oe → (∃ vs, oe.data = .fields vs) → PSs (X.suite a ((a, oe) :: pn)) (b₀ :: suite) (ts a cls d))
    (hre : ∀ (a : Addr) (oe : Obj) (cls : Value) (d : Option Addr) (pn : List (Addr × Obj)), Zc cls d oe → (∃ vs, oe.data = .fields vs) → PSs (X.tr ((a, oe) :: pn) X.xe) rest (tr a cls d)) :
    PSs X (.Try body [.ExceptHandler (some (.Name x np)) (some n) (b₀ :: suite) pos'] [] [] pos :: rest) (fun D σ H => tb (wKeep X.K c i ts tr D) { nx := fun _ _ => False, rt := fun _ _ => False, bk := fun _ _ => False, ct := fun _ _ => False } σ H) := by
  refine ⟨fun pins s σ H D I h => ?_⟩
  have ok := I.ok
  have hfr : X.A.frames = some (X.env :: X.outer) := by rw [ok.frames, hs]
  have hloc : Loc X.env.scope n := .inl hln
  refine wpAny_execs_cons (wpAny_Try_except ?_)
  refine wpAny_mono ((hb (wKeep X.K c i ts tr D) (X.pn ++ pins) (fun e s₁ => wpAny (model X.prog X.w) X.A (noteFrame e X.env) (fun _ s₂ => wpAny (model X.prog X.w) X.A (setFlight e none) (fun _ s₃ =>
    wpAny (model X.prog X.w) X.A (handleBy e X.env [.ExceptHandler (some (.Name x np)) (some n) (b₀ :: suite) pos']) (fun f s₄ => match f with | .next => wpAny (model X.prog X.w) X.A (execs rest X.env) (SP X pins D) X.xe s₄ | f => SP X pins D f s₄) X.xe s₃) X.xe s₂) X.xe s₁) (fun u s' xx => ?_) PassesOwn.looking).run [] s σ H _ (I.toTry _) h) (fun f s1 hsp => ?_) (fun e s1 he => he)
  · obtain ⟨a, B, sI, pins', σ', H', cls, d, rfl, J', nb, up, sky, na, os, ag, hb1, hyes⟩ := xx
    have J : Inv X pins σ' H' sI := J'.ofTry ok
    have sky' : Sky B (X.env :: X.outer) a (Zc cls d) X.env.locals s'.heap := by rw [← hs]; exact sky
    show wpAny (model X.prog X.w) X.A (noteFrame (.ref a) X.env) _ _ _
    refine Sky.land Zc.steady hfr hf sky' fun h3 fl3 up3 => ?_
    have J3 : Inv X pins σ' H' { s' with heap := h3 } := J.landed nb fl3.1 (up.trans up3) os ag
    obtain ⟨oe3, vs3, he3, hz3, hd3⟩ := fl3.there
    have notFr : ∀ {h : Heap} {o : Obj} {vs : Array Value}, h.FunFrames B (X.env :: X.outer) → h.get? a = some o → o.data = .fields vs → a ∉ frs (X.env :: X.outer) := fun {h o vs} ff e dd hm => by
      obtain ⟨_, o', e', hnf⟩ := ff.mem hm
      rw [e] at e'; cases e'
      exact hnf _ dd
    have nfr := notFr fl3.2.2.1 he3 hd3
    have nL : a ≠ X.env.locals := fun z => nfr (List.mem_filterMap.mpr ⟨X.env, List.mem_cons_self, by rw [hf, z]⟩)
    have nF : a ∉ X.fs := fun hm => by
      obtain ⟨e, he, q⟩ := List.mem_filterMap.mp hm
      exact nfr (List.mem_filterMap.mpr ⟨e, List.mem_cons_of_mem _ he, q⟩)
    have S3 := J3.suite he3 hd3 na nL nF
    refine wpAny_handleBy_cons (codeAny_handlers_test ?_) (by intro q; cases q)
    have LT : PySem.W.Looks (model X.prog X.w) h3 (typeOf (.ref a)) cls := fun A Q E s k q => wpAny_typeOf_ref (k _ _ he3) (by rw [hz3.1]; exact q)
    have LM := PySem.W.exm_one (M := model X.prog X.w) (J3.kIn) LT hb1
    have test : ∀ {Q : Value → Shared → Prop} {E : Value → Shared → Prop}, Q c { s' with heap := h3 } → wpAny (model X.prog X.w) (X.A.mark (some (.ref a))) (eval (.Name x np) X.env) Q E { s' with heap := h3 } := fun {Q E} q => by
      obtain ⟨hg, hdbg, hm | ⟨hm, hv, hnn⟩⟩ := hc
      · exact ld_glob (X := X.suite a ((a, oe3) :: (X.pn ++ pins))) S3 hg hm q hdbg
      · exact ld_blt (X := X.suite a ((a, oe3) :: (X.pn ++ pins))) S3 hg hm hv q hnn hdbg
    refine test (LM.here ?_)
    refine codeAny_handlers_suite_as ?_
    refine HandSPX.lands_againZ fl3 fun h4 fl4 up4 => ?_
    have J4 : Inv X pins σ' H' { s' with heap := h4 } := J.landed nb fl4.1 ((up.trans up3).trans up4) os ag
    obtain ⟨oe4, vs4, he4, hz4, hd4⟩ := fl4.there
    have S4 := J4.suite he4 hd4 na nL nF
    refine store_ok (X := X.suite a ((a, oe4) :: (X.pn ++ pins))) (v := .ref a) S4 hN hi hloc rfl (fun s5 S5 => ?_) (.inr hln)
    refine wpAny_mono ((hsu a oe4 cls d (X.pn ++ pins) hz4 ⟨_, hd4⟩).run [] s5 _ H' _ S5 (hyes a na)) (fun f s6 hsp => ?_) (fun _ _ z => False.elim z)
    cases f with
    | next =>
      obtain ⟨σ6, H6, S6, q6⟩ := hsp
      have U6 : Inv (X.tr ((a, oe4) :: (X.pn ++ pins)) X.xe) [] σ6 H6 s6 := ⟨ok.toTry _ _, S6.os, S6.bare, S6.base, S6.loc, S6.cell, S6.free, S6.freeC, S6.pin, S6.hok, S6.len⟩
      refine gone_ok (X := X.tr ((a, oe4) :: (X.pn ++ pins)) X.xe) U6 hN hi hln fun s7 U7 => ?_
      have back : ∀ {pn' : List (Addr × Obj)} {σ8 : L2.St} {H8 : Hp} {s8 : Shared}, Inv (X.tr ((a, oe4) :: (X.pn ++ pins)) X.xe) pn' σ8 H8 s8 → Inv X pins σ8 H8 s8 := fun {pn' σ8 H8 s8} U => ⟨ok, U.os, U.bare, U.base, U.loc, U.cell, U.free, U.freeC, fun p hp => U.pin p (List.mem_append_left _ (List.mem_cons_of_mem _ hp)), U.hok, U.len⟩
      refine wpAny_mono ((hre a oe4 cls d (X.pn ++ pins) hz4 ⟨_, hd4⟩).run [] s7 _ H6 D U7 q6) (fun f s8 h8 => ?_) (fun _ _ z => z)
      cases f with
      | next =>
        obtain ⟨σ8, H8, U8, q8⟩ := h8
        exact ⟨σ8, H8, back U8, q8⟩
      | brk =>
        obtain ⟨σ8, H8, U8, q8⟩ := h8
        exact ⟨σ8, H8, back U8, q8⟩
      | cont =>
        obtain ⟨σ8, H8, U8, q8⟩ := h8
        exact ⟨σ8, H8, back U8, q8⟩
      | ret u =>
        obtain ⟨v8, σ8, H8, U8, r8, q8⟩ := h8
        exact ⟨v8, σ8, H8, back U8, r8, q8⟩
    | brk =>
      obtain ⟨σ6, H6, S6, q6⟩ := hsp
      exact q6.elim
    | cont =>
      obtain ⟨σ6, H6, S6, q6⟩ := hsp
      exact q6.elim
    | ret u =>
      obtain ⟨v6, σ6, H6, S6, r6, q6⟩ := hsp
      exact q6.elim
  · cases f with
    | next =>
      obtain ⟨σ', H', J', q⟩ := hsp
      exact q.elim
    | brk =>
      obtain ⟨σ', H', J', q⟩ := hsp
      exact q.elim
    | cont =>
      obtain ⟨σ', H', J', q⟩ := hsp
      exact q.elim
    | ret u =>
      obtain ⟨v, σ', H', J', r, q⟩ := hsp
      exact q.elim
end
/-! ### what is asked of it -/
/-- the exception at a, known to the context -/
structure Kept (X : Cx) (BN a dd : Addr) : Prop where
  ex : ∃ oe : Obj, (a, oe) ∈ X.pn ∧ Zc (.ref BN) (some dd) oe ∧ ∃ vs, oe.data = .fields vs
section
variable {X : Cx} {BN CE fI a dd : Addr} {fd : FuncData} {p : Str}
theorem kept_at {pins : List (Addr × Obj)} {σ : L2.St} {H : Hp} {s : Shared} (k : Kept X BN a dd) (I : Inv X pins σ H s) {fs : List (Str × V)} (e : H dd = some (.xd fs)) :
    ∃ (oe od : Obj), PySem.W.InstAt s.heap a oe BN (some od) ∧ ∀ n v, fs.lookup n = some v → ∃ u, PySem.W.lookIn n od = some (some u) ∧ RelV v u := by
  obtain ⟨oe, hm, hz, vs, hd⟩ := k.ex
  obtain ⟨ha, _⟩ := I.pin (a, oe) (List.mem_append_left _ hm)
  have hx : ObjOk X.prog X.w H s.heap dd (.xd fs) := I.hok dd _ e
  obtain ⟨mA, hns, hr⟩ := hx
  obtain ⟨od, ho, hl⟩ := lookIn_ns hns
  refine ⟨oe, od, ⟨ha, hz.1, by unfold PySem.W.notCls; rw [hd] <;> rfl, by rw [hz.2]; exact ho⟩, fun n v h => ?_⟩
  obtain ⟨u, hu, ru⟩ := RelO.some_of (v := v) (o := mA n) (by rw [← h]; exact hr n)
  exact ⟨u, by rw [hl, hu], ru⟩
def rIsP (dd a BN : Addr) : List V → Hp → VK → Prop := fun xs H Q => xs = [.ref a, .ref BN] ∧ (∃ fs, H dd = some (.xd fs)) ∧ Q (.bl true) H
theorem call_isP (B : BNC X.K X.mg CE BN fI fd) (k : Kept X BN a dd) : CallR X (.builtin "isinstance") (rIsP dd a BN) := by
  intro pins s σ H xs us Q I r h
  obtain ⟨rfl, ⟨fs, e⟩, q⟩ := h
  cases r with
  | cons rx rr =>
    cases rr with
    | cons rt rr =>
      cases rr
      cases rx
      cases rt
      obtain ⟨oe, od, J, _⟩ := kept_at k I e
      have C := B.xc
      exact PySem.W.kia_one (PySem.W.kitx_exc (by obtain ⟨cd, hc, _⟩ := PySem.W.any_some C.hd; rw [hc]; rfl) C.hg C.hk C.hs C.ha C.hn C.ht C.hm) I.kIn J B.kit (fun z => nomatch z) fun tk => ⟨.bl true, H, I.kept (t' := tk) fun _ _ z => z, rfl, q⟩
variable {m : Md} {g : List Sl} {pos : Pos}
/-- isinstance(n, BadNumber) -/
theorem pd_isP (i : Nat) {n : Str} {p1 p2 p3 : Pos} (B : BNC X.K X.mg CE BN fI fd) (k : Kept X BN a dd) (hw : ∀ H, m.W H → ∃ fs, H dd = some (.xd fs)) (hg : Gl X "isinstance") (hm : X.mg "isinstance" = none) (hgb : Gl X "BadNumber") (hgi : g[i]? = some (.v (.ref a)) := by rfl) (hN : X.N[i]? = some n := by rfl)
    (hv : Vis X.env.scope n := by first | exact Or.inl rfl | exact Or.inr (Or.inl rfl) | exact Or.inr (Or.inr rfl)) (hd : (n == ("__debug__" : Str)) = false := by decide) (hcd : (n == ("__classdict__" : Str)) = false := by decide)
    (he : starEach [.Name n p2, .Name "BadNumber" p3] X.env = (false, eval (.Name n p2) X.env) :: starEach [.Name "BadNumber" p3] X.env := by rfl) (he2 : starEach [.Name "BadNumber" p3] X.env = (false, eval (.Name "BadNumber" p3) X.env) :: starEach [] X.env := by rfl) (hpl : (backTo pos (starEach [.Name "BadNumber" p3] X.env)).any (·.1) = false := by rfl) : PD X m g (.Call (.Name "isinstance" p1) [.Name n p2, .Name "BadNumber" p3] [] pos) (Is (.bool true)) :=
  PE.wk (pe_callB (call_isP B k) hg hm (by decide +kernel) (pa_cons (pe_var hN hv hd hcd) (pa_cons (pe_glob (v := .ref BN) hgb B.mBN rfl) pa_nil he2) he) (he := he) (hpl := hpl)) fun σ H Q ⟨o, kk⟩ => by
    obtain ⟨ov, h1, h2⟩ := repS_get o.rp hgi
    have h2' : ov = some (.ref a) := h2
    subst h2'
    exact ⟨_, h1, rfl, hw H o.w, kk _ _ _ o.rfl' rfl (.bl _)⟩
/-- n.part -/
theorem pd_part (i : Nat) {n : Str} {p2 : Pos} (B : BNC X.K X.mg CE BN fI fd) (k : Kept X BN a dd) (hw : ∀ H, m.W H → H dd = some (.xd [("part", .str p)])) (hgi : g[i]? = some (.v (.ref a)) := by rfl) (hN : X.N[i]? = some n := by rfl)
    (hv : Vis X.env.scope n := by first | exact Or.inl rfl | exact Or.inr (Or.inl rfl) | exact Or.inr (Or.inr rfl)) (hd : (n == ("__debug__" : Str)) = false := by decide) (hcd : (n == ("__classdict__" : Str)) = false := by decide)
    (hb : attributeBase (.Name n p2) "part" X.env (eval (.Name n p2) X.env) = eval (.Name n p2) X.env := by rfl) : PD X m g (.Attribute (.Name n p2) "part" pos) (Is (.str p)) := by
  refine ⟨fun pins s σ H Q I ⟨o, kk⟩ => ?_⟩
  obtain ⟨ov, h1, h2⟩ := repS_get o.rp hgi
  have h2' : ov = some (.ref a) := h2
  subst h2'
  refine attr_of hb (thn ((pe_var hN hv hd hcd).run pins s σ H (fun v H1 => v = .ref a ∧ H1 = H) I ⟨.ref a, h1, rfl, rfl⟩) fun u s1 hh => ?_)
  obtain ⟨v, H1, I1, rx, rfl, rfl⟩ := hh
  cases rx
  obtain ⟨oe, od, J, hl⟩ := kept_at k I1 (hw _ o.w)
  obtain ⟨u, hu, ru⟩ := hl "part" (.str p) rfl
  exact HandSPX.exc_get I1.kIn J B.xf.ga B.xf.gg B.xf.exC (PySem.W.findObj_own B.xf.hdC B.part rfl hu) (handed_of ru) ⟨.str p, _, I1.tok _, ru, kk _ _ _ o.rfl' rfl (.str _)⟩
end
end Cv

set_option Elab.async false
set_option linter.all false
set_option maxRecDepth 100000
set_option maxHeartbeats 4000000
/-! _law_heard. -/
namespace Cv
open PySem PySem.Spec PyProof.Rows L2
theorem takes_len {X : Cx} {W : WX} (t : Takes X W) : Takes X (fun cls d σ H => σ.length = X.N.length → W cls d σ H) := fun u s' ⟨a, B, sI, pins, σ, H, cls, d, e, I, nb, up, sky, na, os, ag, w⟩ =>
  t u s' ⟨a, B, sI, pins, σ, H, cls, d, e, I, nb, up, sky, na, os, ag, w I.len⟩
section
variable {X : Cx} {m : Md} {g gw : List Sl} {R : PyData → Prop} {N : List Sl → Prop} {iter tg a : Expr} {body rest : List Stmt} {pos : Pos}
/-- over a list whose first item's turn gives the answer -/
theorem ss_forL1 {x0 : PyData} {xs : List PyData} (t : TgK) (hc : X.calm = true) (hi : PD X m g iter (Is (.list (x0 :: xs)))) (hk : t.ok x0) (h0 : Less g gw) (hg : PG X tg (t.g X.K))
    (hb : PQ X m (t.set gw x0) body R Nof) (hp : PassesOwn (model X.prog X.w) X.A X.env X.xe) (hs : ∀ x, foldedSetIterable iter X.env x = pure x := by intro _; rfl) : PQ X m g (.For tg iter body [] pos :: rest) R N := by
  refine PSs.wk (pss_cons (ps_for hp hc (pi_list hi) hg hb hs) (PSs.imp (P := False) (t := tX X.K m gw R N) (e := rest) fun z => z.elim)) fun E σ H ⟨o, k1, k2⟩ => ⟨o, fun v d H1 n1 s1 q1 => ?_⟩
  cases s1
  obtain ⟨a, vs, rfl, h1, h2⟩ := dp_lst q1
  have hl := dps_len h2
  refine ⟨a, rfl, ⟨vs, sqL_mono (del_same _ _) h1⟩, ?_⟩
  refine for_list (K := X.K) (a := a) (xs := vs) (g := t.g X.K) (tb := tX X.K m (t.set gw x0) R Nof) (D := { nx := fun _ _ => False ∧ _, rt := E.rt, bk := E.bk, ct := E.ct }) (σ := σ) (H := H1)
    (fun k σ' H' => k = 0 ∧ Nxt m H1 H' ∧ Okk X.K m gw σ' H') ⟨rfl, (o.step n1).rfl', okk_less (o.step n1) h0⟩ (fun i σ' H' _ ⟨_, n, _⟩ => sqL_mono (del_same _ _) (sqL_mono n.kp h1)) (fun k v σ' H' hv ⟨hk0, n, ok⟩ => ?_) fun σ' H' ⟨z, _⟩ => ?_
  · subst hk0
    obtain ⟨x, hx, qx⟩ := dps_get2 (n.dps h2) hv
    cases hx
    exact tgk_run (K := X.K) (ow := t.ix) (tgk_own t) hk qx fun σ2 _ hg2 => ⟨⟨ok.al, ok.w, hg2 _ ok.rp⟩, fun v' d' H2 n2 => k1 v' d' H2 ((n1.trans n).trans n2), fun g' σ3 H2 n2 z2 o2 => z2.elim⟩
  · rw [hl] at z
    cases z
end
/-- what _law_heard makes of a call that raises BadNumber(p) -/
def TTh (K : PySem.W.Frag) (BN : Addr) (p : Str) : (XK → Hp → VK → Prop) → Hp → VK → Prop := fun tl H Q => ∃ zs : List Addr,
  tl (fun cls d H' => cls = .ref BN ∧ ∃ dd, d = some dd ∧ Alc zs H' ∧ H' dd = some (.xd [("part", .str p)]) ∧ ∀ v H'', Same H' H'' → Dp K (del zs H'') v (.tuple [.str "BadNumber", .str p]) → Q v H'') H (fun _ _ => False)
def mX (zs : List Addr) (H0 : Hp) (dd : Addr) (p : Str) : Md := ⟨zs, fun H => (mdP zs H0).W H ∧ H dd = some (.xd [("part", .str p)]), fun _ _ s e => ⟨(mdP zs H0).mono _ _ s e.1, s _ _ e.2⟩⟩
abbrev gX (a : Addr) : List Sl := [.no, .v (.ref a), .no, .no, .no, .no]
theorem repS_X {K : PySem.W.Frag} {H : Hp} {a : Addr} {σ : L2.St} (hl : σ.length = 6) : RepS K H (gX a) (((σ.set 2 (some (.ref a))).set 1 (some (.ref a))).set 2 none) := by
  match σ, hl with
  | [_, _, _, _, _, _], _ => exact ⟨trivial, rfl, trivial, trivial, trivial, trivial, trivial⟩
theorem sc__law_heard : FnScope ["_law_ask", "_law_caught", "error", "_law_told", "_law_name", "_law_is_so"] ["_law_ask"] (defScope (top 74)) := ⟨rfl, rfl, rfl, by decide +kernel, rfl, by decide +kernel, by decide +kernel⟩
theorem heard_gives {X : Cx} {CE BN fI g : Addr} {fd : FuncData} {cdg : Value} {p q : Str} (T : Txt X.K X.mg) (B : BNC X.K X.mg CE BN fI fd) :
    LamX.GivesTo X ["_law_ask", "_law_caught", "error", "_law_told", "_law_name", "_law_is_so"] "_law_heard" (defScope (top 74)) g cdg (defBody (top 74)) "_law_ask" q (TTh X.K BN p) := by
  intro f c' s H Q tl act hc h
  obtain ⟨zs, h⟩ := h
  refine ⟨_, pss_cons (ps_set (i := 1) sc__law_heard.nd rfl (Or.inl rfl) pe_non) (pss_try_keep (X := (cxOf C8.CX0 X.prog X.w X.K X.mg X.base ["_law_ask", "_law_caught", "error", "_law_told", "_law_name", "_law_is_so"] "_law_heard" (defScope (top 74)) g cdg X.A X.stack s H C8.E0).nox) (c := .ref CE) (i := 2)
    (tb := fun W D σ H => ∃ Ech : XK, (∀ cls d σ' H', Ech cls d H' → (σ'.length = 6 → W cls d σ' H')) ∧ σ[0]? = some (some (.ref f)) ∧ H c' = some (LamX.CodeO c' q) ∧ tl Ech H (fun _ H1 => D.nx σ H1))
    (tr := fun a cls d D σ H => cls = .ref BN ∧ ∃ dd, d = some dd ∧ ∃ H0, tX X.K (mX zs H0 dd p) (gX a) (Is (.tuple [.str "BadNumber", .str p])) Nof D σ H)
    rfl rfl sc__law_heard.nd rfl rfl ⟨rfl, by decide, .inl B.mCE⟩ (fun W pn xe tk _ => ?_) (fun a oe cls d pn hz hf => pss_one (ps_set (i := 1) sc__law_heard.nd rfl (Or.inl rfl) (pe_var (i := 2) rfl (Or.inl rfl)))) (fun a oe cls d pn hz hf => ?_)), ?_⟩
  · refine ⟨fun pins s' σ H' D I h' => ?_⟩
    obtain ⟨Ech, hW, h1, h2, h3⟩ := h'
    exact (pss_one (ps_expr (act _ pn xe Ech _ _ (takes_len tk) hW))).run pins s' σ H' D I ⟨h1, h2, h3⟩
  · refine PSs.imp fun e => ?_
    subst e
    refine PSs.ex fun dd => PSs.imp fun e => ?_
    subst e
    refine PSs.ex fun H0 => ?_
    have k : Kept ((cxOf C8.CX0 X.prog X.w X.K X.mg X.base ["_law_ask", "_law_caught", "error", "_law_told", "_law_name", "_law_is_so"] "_law_heard" (defScope (top 74)) g cdg X.A X.stack s H C8.E0).nox.tr ((a, oe) :: pn) (cxOf C8.CX0 X.prog X.w X.K X.mg X.base ["_law_ask", "_law_caught", "error", "_law_told", "_law_name", "_law_is_so"] "_law_heard" (defScope (top 74)) g cdg X.A X.stack s H C8.E0).nox.xe) BN a dd := ⟨oe, List.mem_cons_self, hz, hf⟩
    refine ss_set1 3 (d := .list [.tuple [.str "BadNumber", .bool true]]) (pd_lst (pl_cons (pd_tup (pl_cons pd_str (pl_cons (pd_isP 1 B k (fun H e => ⟨_, e.2⟩) rfl T.f_isinstance rfl) pl_nil))) pl_nil)) ?_ sc__law_heard.nd
    exact ss_forL1 (gw := [.no, .v (.ref a), .no, .no, .no, .no]) (.tup [4, 5]) rfl (pd_var 3) ⟨_, rfl, rfl⟩ (less_of_fgt (.same (.same (.same (.no (fgt_refl _)))))) (pg_tup rfl (pgs_cons (pg_name sc__law_heard.nd rfl (Or.inl rfl)) (pgs_cons (pg_name sc__law_heard.nd rfl (Or.inl rfl)) pgs_nil)))
      (ss_ifR (x := true) (pb_val (pd_var 5)) (fun _ => ss_ret (pd_tup (pl_cons (pd_var 4) (pl_cons (pd_part 1 B k (fun H e => e.2)) pl_nil))) (fun _ z => z)) (fun z => by cases z)) PassesOwn.never
  · refine ⟨_, fun cls d σ' H' z hl => ?_, rfl, hc, h⟩
    obtain ⟨rfl, dd, rfl, al, e, hq⟩ := z
    refine ⟨B.exm, fun a ha => ⟨.ref a, ?_, rfl, dd, rfl, H', ⟨al, ⟨fun _ _ _ e => e, e⟩, repS_X hl⟩, fun v d' H2 n2 s2 q2 => ?_, fun _ _ _ _ z => z.elim⟩⟩
    · match σ', hl with
      | [_, _, _, _, _, _], _ => rfl
    · cases s2
      exact hq v H2 (mdP_same (zs := zs) ⟨n2.kp, n2.al, n2.w.1⟩) q2
end Cv

set_option Elab.async false
set_option linter.all false
set_option maxRecDepth 100000
set_option maxHeartbeats 4000000
/-! A comprehension over range(a, b) whose elements turn the hoist. -/
namespace Cv
open PySem PySem.Spec PyProof.Rows L2
section
variable {K : PySem.W.Frag} {mo : Md} {p D : Addr} {c : Nat} {H H1 : Hp} {acc : List V}
theorem del_two (a b : Addr) (zs : List Addr) (H : Hp) : del (a :: b :: zs) H = del (b :: a :: zs) H := by
  funext x
  unfold del
  simp only [List.mem_cons]
  by_cases h1 : x = a <;> by_cases h2 : x = b <;> simp [h1, h2]
theorem lh_in (h : Hst K mo p c H1) (hD : H1 D = none) : Hst K (mo.lst D []) p c (upd H1 D (.lst [])) ∧ del (p :: D :: mo.zs) (upd H1 D (.lst [])) = del (p :: mo.zs) H1 := by
  have np : p ≠ D := fun z => by
    obtain ⟨o, e⟩ := h.al p List.mem_cons_self
    rw [z, hD] at e
    cases e
  have e1 : del (p :: D :: mo.zs) (upd H1 D (.lst [])) = del (p :: mo.zs) H1 := by
    rw [del_two]
    exact del_new hD
  refine ⟨⟨fun z hz => ?_, ⟨?_, ?_⟩, ?_⟩, e1⟩
  · have hz' : z = p ∨ z = D ∨ z ∈ mo.zs := by
      have hz2 : z ∈ p :: D :: mo.zs := hz
      simpa using hz2
    by_cases e : z = D
    · exact ⟨_, by rw [e, upd_same]⟩
    · obtain ⟨o, eo⟩ := h.al z (by rcases hz' with r | r | r; · rw [r]; exact List.mem_cons_self
                                   · exact absurd r e
                                   · exact List.mem_cons_of_mem _ r)
      exact ⟨o, by rw [upd_ne e]; exact eo⟩
  · have e2 : del [D] (del [p] (upd H1 D (.lst []))) = del [p] H1 := by
      funext x
      unfold del
      by_cases h1 : x = D
      · subst h1
        simp [hD]
      · simp [h1, upd_ne h1]
    show mo.W (del [D] (del [p] (upd H1 D (.lst []))))
    rw [e2]
    exact h.w.1
  · rw [del_out (show D ∉ [p] from fun z => np (List.mem_singleton.mp z).symm), upd_same]
  · obtain ⟨l, a, b, xs, e, q, r⟩ := h.w.2
    exact ⟨l, a, b, xs, by rw [upd_ne np]; exact e, by show Dp K (del (p :: D :: mo.zs) (upd H1 D (.lst []))) _ _; rw [e1]; exact q, r⟩
theorem lh_acc (h : Hst K (mo.lst D acc) p c H) : H D = some (.lst acc) ∧ D ≠ p := by
  obtain ⟨h1, h2⟩ := del_some h.w.1.2
  exact ⟨h2, fun z => h1 (by rw [z]; exact List.mem_cons_self)⟩
theorem lh_put {acc2 : List V} (h : Hst K (mo.lst D acc) p c H) : Hst K (mo.lst D acc2) p c (upd H D (.lst acc2)) ∧ del (p :: D :: mo.zs) (upd H D (.lst acc2)) = del (p :: D :: mo.zs) H := by
  obtain ⟨hA, np⟩ := lh_acc h
  have e1 : del (p :: D :: mo.zs) (upd H D (.lst acc2)) = del (p :: D :: mo.zs) H := del_upd (List.mem_cons_of_mem _ List.mem_cons_self)
  refine ⟨⟨fun z hz => ?_, ⟨?_, ?_⟩, ?_⟩, e1⟩
  · by_cases e : z = D
    · exact ⟨_, by rw [e, upd_same]⟩
    · obtain ⟨o, eo⟩ := h.al z hz
      exact ⟨o, by rw [upd_ne e]; exact eo⟩
  · have e2 : del [D] (del [p] (upd H D (.lst acc2))) = del [D] (del [p] H) := by
      funext x
      unfold del
      by_cases h1 : x = D
      · simp [h1]
      · simp [h1, upd_ne h1]
    show mo.W (del [D] (del [p] (upd H D (.lst acc2))))
    rw [e2]
    exact h.w.1.1
  · rw [del_out (show D ∉ [p] from fun z => np (List.mem_singleton.mp z)), upd_same]
  · obtain ⟨l, a, b, xs, e, q, r⟩ := h.w.2
    exact ⟨l, a, b, xs, by rw [upd_ne np.symm]; exact e, by show Dp K (del (p :: D :: mo.zs) (upd H D (.lst acc2))) _ _; rw [e1]; exact q, r⟩
theorem lh_out (h : Hst K (mo.lst D acc) p c H) : Hst K mo p c H := by
  refine ⟨fun z hz => h.al z ?_, mo.mono _ _ (del_same _ _) h.w.1.1, ?_⟩
  · rcases List.mem_cons.mp hz with r | r
    · rw [r]; exact List.mem_cons_self
    · exact List.mem_cons_of_mem _ (List.mem_cons_of_mem _ r)
  · obtain ⟨l, a, b, xs, e, q, r⟩ := h.w.2
    refine ⟨l, a, b, xs, e, dp_mono ?_ _ _ q, r⟩
    show Same (del (p :: D :: mo.zs) H) (del (p :: mo.zs) H)
    rw [del_two]
    exact del_cons_same _ _ _
end
section
variable {X : Cx} {mo : Md} {p : Addr} {g : List Sl} {S : PyData → Prop} {a b elt : Expr} {scope : Scope} {pos : Pos}
theorem h_lcR {lo : Int} {n k1 : Nat} (j : Nat) {y : Str} {py pr p2 : Pos} (hc : X.calm = true) (hN : X.N.Nodup) (ha : ∀ c, PD X (mo.ho X.K p c) g a (Is (.int lo))) (hb : ∀ c, PD X (mo.ho X.K p c) g b (Is (.int (lo + n)))) (h0 : 0 ≤ lo) (h1 : lo ≤ 1000) (h2 : n ≤ 1000)
    (hgR : Gl X "range") (hm : X.mg "range" = none) (ok : BlkOk X.N X.env.scope scope [(y, j)]) (hg : ∀ (s : Shared) (H : Hp) (C : Addr) (cl : List (Str × Addr)) (fp : List Addr), PG (X.blk s H scope (compEnvC scope cl C X.env) fp) (.Name y py) (gName j))
    (he : ∀ (s : Shared) (H : Hp) (C : Addr) (cl : List (Str × Addr)) (fp : List Addr) (i : Nat) (D : Addr) (acc : List V), i < n → D ≠ p → PE (X.blk s H scope (compEnvC scope cl C X.env) fp) elt (tH X.K (mo.lst D acc) p ((wipeG g [j]).set j (.d (.int (lo + (i : Nat))))) k1 S))
    (na : starEach [a, b] X.env = [(false, eval a X.env), (false, eval b X.env)] := by rfl) (nb : starEach [b] X.env = [(false, eval b X.env)] := by rfl) (hs : ∀ x, foldedSetIterable (.Call (.Name "range" pr) [a, b] [] p2) X.env x = pure x := by intro _; rfl) :
    PE X (.ListComp elt [⟨.Name y py, .Call (.Name "range" pr) [a, b] [] p2, [], 0⟩] scope pos) (tH X.K mo p g (n * k1) fun d => ∃ ds : List PyData, d = .list ds ∧ ds.length = n ∧ ∀ x ∈ ds, S x) := by
  have hE : ∀ (s : Shared) (H : Hp) (C : Addr) (cl : List (Str × Addr)) (fp : List Addr), PE (X.blk s H scope (compEnvC scope cl C X.env) fp) elt (fun σ H Q => ∃ (i : Nat) (D : Addr) (acc : List V), (i < n ∧ D ≠ p) ∧ tH X.K (mo.lst D acc) p ((wipeG g [j]).set j (.d (.int (lo + (i : Nat))))) k1 S σ H Q) :=
    fun s H C cl fp => ⟨fun pins s1 σ H1 Q I ⟨i, D, acc, hi, q⟩ => (he s H C cl fp i D acc hi.1 hi.2).run pins s1 σ H1 Q I q⟩
  have rg : PA X [a, b] (tHA X.K mo p g (0 + (0 + 0)) fun l => ∃ d ds, l = d :: ds ∧ Is (PyData.int lo) d ∧ ∃ d2 ds2, ds = d2 :: ds2 ∧ Is (PyData.int (lo + n)) d2 ∧ Is [] ds2) := ha_cons (h_pure ha) (ha_cons (h_pure hb) ha_nil (by rw [nb]; rfl)) (by rw [na, nb])
  refine PE.wk (pe_lc hc hN (pi_range2 hgR hm rg na nb) ok hg (fun _ _ _ _ _ => pts_nil) hE hs) fun σ H Q ⟨c, hk, o, kk⟩ => ?_
  refine ⟨c, by omega, o, fun vs ds H1 n1 s1 z1 r1 => ?_⟩
  obtain ⟨d1, l1, rfl, e1, d2, l2, rfl, e2, e3⟩ := z1
  cases e1
  cases e2
  cases e3
  obtain ⟨u, v, rfl, q1, q2⟩ := dps2 r1
  cases dp_int q1
  cases dp_int q2
  refine ⟨lo, lo + n, rfl, ⟨by omega, by omega, by omega, by omega⟩, fun D hD => ?_⟩
  have en : (lo + (n : Int) - lo).toNat = n := by omega
  rw [en]
  obtain ⟨i1, i2⟩ := lh_in (D := D) s1 hD
  have r0 := repS_wipe (K := X.K) (H := del (p :: mo.zs) H1) (g := g) (σ := σ) (repS_mono n1 o.rp) [j]
  have hDz : D ∉ p :: mo.zs := s1.al.ne hD
  refine lc_range (lo := lo) (n := n) (g := gName j) (tt := tYes) (te := fun σ H Q => ∃ (i : Nat) (D : Addr) (acc : List V), (i < n ∧ D ≠ p) ∧ tH X.K (mo.lst D acc) p ((wipeG g [j]).set j (.d (.int (lo + (i : Nat))))) k1 S σ H Q) (vs := [j]) (σ := σ) (Qd := fun H => Q (.ref D) H) (fun i H' => ∃ acc rs, Hst X.K (mo.lst D acc) p (c + i * k1) H' ∧ Kp (p :: D :: mo.zs) (upd H1 D (.lst [])) H' ∧ DpAll X.K (del (p :: D :: mo.zs) H') acc rs ∧ rs.length = i ∧ ∀ x ∈ rs, S x) ⟨[], [], by simpa using i1, Same.refl _, .nil, rfl, fun x hx => by simp at hx⟩ (fun i H' hi ⟨acc, rs, hst, kp, qa, hl, hS⟩ => ?_) (fun H' ⟨acc, rs, hst, kp, qa, hl, hS⟩ => ?_)
  · refine ⟨(wipe_set (List.mem_singleton.mpr rfl)).trans (wipe_wipe [j] [j] fun _ z => z), ?_⟩
    dsimp only [tYes]
    rw [if_pos (rfl : true = true)]
    have hik : i * k1 + k1 ≤ n * k1 := by
      have : (i + 1) * k1 ≤ n * k1 := Nat.mul_le_mul_right _ hi
      rw [Nat.succ_mul] at this
      exact this
    refine ⟨i, D, acc, ⟨hi, (lh_acc hst).2⟩, c + i * k1, by omega, ⟨hst.al, hst.w, repS_set (slOk_d (.int _)) j (repS_mono kp (by rw [i2]; exact r0))⟩, fun v y H4 k4 s4 z4 q4 => ?_⟩
    obtain ⟨a4, n4⟩ := lh_acc s4
    obtain ⟨p1, p2⟩ := lh_put (acc2 := acc ++ [v]) s4
    refine ⟨acc, a4, ?_, acc ++ [v], rs ++ [y], ?_, ?_, ?_, ?_, ?_⟩
    · rw [dps_len qa, hl]
      have h4 : (1000 : Nat) < sizeLine := by decide
      omega
    · rw [Nat.succ_mul, ← Nat.add_assoc]
      exact p1
    · show Same _ _
      rw [p2]
      exact kp.trans k4
    · rw [p2]
      exact dps_app (dps_mono k4 _ _ qa) (.cons q4 .nil)
    · rw [List.length_append, hl]
      rfl
    · intro x hx
      rcases List.mem_append.mp hx with hx | hx
      · exact hS x hx
      · rw [List.mem_singleton.mp hx]
        exact z4
  · obtain ⟨a4, n4⟩ := lh_acc hst
    refine kk (.ref D) (.list rs) H' (n1.trans ?_) (lh_out hst) ⟨rs, rfl, hl, hS⟩ (.lst (SqL.of (by rw [del_out hDz]; exact a4)) (dps_mono ?_ _ _ qa))
    · intro b ob e
      obtain ⟨h3, h4⟩ := del_some e
      have hbD : b ≠ D := fun z => by rw [z, hD] at h4; cases h4
      rw [del_out h3]
      refine (del_some (kp b ob ?_)).2
      rw [i2]
      exact e
    · rw [del_two]
      exact del_cons_same _ _ _
end
end Cv

set_option Elab.async false
set_option linter.all false
set_option maxRecDepth 100000
set_option maxHeartbeats 4000000
/-! The law's own reading. -/
namespace Cv
open PySem PySem.Spec PyProof.Rows L2
open LamX (ExtN Tabs TabS CodeO)
theorem rd_ext {H H' : Hp} {a : Addr} {u : HO} (s : ExtN H H') (n : ∀ ps, u ≠ .tbl ps) (h : Rd H a u) : Rd H' a u := h.elim (fun e => .inl (s _ _ e n)) fun ⟨o, e⟩ => .inr ⟨o, s _ _ e (fun ps z => by cases z)⟩
mutual
theorem dp_ext {K : PySem.W.Frag} {H H' : Hp} (s : ExtN H H') : ∀ (d : PyData) (v : V), Dp K H v d → Dp K H' v d
  | .none, _, h => by cases h; exact .non
  | .bool b, _, h => by cases h; exact .bl b
  | .int i, _, h => by cases h; exact .int i
  | .str x, _, h => by cases h; exact .str x
  | .list ds, _, h => by
    cases h with
    | lst hs ha => exact .lst (hs.elim (fun e => .inl (rd_ext s (fun ps z => by cases z) e)) .inr) (dps_ext s ds _ ha)
  | .tuple ds, _, h => by
    cases h with
    | tup hs ha => exact .tup (hs.elim (fun e => .inl (rd_ext s (fun ps z => by cases z) e)) .inr) (dps_ext s ds _ ha)
  | .dict _, _, h => by cases h
theorem dps_ext {K : PySem.W.Frag} {H H' : Hp} (s : ExtN H H') : ∀ (ds : List PyData) (vs : List V), DpAll K H vs ds → DpAll K H' vs ds
  | [], _, h => by cases h; exact .nil
  | d :: ds, _, h => by
    cases h with
    | cons h1 h2 => exact .cons (dp_ext s d _ h1) (dps_ext s ds _ h2)
end
theorem slOk_ext {K : PySem.W.Frag} {H H' : Hp} (s : ExtN H H') : ∀ {x : Sl} {o : Option V}, SlOk K H x o → SlOk K H' x o
  | .no, _, _ => trivial
  | .v _, _, h => h
  | .d d, _, ⟨v, e, h⟩ => ⟨v, e, dp_ext s d v h⟩
theorem repS_ext {K : PySem.W.Frag} {H H' : Hp} (s : ExtN H H') : ∀ {g : List Sl} {σ : L2.St}, RepS K H g σ → RepS K H' g σ
  | [], [], _ => trivial
  | _ :: _, _ :: _, ⟨h1, h2⟩ => ⟨slOk_ext s h1, repS_ext s h2⟩
  | [], _ :: _, h => h.elim
  | _ :: _, [], h => h.elim
theorem ext_del {zs : List Addr} {H H' : Hp} (s : ExtN H H') : ExtN (del zs H) (del zs H') := fun b o e n => by
  obtain ⟨h1, h2⟩ := del_some e
  rw [del_out h1]
  exact s b o h2 n
/-- the law's ground: the tables -/
def mLaw (T : List (Addr × Str)) : Md := ⟨[], Tabs T, fun _ _ s t => t.ext s⟩
theorem tabs_del {T : List (Addr × Str)} {H : Hp} {p : Addr} {xs : List V} (t : Tabs T H) (e : H p = some (.lst xs)) : Tabs T (del [p] H) := fun q hq => by
  obtain ⟨ps, h1, h2, h3⟩ := t q hq
  have out : ∀ {b : Addr} {o : HO}, H b = some o → o ≠ .lst xs → del [p] H b = some o := fun {b o} eb n => by
    rw [del_out (fun z => n (by rw [List.mem_singleton.mp z, e] at eb; exact (Option.some.inj eb).symm))]
    exact eb
  refine ⟨ps, out h1 (fun z => by cases z), h2, fun pos cv hc => ?_⟩
  obtain ⟨c, e1, e2⟩ := h3 pos cv hc
  exact ⟨c, e1, out e2 (fun z => by unfold LamX.CodeO at z; cases z)⟩
theorem okk_ext {K : PySem.W.Frag} {T : List (Addr × Str)} {p : Addr} {c : Nat} {g : List Sl} {σ : L2.St} {H H' : Hp} (o : Okk K ((mLaw T).ho K p c) g σ H) (s : ExtN H H') (t : Tabs T H') : Okk K ((mLaw T).ho K p c) g σ H' := by
  obtain ⟨l, a, b, xs, e, q, r⟩ := o.w.2
  have e' : H' p = some (.lst [.ref l, .int a, .int b]) := s _ _ e (fun ps z => by cases z)
  refine ⟨fun z hz => ?_, ⟨tabs_del t e', l, a, b, xs, e', dp_ext (ext_del s) _ _ q, r⟩, repS_ext (ext_del s) o.rp⟩
  have hz2 : z ∈ [p] := hz
  rw [List.mem_singleton.mp hz2]
  exact ⟨_, e'⟩
theorem tabs_in {K : PySem.W.Frag} {T : List (Addr × Str)} {p : Addr} {c : Nat} {g : List Sl} {σ : L2.St} {H : Hp} (o : Okk K ((mLaw T).ho K p c) g σ H) : Tabs T H := Tabs.ext o.w.1 (del_same _ _)
/-- what is wanted of the law's statements: in the end True; nothing of the heap is told -/
def tW (K : PySem.W.Frag) (mo : Md) (p : Addr) (k : Nat) (g : List Sl) (N : List Sl → Prop) : TS := fun D σ H => ∃ c, c + k ≤ CM ∧ Okk K (mo.ho K p c) g σ H ∧ (∀ H', D.rt (.bl true) H') ∧ ∀ g' σ' H' c', N g' → c' ≤ c + k → Okk K (mo.ho K p c') g' σ' H' → D.nx σ' H'
section
variable {X : Cx} {mo : Md} {p : Addr} {g gw : List Sl} {k k1 k2 kb kr : Nat} {S : PyData → Prop} {N : List Sl → Prop} {e a tg : Expr} {rest sa body : List Stmt} {pos : Pos}
theorem w_le {k' : Nat} (h : PSs X rest (tW X.K mo p k' g N)) (hk : k' ≤ k) : PSs X rest (tW X.K mo p k g N) := PSs.wk h fun D σ H ⟨c, hc, o, q1, q2⟩ => ⟨c, by omega, o, q1, fun g' σ' H' c' n hc' o2 => q2 g' σ' H' c' n (by omega) o2⟩
theorem w_set (i : Nat) {n : Str} {pos' : Pos} (h : PE X e (tH X.K mo p g k1 S)) (hr : ∀ d, S d → PSs X rest (tW X.K mo p k2 (g.set i (.d d)) N)) (hN : X.N.Nodup) (hi : X.N[i]? = some n := by rfl) (hx : Loc X.env.scope n := by first | exact Or.inl rfl | exact Or.inr rfl)
    (hs : swapsWith e (some (.Name n pos')) pos.line X.env = pure false := by rfl) (hf : X.fn n = true ∨ X.env.scope.names.lookup n = some .local := by first | exact .inl rfl | exact .inr rfl) : PSs X (.Assign [.Name n pos'] e pos :: rest) (tW X.K mo p (k1 + k2) g N) :=
  PSs.wk (pss_cons (ps_set hN hi hx h hs hf) (PSs.ex fun d => PSs.imp (hr d))) fun D σ H ⟨c, hc, o, q1, q2⟩ => ⟨c, by omega, o, fun v d H1 n1 s1 z1 r1 => ⟨d, z1, c + k1, by omega, (okk_h o n1 s1).set i (slOk_d r1), q1, fun g' σ' H2 c' n2 hc' o2 => q2 g' σ' H2 c' n2 (by omega) o2⟩⟩
theorem w_asg (GG : PyData → List Sl) (h : PE X e (tH X.K mo p g k1 S)) (ht : ∀ c d, S d → PGd X (mo.ho X.K p c) g tg d (GG d)) (hr : ∀ d, S d → PSs X rest (tW X.K mo p k2 (GG d) N)) (hs : swapsWithSole [tg] e pos.line X.env = pure false := by rfl) (hw : swappedStores [tg] e X.env = pure none := by rfl)
    (h1 : (assignEach [tg] X.env).map (·.2) = [assign tg X.env] := by rfl) : PSs X (.Assign [tg] e pos :: rest) (tW X.K mo p (k1 + k2) g N) :=
  PSs.wk (pss_cons (ps_asg h (PG.ex (t := fun cd : Nat × PyData => fun v σ H Q => S cd.2 ∧ gI X.K (mo.ho X.K p cd.1) g (Is cd.2) (Is (GG cd.2)) v σ H Q) fun cd => ⟨fun pins s σ H v u Q I r ⟨z, q⟩ => (ht cd.1 cd.2 z).run pins s σ H v u Q I r q⟩) hs hw h1) (PSs.ex fun d => PSs.imp (hr d))) fun D σ H ⟨c, hc, o, q1, q2⟩ => ⟨c, by omega, o, fun v d H1 n1 s1 z1 r1 =>
    ⟨(c + k1, d), z1, okk_h o n1 s1, ⟨d, rfl, r1⟩, fun g2 σ2 H2 n2 s2 o2 => by
      cases s2
      exact ⟨d, z1, c + k1, by omega, o2, q1, fun g' σ' H3 c' n3 hc' o3 => q2 g' σ' H3 c' n3 (by omega) o3⟩⟩⟩
theorem w_forR {n : Nat} {pr : Pos} (j : Nat) {y : Str} {py pos3 : Pos} (hc : X.calm = true) (ha : ∀ c, PD X (mo.ho X.K p c) g a (Is (.int n))) (hn : n ≤ 1000) (h0 : Less g gw) (hgR : Gl X "range") (hm : X.mg "range" = none)
    (hb : ∀ k : Nat, k < n → PSs X body (tW X.K mo p kb (gw.set j (.d (.int (k : Nat)))) (fun g' => Less g' gw))) (hr : PSs X rest (tW X.K mo p kr gw N)) (hp : PassesOwn (model X.prog X.w) X.A X.env X.xe)
    (hN : X.N.Nodup) (hi : X.N[j]? = some y := by rfl) (hx : Loc X.env.scope y := by first | exact Or.inl rfl | exact Or.inr rfl) (hf : X.fn y = true ∨ X.env.scope.names.lookup y = some .local := by first | exact .inl rfl | exact .inr rfl)
    (na : starEach [a] X.env = [(false, eval a X.env)] := by rfl) (hs : ∀ x, foldedSetIterable (.Call (.Name "range" pr) [a] [] pos) X.env x = pure x := by intro _; rfl) : PSs X (.For (.Name y py) (.Call (.Name "range" pr) [a] [] pos) body [] pos3 :: rest) (tW X.K mo p (n * kb + kr) g N) := by
  have hB : PSs X body (fun E σ H => ∃ (k : Nat), k < n ∧ tW X.K mo p kb (gw.set j (.d (.int (k : Nat)))) (fun g' => Less g' gw) E σ H) := PSs.ex fun k => PSs.imp (hb k)
  have rg : PA X [a] (tHA X.K mo p g (0 + 0) fun l => ∃ d ds, l = d :: ds ∧ Is (PyData.int n) d ∧ Is [] ds) := ha_cons (h_pure ha) ha_nil na
  refine PSs.wk (pss_cons (ps_for hp hc (pi_range1 hgR hm rg na) (pg_name hN hi hx hf) hB hs) hr) fun E σ H ⟨c, hk, o, k1, k2⟩ => ⟨c, by omega, o, fun v d H1 n1 s1 z1 q1 => ?_⟩
  obtain ⟨d1, l1, rfl, e1, e2⟩ := z1
  cases e1
  cases e2
  obtain ⟨u, rfl, q2⟩ := dps1 q1
  cases dp_int q2
  refine ⟨(n : Int), rfl, by omega, by omega, ?_⟩
  have key := for_range (lo := 0) (n := n) (g := gName j) (tb := fun E σ H => ∃ (k : Nat), k < n ∧ tW X.K mo p kb (gw.set j (.d (.int (k : Nat)))) (fun g' => Less g' gw) E σ H) (D := { nx := tW X.K mo p kr gw N E, rt := E.rt, bk := E.bk, ct := E.ct }) (σ := σ) (H := H1)
    (fun k σ' H' => ∃ c', c' ≤ c + k * kb ∧ Okk X.K (mo.ho X.K p c') gw σ' H') ⟨c, by omega, okk_less (okk_h o n1 s1) h0⟩ (fun k σ' H' hkn ⟨c', hc', ok⟩ => ?_) fun σ' H' ⟨c', hc', ok⟩ => ?_
  · simpa using key
  · have hik : k * kb + kb ≤ n * kb := by
      have : (k + 1) * kb ≤ n * kb := Nat.mul_le_mul_right _ hkn
      rw [Nat.succ_mul] at this
      exact this
    refine ⟨k, hkn, c', by omega, ok.set j ⟨_, rfl, ?_⟩, k1, fun g' σ3 H2 c2 s2 hc2 o2 => ⟨c2, by rw [Nat.succ_mul]; omega, okk_less o2 s2⟩⟩
    have e : (0 : Int) + (k : Int) = k := by omega
    rw [e]
    exact .int _
  · exact ⟨c', by omega, ok, k1, fun g' σ3 H2 c2 n2 hc2 o2 => k2 g' σ3 H2 c2 n2 (by omega) o2⟩
/-- if not e: return .., e true -/
theorem w_ifNot {pn : Pos} (h : PE X e (tH X.K mo p g k1 (Is (.bool true)))) (hr : PSs X rest (tW X.K mo p k2 g N)) (he : ∀ whole, isTrue e X.env whole = (do let v ← whole; standAt e.pos; holding [v] (truthy v)) := by intro _; rfl) : PSs X (.If (.UnaryOp .Not e pn) sa [] pos :: rest) (tW X.K mo p (k1 + k2) g N) :=
  PSs.wk (pss_cons (ps_if (pt_not (pt_val h he)) (PSs.imp (P := False) (t := tW X.K mo p k2 g N) (e := sa) fun z => z.elim) (pss_nil (X := X))) hr) fun D σ H ⟨c, hc, o, q1, q2⟩ => ⟨c, by omega, o, fun v d H1 n1 s1 z1 r1 => by
    cases z1
    cases dp_bool r1
    exact ⟨true, rfl, iteF ⟨c + k1, by omega, okk_h o n1 s1, q1, fun g' σ' H2 c' n2 hc' o2 => q2 g' σ' H2 c' n2 (by omega) o2⟩⟩⟩
theorem w_retT {j : Nat} {p2 : Pos} : PSs X [.Return (some (.Constant (.bool true) j p2)) pos] (tW X.K mo p k g N) := PSs.wk (pss_one (ps_ret pe_bl)) fun D σ H ⟨c, hc, o, q1, q2⟩ => q1 H
theorem w_nil (h : N g) : PSs X [] (tW X.K mo p k g N) := PSs.wk pss_nil fun D σ H ⟨c, hc, o, q1, q2⟩ => q2 g σ H c h (by omega) o
end
end Cv

set_option Elab.async false
set_option linter.all false
set_option maxRecDepth 100000
set_option maxHeartbeats 4000000
/-! The law's call of _law_heard; the def called where nothing is under way. -/
namespace Cv
open PySem PySem.Spec PyProof.Rows L2
open LamX (ExtN Tabs TabS CodeO)
section
variable {X : Cx} {mo : Md} {p : Addr} {g : List Sl} {k : Nat} {S : PyData → Prop} {SS : List PyData → Prop} {es : List Expr} {pos : Pos}
theorem h_callG {RR : List PyData → (PyData → Prop) → Prop} {kk kd j : Nat} {f x : Str} {pp pos1 : Pos} (i : Nat) (c : CalG X.prog X.w X.K X.mg X.base kd f (spH X.K kk RR)) (hgd : X.A.guards = some []) (hr : Room j X.A) (hk : kd ≤ j) (hg : Gl X f) (hp : p ∉ mo.zs) (ha : PA X es (tHA X.K mo p g k SS)) (h : ∀ ds, SS ds → RR ds S) (hgp : g[i]? = some (.v (.ref p)) := by rfl) (hN : X.N[i]? = some x := by rfl)
    (hv : Vis X.env.scope x := by first | exact Or.inl rfl | exact Or.inr (Or.inl rfl) | exact Or.inr (Or.inr rfl)) (hd : (x == ("__debug__" : Str)) = false := by decide) (hcd : (x == ("__classdict__" : Str)) = false := by decide)
    (hdb : (f == ("__debug__" : Str)) = false := by decide) (he : starEach (.Name x pos1 :: es) X.env = (false, eval (.Name x pos1) X.env) :: starEach es X.env := by rfl) (hpl : (backTo pos (starEach es X.env)).any (·.1) = false := by rfl) : PE X (.Call (.Name f pp) (.Name x pos1 :: es) [] pos) (tH X.K mo p g (k + kk) S) :=
  PE.wk (pe_cG c hgd hr hk hg (pa_cons (pe_var hN hv hd hcd) ha he) hdb he hpl) fun σ H Q ⟨c, hc, o, kq⟩ => by
    obtain ⟨ov, h1, h2⟩ := repS_get o.rp hgp
    have h2' : ov = some (.ref p) := h2
    subst h2'
    refine ⟨_, h1, c, by omega, o, fun vs ds H1 n1 s1 z1 q1 => ?_⟩
    show spH X.K kk RR (_ :: vs ++ []) H1 _ _
    rw [List.append_nil]
    exact ⟨mo.zs, p, vs, ds, c + k, S, rfl, hp, s1.al, q1, s1.w.2, by omega, h ds z1, fun v d H' n2 hz al hw s q => kq v d H' (n1.trans n2) ⟨al, mo.mono _ _ (same_ho n2 hz) s1.w.1, by rw [← Nat.add_assoc]; exact hw⟩ s q⟩
end
section
variable {X : Cx} {T : List (Addr × Str)} {p : Addr} {g : List Sl} {k : Nat} {N : List Sl → Prop} {CE BN fI : Addr} {fd : FuncData} {rest sa : List Stmt} {b : Expr} {pos pc : Pos}
/-- if _law_heard(lambda: ..) != ('BadNumber', ..): .. where the lambda raises it -/
theorem bn_shaped {q : Str} (hq : PyData.strOk q = true) : SeqAt.shaped (.tuple [.str "BadNumber", .str q]) = true := shp (by simp only [PyData.canLay0, PyData.canLayAll0, hq, Bool.and_true]; decide +kernel) (by simp [PyData.depth, PyData.depthAll])
theorem bn_eqv (q : Str) : PyData.eqv (.tuple [.str "BadNumber", .str q]) (.tuple [.str "BadNumber", .str q]) = true := by simp [PyData.eqv, PyData.eqvAll]
theorem w_heard {q : Str} {f : Expr} (hq : PyData.strOk q = true) (hu : X.A.units + 64 < cLine) (h : PE X f (LamX.tLam T (TTh X.K BN q) fun E σ H Q => ∃ c, Okk X.K ((mLaw T).ho X.K p c) g σ H ∧ ∀ H', Nxt ((mLaw T).ho X.K p c) H H' → Out BN q H' E))
    (hb : ∀ c, PD X ((mLaw T).ho X.K p c) g b (Is (.tuple [.str "BadNumber", .str q]))) (hr : PSs X rest (tW X.K (mLaw T) p k g N)) : PSs X (.If (.Compare f [.NotEq] [b] pc) sa [] pos :: rest) (tW X.K (mLaw T) p k g N) := by
  have hb' : PE X b (fun σ H Q => ∃ c, tI X.K ((mLaw T).ho X.K p c) g (Is (.tuple [.str "BadNumber", .str q])) σ H Q) := PE.ex hb
  refine PSs.wk (pss_cons (ps_if (pt_cmpR (op_neD hu) h hb' (nomark _)) (PSs.imp (P := False) (t := tW X.K (mLaw T) p k g N) (e := sa) fun z => z.elim) (pss_nil (X := X))) hr) fun D σ H ⟨c, hc, o, q1, q2⟩ => ?_
  refine ⟨tabs_in o, fun H1 eN t1 => ?_⟩
  have o1 := okk_ext o eN t1
  refine ⟨[p], c, o1, fun H2 n2 dd H3 s3 e3 => ?_⟩
  have o3 := (o1.step n2).step ((o1.step n2).same s3)
  refine ⟨rfl, dd, rfl, o3.al, e3, fun v H4 s4 q4 => ?_⟩
  have o4 := o3.step (o3.same s4)
  refine ⟨c, o4, fun w d H5 n5 s5 q5 => ?_⟩
  cases s5
  have q4' : Dp X.K (del [p] H5) v (.tuple [.str "BadNumber", .str q]) := n5.dp q4
  refine ⟨_, _, dp_mono (del_same _ _) _ _ q4', dp_mono (del_same _ _) _ _ q5, bn_shaped hq, bn_shaped hq, ?_⟩
  rw [bn_eqv]
  exact ⟨false, rfl, iteF ⟨c, hc, o4.step n5, q1, q2⟩⟩
end
end Cv

set_option Elab.async false
set_option linter.all false
set_option maxRecDepth 100000
set_option maxHeartbeats 4000000
namespace Cv
open PySem PySem.Spec PyProof.Rows L2
open LamX (ExtN Tabs TabS CodeO TabB)


def spLaw (K : PySem.W.Frag) (P : Addr) : Sp := fun vs H Q _ => ∃ (a : Addr) (ns : List Int), vs = [.ref a] ∧ Tabs [(P, "law.<locals>.<lambda>")] H ∧ SqL K H a (ns.map V.int) ∧ (∃ B : Nat, B ≤ 2000000 ∧ ∀ x ∈ ns, x.natAbs < 2 ^ B) ∧ ∀ H', Q (.bl true) H'
theorem dps_ints {K : PySem.W.Frag} {H : Hp} : ∀ ns : List Int, DpAll K H (ns.map V.int) (ns.map PyData.int)
  | [] => .nil
  | n :: ns => .cons (.int n) (dps_ints ns)
def BS0 : PyData → Prop := fun d => wthn d (some 1) none = false
def BS1 (f : Int) : PyData → Prop := fun d => wthn d (some 0) (some (f - 1)) = false
theorem bs1_f (f : Int) : BS1 f (.int f) := by unfold BS1; simp [wthn]; omega
theorem bs1_m {f : Int} (h : 1 ≤ f) : BS1 f (.int (-1)) := by unfold BS1; simp [wthn]
def BS2 : PyData → Prop := fun d => NumOk d ∧ isNumD d = false
def BS3 : PyData → Prop := fun d => RX_need_reach [d] "reach"
theorem bs3_n {d : PyData} (h : NumOk d ∧ isNumD d = false) : BS3 d := ⟨rfl, .inl ⟨d, rfl, h.1, h.2⟩⟩
theorem bs3_i : BS3 (.int (-1)) := ⟨rfl, .inr ⟨-1, 1, by rw [← isNumM1.eq], bdM1, by decide, by decide +kernel⟩⟩
theorem bs3_q : BS3 (.tuple [.int (-1), .int 3]) := ⟨rfl, .inr ⟨-1/3, 2, by rw [← is13.eq], ⟨by decide +kernel, by decide +kernel⟩, by decide, by decide +kernel⟩⟩

local macro_rules | `(tactic| walk_at "nb") => `(tactic| (first | exact Bd.up | exact nd_bd Bd.dn | assumption | (apply mul_bd <;> walk_at "nb") | (apply add_bd <;> walk_at "nb")))
local macro_rules | `(tactic| walk_at "cm") => `(tactic| (apply mulx_ok; (walk_at "nb"); (walk_at "nb"); omega))
local macro_rules | `(tactic| walk_at "sh") => `(tactic| (first | exact num_shaped _ | exact shp_int _ | exact shp_int2 _ _ | exact shp_none))
local macro_rules | `(tactic| walk_at "sh") => `(tactic| (first | exact num_shaped _ | exact pt_shaped _ _ | exact shp_ints _ | exact shp_lnil | exact shp_none))
section
variable {P : Program} {w : World} {K : PySem.W.Frag} {mg : Str → Option Value} {base : Heap}

theorem sc_law : FnScope ["_law_script", "_law_hoist_here", "_law_turn_here", "_law_first", "_law_bad", "_law_at", "_law_good", "_law_dues", "_law_call", "_law_spot"] ["_law_script"] (defScope (top 80)) := ⟨rfl, rfl, rfl, by decide +kernel, rfl, by decide +kernel, by decide +kernel⟩
theorem fn_law {f c P0 CE BN fI : Addr} {fdI : FuncData} {kV doc pm ct oc : Value} {an od : Option Addr} {osl : Array (Option Value)} (T : Txt K mg) (TD : TxD K mg 42 "need_side" top (.str "side")) (TH : Tx K mg 74 "_law_heard" top) (B : BNC K mg CE BN fI fdI)
    (lk : K.lookup f = some ⟨oc, od, .func (PySem.W.fnOf "law" "law" (defArgs (top 80)) (defBody (top 80)) (defScope (top 80)) .none kV doc pm an (.ref c) ct), osl⟩) (hcd : PySem.W.codeIn K (.ref c) "law" = true) (TB : TabB base mg c P0) :
    FnG P w K mg base 10 f (PySem.W.fnOf "law" "law" (defArgs (top 80)) (defBody (top 80)) (defScope (top 80)) .none kV doc pm an (.ref c) ct) ["_law_script"] (spLaw K P0) := by
  refine fnG_of lk hcd sc_law (fun vs H Q E h => ?_) (fun A outer s H vs Q E hgd hr h => ?_)
  · obtain ⟨a, ns, rfl, _⟩ := h
    rfl
  obtain ⟨a, ns, rfl, hT, hS, ⟨Bn, hB1, hB2⟩, hQ⟩ := h
  obtain ⟨gh, fdh, Fh, hmh⟩ := TH.ex
  obtain ⟨oc', od', dV, kV', doc', pm', an', cdv', ct', osl', rfl, lkh, hch, hDh, _⟩ := Fh.ex
  have bh := Fh.bindsN (ps := ["_law_ask"]) (fun _ _ _ _ _ _ us hl => match us, hl with | [_], _ => rfl)
  have main : ∀ p : Addr, PSs (cxOf CX0 P w K mg base ["_law_script", "_law_hoist_here", "_law_turn_here", "_law_first", "_law_bad", "_law_at", "_law_good", "_law_dues", "_law_call", "_law_spot"] "law" (defScope (top 80)) f (.ref c) A outer s H E).nox ((defBody (top 80)).drop 1) (tW K (mLaw [(P0, "law.<locals>.<lambda>")]) p 100 [.d (.list (ns.map PyData.int)), .v (.ref p), .no, .no, .no, .no, .no, .no, .no, .no] Nof) := by
    intro p
    have rng : ∃ n : Nat, n ≤ 3 ∧ ∀ c', PD (cxOf CX0 P w K mg base ["_law_script", "_law_hoist_here", "_law_turn_here", "_law_first", "_law_bad", "_law_at", "_law_good", "_law_dues", "_law_call", "_law_spot"] "law" (defScope (top 80)) f (.ref c) A outer s H E).nox ((mLaw [(P0, "law.<locals>.<lambda>")]).ho K p c') [.d (.list (ns.map PyData.int)), .v (.ref p), .no, .no, .no, .no, .no, .no, .no, .no] (match (defBody (top 80)).getD 1 (.Pass ⟨0, 0, 0, 0⟩) with | .For _ (.Call _ [a] _ _) _ _ _ => a | _ => .Constant .none 0 ⟨0, 0, 0, 0⟩) (Is (.int n)) := by
      cases hne : ns.isEmpty with
      | true => exact ⟨1, by decide, fun c' => pd_if (x := false) (pb_is (pb_ne hr.units (pd_var 0) (pd_lst pl_nil) (by walk_at "sh") (by walk_at "sh")) (by rw [eqv_ints, hne]; rfl)) (fun z => by cases z) (fun _ => pd_int)⟩
      | false => exact ⟨3, by decide, fun c' => pd_if (x := true) (pb_is (pb_ne hr.units (pd_var 0) (pd_lst pl_nil) (by walk_at "sh") (by walk_at "sh")) (by rw [eqv_ints, hne]; rfl)) (fun _ => pd_int) (fun z => by cases z)⟩
    obtain ⟨n, hn, rng⟩ := rng
    refine w_le (w_forR (kb := 20) (kr := 17) (gw := [.d (.list (ns.map PyData.int)), .v (.ref p), .no, .no, .no, .no, .no, .no, .no, .no]) 2 rfl rng (by omega) (less_of_fgt (fgt_refl _)) rfl T.f_range (fun k hk => ?_) ?_ PassesOwn.never sc_law.nd) (by omega)
    · exact w_le (w_ifNot (h_callG 1 (c__law_parts_right T TD) (show A.guards = some [] from hgd) hr (by decide) rfl (by intro z; cases z) ha_nil (fun ds z => ⟨z, rfl⟩)) (w_nil (k := 0) (less_of_fgt (.same (.same (.no (fgt_refl _))))))) (by decide)
    refine w_le (w_set (k2 := 16) 3 (h_add (S := (fun d => ∃ i : Int, d = .int i ∧ 1 ≤ i ∧ i ≤ 30)) (h_pure fun c => pd_int) (h_callH (S := SInt 30) 1 (c__law_winch T) hr (by decide) rfl (by intro z; cases z) (ha_cons (h_pure fun c => pd_int) ha_nil) (winch_n (by decide) (by decide))) (fun x y h1 h2 => by obtain ⟨i, rfl, h3, h4⟩ := h2; cases h1; exact ⟨1, i, rfl, rfl, _, rfl, by omega, by omega⟩)) (fun d z => ?_) sc_law.nd) (by decide)
    obtain ⟨f', rfl, f1, f2⟩ := z
    refine w_le (w_set (k2 := 14) 4 (h_lst (ha_cons (h_callH (S := BS0) 1 (c__law_one T) hr (by decide) rfl (by intro z; cases z) (ha_cons (h_lst (ha_cons (h_pure fun c => pd_int) (ha_cons (h_pure fun c => (pd_neg pd_int)) (ha_cons (h_pure fun c => pd_non) (ha_cons (h_pure fun c => pd_bl) (ha_cons (h_pure fun c => pd_str) (ha_cons (h_pure fun c => (pd_lst (pl_cons pd_int pl_nil))) (ha_cons (h_pure fun c => (pd_tup (pl_cons pd_int (pl_cons pd_int pl_nil)))) ha_nil))))))) (fun ds z => by obtain ⟨x0, r0, rfl, s0, x1, r1, rfl, s1, x2, r2, rfl, s2, x3, r3, rfl, s3, x4, r4, rfl, s4, x5, r5, rfl, s5, x6, r6, rfl, s6, h9⟩ := z; cases h9; cases s0; cases s1; cases s2; cases s3; cases s4; cases s5; cases s6; exact Nat.le_of_ble_eq_true rfl)) ha_nil) (one_l (fun es z => by obtain ⟨x0, r0, rfl, s0, x1, r1, rfl, s1, x2, r2, rfl, s2, x3, r3, rfl, s3, x4, r4, rfl, s4, x5, r5, rfl, s5, x6, r6, rfl, s6, h9⟩ := z; cases h9; cases s0; cases s1; cases s2; cases s3; cases s4; cases s5; cases s6; refine ⟨by simp, by simp, fun d hd => ?_⟩; simp only [List.mem_cons, List.not_mem_nil, or_false] at hd; rcases hd with rfl | rfl | rfl | rfl | rfl | rfl | rfl; exact rfl; exact rfl; exact rfl; exact rfl; exact rfl; exact rfl; exact rfl))) (ha_cons (h_callH (S := (BS1 f')) 1 (c__law_one T) hr (by decide) rfl (by intro z; cases z) (ha_cons (h_lst (ha_cons (h_pure fun c => (pd_var 3)) (ha_cons (h_pure fun c => (pd_neg pd_int)) (ha_cons (h_pure fun c => pd_non) (ha_cons (h_pure fun c => pd_bl) (ha_cons (h_pure fun c => pd_str) (ha_cons (h_pure fun c => (pd_tup (pl_cons pd_int (pl_cons pd_int pl_nil)))) ha_nil)))))) (fun ds z => by obtain ⟨x0, r0, rfl, s0, x1, r1, rfl, s1, x2, r2, rfl, s2, x3, r3, rfl, s3, x4, r4, rfl, s4, x5, r5, rfl, s5, h9⟩ := z; cases h9; cases s0; cases s1; cases s2; cases s3; cases s4; cases s5; exact Nat.le_of_ble_eq_true rfl)) ha_nil) (one_l (fun es z => by obtain ⟨x0, r0, rfl, s0, x1, r1, rfl, s1, x2, r2, rfl, s2, x3, r3, rfl, s3, x4, r4, rfl, s4, x5, r5, rfl, s5, h9⟩ := z; cases h9; cases s0; cases s1; cases s2; cases s3; cases s4; cases s5; refine ⟨by simp, by simp, fun d hd => ?_⟩; simp only [List.mem_cons, List.not_mem_nil, or_false] at hd; rcases hd with rfl | rfl | rfl | rfl | rfl | rfl; exact (bs1_f _); exact (bs1_m (by omega)); exact rfl; exact rfl; exact rfl; exact rfl))) ha_nil)) (fun ds z => by obtain ⟨x1, r1, rfl, s1, x2, r2, rfl, s2, h7⟩ := z; cases h7; exact Nat.le_of_ble_eq_true rfl)) (fun d z => ?_) sc_law.nd) (by decide)
    obtain ⟨_, rfl, b0, r1, rfl, s0, b1, r2, rfl, s1, h9⟩ := z
    cases h9
    change PSs _ _ (tW _ _ p 14 [.d (.list (ns.map PyData.int)), .v (.ref p), .no, .d (.int f'), .d (.list [b0, b1]), .no, .no, .no, .no, .no] _)
    refine w_le (w_set (k2 := 12) 4 (h_cat (SS1 := Is [b0, b1]) (h_le (k2 := 0) (h_pure fun c => pd_var 4) (by decide) (fun d z => ⟨_, z, rfl⟩)) (h_lst (ha_cons (h_callH (S := BS2) 1 (c__law_one T) hr (by decide) rfl (by intro z; cases z) (ha_cons (h_lst (ha_cons (h_pure fun c => pd_non) (ha_cons (h_pure fun c => pd_bl) (ha_cons (h_pure fun c => pd_str) (ha_cons (h_pure fun c => (pd_tup (pl_cons pd_int (pl_cons pd_int pl_nil)))) (ha_cons (h_pure fun c => (pd_tup (pl_cons pd_int (pl_cons pd_int pl_nil)))) ha_nil))))) (fun ds z => by obtain ⟨x0, r0, rfl, s0, x1, r1, rfl, s1, x2, r2, rfl, s2, x3, r3, rfl, s3, x4, r4, rfl, s4, h9⟩ := z; cases h9; cases s0; cases s1; cases s2; cases s3; cases s4; exact Nat.le_of_ble_eq_true rfl)) ha_nil) (one_l (fun es z => by obtain ⟨x0, r0, rfl, s0, x1, r1, rfl, s1, x2, r2, rfl, s2, x3, r3, rfl, s3, x4, r4, rfl, s4, h9⟩ := z; cases h9; cases s0; cases s1; cases s2; cases s3; cases s4; refine ⟨by simp, by simp, fun d hd => ?_⟩; simp only [List.mem_cons, List.not_mem_nil, or_false] at hd; rcases hd with rfl | rfl | rfl | rfl | rfl; exact ⟨trivial, rfl⟩; exact ⟨trivial, rfl⟩; exact ⟨trivial, rfl⟩; exact ⟨⟨_, _, rfl⟩, by decide⟩; exact ⟨⟨_, _, rfl⟩, by decide⟩))) (ha_cons (h_callH (S := BS3) 1 (c__law_one T) hr (by decide) rfl (by intro z; cases z) (ha_cons (h_lst (ha_cons (h_pure fun c => (pd_neg pd_int)) (ha_cons (h_pure fun c => pd_non) (ha_cons (h_pure fun c => pd_bl) (ha_cons (h_pure fun c => (pd_tup (pl_cons (pd_neg pd_int) (pl_cons pd_int pl_nil)))) (ha_cons (h_pure fun c => pd_str) (ha_cons (h_pure fun c => (pd_tup (pl_cons pd_int (pl_cons pd_int pl_nil)))) ha_nil)))))) (fun ds z => by obtain ⟨x0, r0, rfl, s0, x1, r1, rfl, s1, x2, r2, rfl, s2, x3, r3, rfl, s3, x4, r4, rfl, s4, x5, r5, rfl, s5, h9⟩ := z; cases h9; cases s0; cases s1; cases s2; cases s3; cases s4; cases s5; exact Nat.le_of_ble_eq_true rfl)) ha_nil) (one_l (fun es z => by obtain ⟨x0, r0, rfl, s0, x1, r1, rfl, s1, x2, r2, rfl, s2, x3, r3, rfl, s3, x4, r4, rfl, s4, x5, r5, rfl, s5, h9⟩ := z; cases h9; cases s0; cases s1; cases s2; cases s3; cases s4; cases s5; refine ⟨by simp, by simp, fun d hd => ?_⟩; simp only [List.mem_cons, List.not_mem_nil, or_false] at hd; rcases hd with rfl | rfl | rfl | rfl | rfl | rfl; exact bs3_i; exact (bs3_n ⟨trivial, rfl⟩); exact (bs3_n ⟨trivial, rfl⟩); exact bs3_q; exact (bs3_n ⟨trivial, rfl⟩); exact (bs3_n ⟨⟨_, _, rfl⟩, by decide⟩)))) ha_nil)) (fun ds z => by obtain ⟨x1, r1, rfl, s1, x2, r2, rfl, s2, h7⟩ := z; cases h7; exact Nat.le_of_ble_eq_true rfl)) (fun ds z => by cases z; exact Nat.le_of_ble_eq_true rfl) (fun ds z => by obtain ⟨x1, r1, rfl, s1, x2, r2, rfl, s2, h7⟩ := z; cases h7; exact Nat.le_of_ble_eq_true rfl)) (fun d z => ?_) sc_law.nd) (by decide)
    obtain ⟨_, _, rfl, z1, b2, r1, rfl, s2, b3, r2, rfl, s3, h9⟩ := z
    cases z1
    cases h9
    change PSs _ _ (tW _ _ p 12 [.d (.list (ns.map PyData.int)), .v (.ref p), .no, .d (.int f'), .d (.list [b0, b1, b2, b3]), .no, .no, .no, .no, .no] _)
    refine w_le (w_asg (k2 := 12) (S := Is (.tuple [.list [.int f', .int 0, .tuple [.int 1, .int 2], .int 2], .list [.str "first", .str "v", .str "h", .str "reach"]])) (fun _ => [.d (.list (ns.map PyData.int)), .v (.ref p), .no, .d (.int f'), .d (.list [b0, b1, b2, b3]), .no, .d (.list [.int f', .int 0, .tuple [.int 1, .int 2], .int 2]), .d (.list [.str "first", .str "v", .str "h", .str "reach"]), .no, .no]) (h_pure fun c => (pd_tup (pl_cons (pd_lst (pl_cons (pd_var 3) (pl_cons pd_int (pl_cons (pd_tup (pl_cons pd_int (pl_cons pd_int pl_nil))) (pl_cons pd_int pl_nil))))) (pl_cons (pd_lst (pl_cons pd_str (pl_cons pd_str (pl_cons pd_str (pl_cons pd_str pl_nil))))) pl_nil)))) (fun c d z => by cases z; exact (g_tup rfl (g_cons (g_name 6 sc_law.nd) (g_cons (g_name 7 sc_law.nd) g_nil)))) (fun d z => ?_)) (by decide)
    refine w_le (w_forR (n := 4) (kb := 3) (kr := 0) (gw := [.d (.list (ns.map PyData.int)), .v (.ref p), .no, .d (.int f'), .d (.list [b0, b1, b2, b3]), .no, .d (.list [.int f', .int 0, .tuple [.int 1, .int 2], .int 2]), .d (.list [.str "first", .str "v", .str "h", .str "reach"]), .no, .no]) 5 rfl (fun c => pd_int) (by decide) (less_of_fgt (fgt_refl _)) rfl T.f_range (fun k hk => ?_) w_retT PassesOwn.never sc_law.nd) (by decide)
    match k, hk with
    | 0, hk =>
      change PSs _ _ (tW _ _ p 3 [.d (.list (ns.map PyData.int)), .v (.ref p), .no, .d (.int f'), .d (.list [b0, b1, b2, b3]), .d (.int ((0 : Nat) : Int)), .d (.list [.int f', .int 0, .tuple [.int 1, .int 2], .int 2]), .d (.list [.str "first", .str "v", .str "h", .str "reach"]), .no, .no] _)
      refine w_le (w_set (k2 := 0) 8 (h_cat (SS1 := Is [b0]) (SS2 := fun ds => ds.length = 3) (h_le (k2 := 0) (h_pure fun c => (pd_cat (pd_take (k := 0) (pd_var 6) (pd_var 5)) (pd_lst (pl_cons (pd_ixL (pd_var 4) (pd_var 5)) pl_nil)))) (by decide) (fun d z => ⟨_, z, rfl⟩)) (h_le (k2 := 3) (h_lcR (S := fun _ => True) (lo := ((0 : Nat) : Int) + 1) (n := 3) (k1 := 1) 9 rfl sc_law.nd (fun c => pd_add (pd_var 5) pd_int) (fun c => pd_int) (by decide) (by decide) (by decide) rfl T.f_range (blkOk_by (N := ["_law_script", "_law_hoist_here", "_law_turn_here", "_law_first", "_law_bad", "_law_at", "_law_good", "_law_dues", "_law_call", "_law_spot"]) (sc := defScope (top 80)) (by decide +kernel)) (fun _ _ _ _ _ => (pg_name sc_law.nd rfl (Or.inl rfl))) (fun s2 H2 C cl fp i D acc hi nep => ?_)) (by decide) (fun d z => by obtain ⟨ds, rfl, hl, _⟩ := z; exact ⟨ds, rfl, hl⟩)) (fun ds z => by cases z; exact Nat.le_of_ble_eq_true rfl) (fun ds z => by omega)) (fun d z => ?_) sc_law.nd) (by decide)

      · match i, hi with
        | 0, hi => exact (h_callH (S := fun _ => True) 1 (c__law_one T) hr (by decide) rfl (by intro z; rcases List.mem_cons.mp z with e | e; exact nep e.symm; cases e) (ha_cons (h_lst (ha_cons (h_pure fun c => (pd_ixL (pd_var 4) (pd_var 9))) (ha_cons (h_pure fun c => (pd_ixL (pd_var 6) (pd_var 9))) ha_nil)) (fun ds z => by obtain ⟨x1, r1, rfl, s1, x2, r2, rfl, s2, h7⟩ := z; cases h7; exact Nat.le_of_ble_eq_true rfl)) ha_nil) (one_l (fun es z => by obtain ⟨x1, r1, rfl, s1, x2, r2, rfl, s2, h7⟩ := z; cases h7; exact ⟨by simp, by simp, fun _ _ => trivial⟩)))
        | 1, hi => exact (h_callH (S := fun _ => True) 1 (c__law_one T) hr (by decide) rfl (by intro z; rcases List.mem_cons.mp z with e | e; exact nep e.symm; cases e) (ha_cons (h_lst (ha_cons (h_pure fun c => (pd_ixL (pd_var 4) (pd_var 9))) (ha_cons (h_pure fun c => (pd_ixL (pd_var 6) (pd_var 9))) ha_nil)) (fun ds z => by obtain ⟨x1, r1, rfl, s1, x2, r2, rfl, s2, h7⟩ := z; cases h7; exact Nat.le_of_ble_eq_true rfl)) ha_nil) (one_l (fun es z => by obtain ⟨x1, r1, rfl, s1, x2, r2, rfl, s2, h7⟩ := z; cases h7; exact ⟨by simp, by simp, fun _ _ => trivial⟩)))
        | 2, hi => exact (h_callH (S := fun _ => True) 1 (c__law_one T) hr (by decide) rfl (by intro z; rcases List.mem_cons.mp z with e | e; exact nep e.symm; cases e) (ha_cons (h_lst (ha_cons (h_pure fun c => (pd_ixL (pd_var 4) (pd_var 9))) (ha_cons (h_pure fun c => (pd_ixL (pd_var 6) (pd_var 9))) ha_nil)) (fun ds z => by obtain ⟨x1, r1, rfl, s1, x2, r2, rfl, s2, h7⟩ := z; cases h7; exact Nat.le_of_ble_eq_true rfl)) ha_nil) (one_l (fun es z => by obtain ⟨x1, r1, rfl, s1, x2, r2, rfl, s2, h7⟩ := z; cases h7; exact ⟨by simp, by simp, fun _ _ => trivial⟩)))
        | _ + 3, hi => omega
      · obtain ⟨_, ds, rfl, z1, hl⟩ := z
        cases z1
        match ds, hl with
        | [x1, x2, x3], _ =>
          change PSs _ _ (tW _ _ p 0 [.d (.list (ns.map PyData.int)), .v (.ref p), .no, .d (.int f'), .d (.list [b0, b1, b2, b3]), .d (.int ((0 : Nat) : Int)), .d (.list [.int f', .int 0, .tuple [.int 1, .int 2], .int 2]), .d (.list [.str "first", .str "v", .str "h", .str "reach"]), .d (.list [b0, x1, x2, x3]), .no] _)
          refine w_heard (q := "first") (BN := BN) (by decide +kernel) hr.units (LamX.pe_lamcall (k := 6) rfl hmh Fh.kp lkh hch bh sc__law_heard rfl (Or.inl rfl) (heard_gives T B) TB rfl (List.mem_singleton.mpr rfl) (fun q hq _ => by rw [List.mem_singleton.mp hq] <;> rfl) (hr.mono (by decide)) (LamX.lamS_by (sc := defScope (top 80)) (by decide +kernel)) rfl (fun _ _ _ _ _ => rfl) (fun A2 o2 sh H2 E2 fl c2 hr2 => PE.ex fun c3 => pe_rc (x_cell_parts T B) hr2 (by decide) (takes_of rfl rfl rfl rfl) rfl (pl_cons (pd_ixL (pd_var 8) pd_int) (pl_cons (pd_ixL (pd_var 8) pd_int) (pl_cons (pd_ixL (pd_var 8) pd_int) (pl_cons (pd_ixL (pd_var 8) pd_int) pl_nil)))) (RX_cell_parts.first s0))) (fun c => pd_tup (pl_cons pd_str (pl_cons (pd_ixL (pd_var 7) (pd_var 5)) pl_nil))) (w_nil (less_of_fgt ?_))
          exact .same (.same (.same (.same (.same (.no (.same (.same (.no (.same .nil)))))))))
    | 1, hk =>
      change PSs _ _ (tW _ _ p 3 [.d (.list (ns.map PyData.int)), .v (.ref p), .no, .d (.int f'), .d (.list [b0, b1, b2, b3]), .d (.int ((1 : Nat) : Int)), .d (.list [.int f', .int 0, .tuple [.int 1, .int 2], .int 2]), .d (.list [.str "first", .str "v", .str "h", .str "reach"]), .no, .no] _)
      refine w_le (w_set (k2 := 0) 8 (h_cat (SS1 := Is [.int f', b1]) (SS2 := fun ds => ds.length = 2) (h_le (k2 := 0) (h_pure fun c => (pd_cat (pd_take (k := 1) (pd_var 6) (pd_var 5)) (pd_lst (pl_cons (pd_ixL (pd_var 4) (pd_var 5)) pl_nil)))) (by decide) (fun d z => ⟨_, z, rfl⟩)) (h_le (k2 := 2) (h_lcR (S := fun _ => True) (lo := ((1 : Nat) : Int) + 1) (n := 2) (k1 := 1) 9 rfl sc_law.nd (fun c => pd_add (pd_var 5) pd_int) (fun c => pd_int) (by decide) (by decide) (by decide) rfl T.f_range (blkOk_by (N := ["_law_script", "_law_hoist_here", "_law_turn_here", "_law_first", "_law_bad", "_law_at", "_law_good", "_law_dues", "_law_call", "_law_spot"]) (sc := defScope (top 80)) (by decide +kernel)) (fun _ _ _ _ _ => (pg_name sc_law.nd rfl (Or.inl rfl))) (fun s2 H2 C cl fp i D acc hi nep => ?_)) (by decide) (fun d z => by obtain ⟨ds, rfl, hl, _⟩ := z; exact ⟨ds, rfl, hl⟩)) (fun ds z => by cases z; exact Nat.le_of_ble_eq_true rfl) (fun ds z => by omega)) (fun d z => ?_) sc_law.nd) (by decide)

      · match i, hi with
        | 0, hi => exact (h_callH (S := fun _ => True) 1 (c__law_one T) hr (by decide) rfl (by intro z; rcases List.mem_cons.mp z with e | e; exact nep e.symm; cases e) (ha_cons (h_lst (ha_cons (h_pure fun c => (pd_ixL (pd_var 4) (pd_var 9))) (ha_cons (h_pure fun c => (pd_ixL (pd_var 6) (pd_var 9))) ha_nil)) (fun ds z => by obtain ⟨x1, r1, rfl, s1, x2, r2, rfl, s2, h7⟩ := z; cases h7; exact Nat.le_of_ble_eq_true rfl)) ha_nil) (one_l (fun es z => by obtain ⟨x1, r1, rfl, s1, x2, r2, rfl, s2, h7⟩ := z; cases h7; exact ⟨by simp, by simp, fun _ _ => trivial⟩)))
        | 1, hi => exact (h_callH (S := fun _ => True) 1 (c__law_one T) hr (by decide) rfl (by intro z; rcases List.mem_cons.mp z with e | e; exact nep e.symm; cases e) (ha_cons (h_lst (ha_cons (h_pure fun c => (pd_ixL (pd_var 4) (pd_var 9))) (ha_cons (h_pure fun c => (pd_ixL (pd_var 6) (pd_var 9))) ha_nil)) (fun ds z => by obtain ⟨x1, r1, rfl, s1, x2, r2, rfl, s2, h7⟩ := z; cases h7; exact Nat.le_of_ble_eq_true rfl)) ha_nil) (one_l (fun es z => by obtain ⟨x1, r1, rfl, s1, x2, r2, rfl, s2, h7⟩ := z; cases h7; exact ⟨by simp, by simp, fun _ _ => trivial⟩)))
        | _ + 2, hi => omega
      · obtain ⟨_, ds, rfl, z1, hl⟩ := z
        cases z1
        match ds, hl with
        | [x1, x2], _ =>
          change PSs _ _ (tW _ _ p 0 [.d (.list (ns.map PyData.int)), .v (.ref p), .no, .d (.int f'), .d (.list [b0, b1, b2, b3]), .d (.int ((1 : Nat) : Int)), .d (.list [.int f', .int 0, .tuple [.int 1, .int 2], .int 2]), .d (.list [.str "first", .str "v", .str "h", .str "reach"]), .d (.list [.int f', b1, x1, x2]), .no] _)
          refine w_heard (q := "v") (BN := BN) (by decide +kernel) hr.units (LamX.pe_lamcall (k := 6) rfl hmh Fh.kp lkh hch bh sc__law_heard rfl (Or.inl rfl) (heard_gives T B) TB rfl (List.mem_singleton.mpr rfl) (fun q hq _ => by rw [List.mem_singleton.mp hq] <;> rfl) (hr.mono (by decide)) (LamX.lamS_by (sc := defScope (top 80)) (by decide +kernel)) rfl (fun _ _ _ _ _ => rfl) (fun A2 o2 sh H2 E2 fl c2 hr2 => PE.ex fun c3 => pe_rc (x_cell_parts T B) hr2 (by decide) (takes_of rfl rfl rfl rfl) rfl (pl_cons (pd_ixL (pd_var 8) pd_int) (pl_cons (pd_ixL (pd_var 8) pd_int) (pl_cons (pd_ixL (pd_var 8) pd_int) (pl_cons (pd_ixL (pd_var 8) pd_int) pl_nil)))) (RX_cell_parts.v f1 s1))) (fun c => pd_tup (pl_cons pd_str (pl_cons (pd_ixL (pd_var 7) (pd_var 5)) pl_nil))) (w_nil (less_of_fgt ?_))
          exact .same (.same (.same (.same (.same (.no (.same (.same (.no (.same .nil)))))))))
    | 2, hk =>
      change PSs _ _ (tW _ _ p 3 [.d (.list (ns.map PyData.int)), .v (.ref p), .no, .d (.int f'), .d (.list [b0, b1, b2, b3]), .d (.int ((2 : Nat) : Int)), .d (.list [.int f', .int 0, .tuple [.int 1, .int 2], .int 2]), .d (.list [.str "first", .str "v", .str "h", .str "reach"]), .no, .no] _)
      refine w_le (w_set (k2 := 0) 8 (h_cat (SS1 := Is [.int f', .int 0, b2]) (SS2 := fun ds => ds.length = 1) (h_le (k2 := 0) (h_pure fun c => (pd_cat (pd_take (k := 2) (pd_var 6) (pd_var 5)) (pd_lst (pl_cons (pd_ixL (pd_var 4) (pd_var 5)) pl_nil)))) (by decide) (fun d z => ⟨_, z, rfl⟩)) (h_le (k2 := 1) (h_lcR (S := fun _ => True) (lo := ((2 : Nat) : Int) + 1) (n := 1) (k1 := 1) 9 rfl sc_law.nd (fun c => pd_add (pd_var 5) pd_int) (fun c => pd_int) (by decide) (by decide) (by decide) rfl T.f_range (blkOk_by (N := ["_law_script", "_law_hoist_here", "_law_turn_here", "_law_first", "_law_bad", "_law_at", "_law_good", "_law_dues", "_law_call", "_law_spot"]) (sc := defScope (top 80)) (by decide +kernel)) (fun _ _ _ _ _ => (pg_name sc_law.nd rfl (Or.inl rfl))) (fun s2 H2 C cl fp i D acc hi nep => ?_)) (by decide) (fun d z => by obtain ⟨ds, rfl, hl, _⟩ := z; exact ⟨ds, rfl, hl⟩)) (fun ds z => by cases z; exact Nat.le_of_ble_eq_true rfl) (fun ds z => by omega)) (fun d z => ?_) sc_law.nd) (by decide)

      · match i, hi with
        | 0, hi => exact (h_callH (S := fun _ => True) 1 (c__law_one T) hr (by decide) rfl (by intro z; rcases List.mem_cons.mp z with e | e; exact nep e.symm; cases e) (ha_cons (h_lst (ha_cons (h_pure fun c => (pd_ixL (pd_var 4) (pd_var 9))) (ha_cons (h_pure fun c => (pd_ixL (pd_var 6) (pd_var 9))) ha_nil)) (fun ds z => by obtain ⟨x1, r1, rfl, s1, x2, r2, rfl, s2, h7⟩ := z; cases h7; exact Nat.le_of_ble_eq_true rfl)) ha_nil) (one_l (fun es z => by obtain ⟨x1, r1, rfl, s1, x2, r2, rfl, s2, h7⟩ := z; cases h7; exact ⟨by simp, by simp, fun _ _ => trivial⟩)))
        | _ + 1, hi => omega
      · obtain ⟨_, ds, rfl, z1, hl⟩ := z
        cases z1
        match ds, hl with
        | [x1], _ =>
          change PSs _ _ (tW _ _ p 0 [.d (.list (ns.map PyData.int)), .v (.ref p), .no, .d (.int f'), .d (.list [b0, b1, b2, b3]), .d (.int ((2 : Nat) : Int)), .d (.list [.int f', .int 0, .tuple [.int 1, .int 2], .int 2]), .d (.list [.str "first", .str "v", .str "h", .str "reach"]), .d (.list [.int f', .int 0, b2, x1]), .no] _)
          refine w_heard (q := "h") (BN := BN) (by decide +kernel) hr.units (LamX.pe_lamcall (k := 6) rfl hmh Fh.kp lkh hch bh sc__law_heard rfl (Or.inl rfl) (heard_gives T B) TB rfl (List.mem_singleton.mpr rfl) (fun q hq _ => by rw [List.mem_singleton.mp hq] <;> rfl) (hr.mono (by decide)) (LamX.lamS_by (sc := defScope (top 80)) (by decide +kernel)) rfl (fun _ _ _ _ _ => rfl) (fun A2 o2 sh H2 E2 fl c2 hr2 => PE.ex fun c3 => pe_rc (x_cell_parts T B) hr2 (by decide) (takes_of rfl rfl rfl rfl) rfl (pl_cons (pd_ixL (pd_var 8) pd_int) (pl_cons (pd_ixL (pd_var 8) pd_int) (pl_cons (pd_ixL (pd_var 8) pd_int) (pl_cons (pd_ixL (pd_var 8) pd_int) pl_nil)))) (RX_cell_parts.h f1 (by decide) (by omega) s2))) (fun c => pd_tup (pl_cons pd_str (pl_cons (pd_ixL (pd_var 7) (pd_var 5)) pl_nil))) (w_nil (less_of_fgt ?_))
          exact .same (.same (.same (.same (.same (.no (.same (.same (.no (.same .nil)))))))))
    | 3, hk =>
      change PSs _ _ (tW _ _ p 3 [.d (.list (ns.map PyData.int)), .v (.ref p), .no, .d (.int f'), .d (.list [b0, b1, b2, b3]), .d (.int ((3 : Nat) : Int)), .d (.list [.int f', .int 0, .tuple [.int 1, .int 2], .int 2]), .d (.list [.str "first", .str "v", .str "h", .str "reach"]), .no, .no] _)
      refine w_le (w_set (k2 := 0) 8 (h_cat (SS1 := Is [.int f', .int 0, .tuple [.int 1, .int 2], b3]) (SS2 := fun ds => ds.length = 0) (h_le (k2 := 0) (h_pure fun c => (pd_cat (pd_take (k := 3) (pd_var 6) (pd_var 5)) (pd_lst (pl_cons (pd_ixL (pd_var 4) (pd_var 5)) pl_nil)))) (by decide) (fun d z => ⟨_, z, rfl⟩)) (h_le (k2 := 0) (h_lcR (S := fun _ => True) (lo := ((3 : Nat) : Int) + 1) (n := 0) (k1 := 1) 9 rfl sc_law.nd (fun c => pd_add (pd_var 5) pd_int) (fun c => pd_int) (by decide) (by decide) (by decide) rfl T.f_range (blkOk_by (N := ["_law_script", "_law_hoist_here", "_law_turn_here", "_law_first", "_law_bad", "_law_at", "_law_good", "_law_dues", "_law_call", "_law_spot"]) (sc := defScope (top 80)) (by decide +kernel)) (fun _ _ _ _ _ => (pg_name sc_law.nd rfl (Or.inl rfl))) (fun s2 H2 C cl fp i D acc hi nep => ?_)) (by decide) (fun d z => by obtain ⟨ds, rfl, hl, _⟩ := z; exact ⟨ds, rfl, hl⟩)) (fun ds z => by cases z; exact Nat.le_of_ble_eq_true rfl) (fun ds z => by omega)) (fun d z => ?_) sc_law.nd) (by decide)

      · cases hi
      · obtain ⟨_, ds, rfl, z1, hl⟩ := z
        cases z1
        match ds, hl with
        | [], _ =>
          change PSs _ _ (tW _ _ p 0 [.d (.list (ns.map PyData.int)), .v (.ref p), .no, .d (.int f'), .d (.list [b0, b1, b2, b3]), .d (.int ((3 : Nat) : Int)), .d (.list [.int f', .int 0, .tuple [.int 1, .int 2], .int 2]), .d (.list [.str "first", .str "v", .str "h", .str "reach"]), .d (.list [.int f', .int 0, .tuple [.int 1, .int 2], b3]), .no] _)
          refine w_heard (q := "reach") (BN := BN) (by decide +kernel) hr.units (LamX.pe_lamcall (k := 6) rfl hmh Fh.kp lkh hch bh sc__law_heard rfl (Or.inl rfl) (heard_gives T B) TB rfl (List.mem_singleton.mpr rfl) (fun q hq _ => by rw [List.mem_singleton.mp hq] <;> rfl) (hr.mono (by decide)) (LamX.lamS_by (sc := defScope (top 80)) (by decide +kernel)) rfl (fun _ _ _ _ _ => rfl) (fun A2 o2 sh H2 E2 fl c2 hr2 => PE.ex fun c3 => pe_rc (x_cell_parts T B) hr2 (by decide) (takes_of rfl rfl rfl rfl) rfl (pl_cons (pd_ixL (pd_var 8) pd_int) (pl_cons (pd_ixL (pd_var 8) pd_int) (pl_cons (pd_ixL (pd_var 8) pd_int) (pl_cons (pd_ixL (pd_var 8) pd_int) pl_nil)))) ((show RX_cell_parts [.int f', .int 0, .tuple [.int 1, .int 2], b3] "reach" by rw [isHalf.eq]; exact RX_cell_parts.reach f1 (by decide) (by omega) s3)))) (fun c => pd_tup (pl_cons pd_str (pl_cons (pd_ixL (pd_var 7) (pd_var 5)) pl_nil))) (w_nil (less_of_fgt ?_))
          exact .same (.same (.same (.same (.same (.no (.same (.same (.no (.same .nil)))))))))
    | _ + 4, hk => omega
  have T0 : Tabs [(P0, "law.<locals>.<lambda>")] H := hT
  have dn : ∀ G : Hp, del [] G = G := fun G => by funext b; unfold del; simp
  have d0 : Dp K H (.ref a) (.list (ns.map PyData.int)) := .lst hS (dps_ints ns)
  have first : PSs (cxOf CX0 P w K mg base ["_law_script", "_law_hoist_here", "_law_turn_here", "_law_first", "_law_bad", "_law_at", "_law_good", "_law_dues", "_law_call", "_law_spot"] "law" (defScope (top 80)) f (.ref c) A outer s H E).nox (defBody (top 80)) _ := pss_cons (rest := (defBody (top 80)).drop 1) (ps_set (i := 1) sc_law.nd rfl (Or.inr rfl) (C8.pe_c (c__law_hoist T) hr (by decide) rfl (pl_cons (m := mLaw [(P0, "law.<locals>.<lambda>")]) (g := [.d (.list (ns.map PyData.int)), .no, .no, .no, .no, .no, .no, .no, .no, .no]) (pd_var 0) pl_nil))) (PSs.ex fun p => main p)
  refine ⟨_, PSs.nox first, ?_⟩
  refine ⟨⟨fun z hz => (by cases hz), T0, ⟨⟨_, rfl, by show Dp K (del [] H) _ _; rw [dn]; exact d0⟩, trivial, trivial, trivial, trivial, trivial, trivial, trivial, trivial, trivial, trivial⟩⟩, fun vs ds H1 n1 s1 q1 => ?_⟩
  cases s1
  obtain ⟨v, rfl, q2⟩ := dps1 q1
  refine ⟨[], v, ns, rfl, fun z hz => (by cases hz), q2, fun p l H2 sm e1 e2 q3 => ?_⟩
  have e3 : H2 p = some (.lst [.ref l, .int 0, .int 0]) := e2
  refine ⟨p, 0, by decide, ⟨fun z hz => ?_, ⟨tabs_del (Tabs.ext n1.w sm) e3, l, 0, 0, ns.take 60, e3, q3, ⟨by rw [List.length_take]; omega, Bn, hB1, fun x hx => hB2 x (List.mem_of_mem_take hx)⟩, by decide, by decide, by decide⟩, ⟨⟨.ref a, rfl, ?_⟩, rfl, trivial, trivial, trivial, trivial, trivial, trivial, trivial, trivial, trivial⟩⟩, hQ, fun _ _ _ _ z => z.elim⟩
  · have hz2 : z ∈ [p] := hz
    rw [List.mem_singleton.mp hz2]
    exact ⟨_, e3⟩
  · refine dp_mono (H := H1) (fun b o e => ?_) _ _ (dp_mono (H := H) (fun b o e => ?_) _ _ d0)
    · have nb : b ∉ [p] := fun z => by rw [List.mem_singleton.mp z, e1] at e; cases e
      show del [p] H2 b = some o
      rw [del_out nb]
      exact sm b o e
    · have k := n1.kp b o (by show del [] H b = some o; rw [dn]; exact e)
      rw [show del (mLaw [(P0, "law.<locals>.<lambda>")]).zs H1 = del [] H1 from rfl, dn] at k
      exact k
end
end Cv

set_option Elab.async false
set_option linter.all false
set_option maxRecDepth 100000
set_option maxHeartbeats 0
namespace Cv
open PySem PySem.Spec PyProof.Rows L2
def d_is_integer : He.DefD := ⟨("is_integer", none), "is_integer", "is_integer", defArgs (top 7), defBody (top 7), defScope (top 7), [], []⟩
def d_is_within : He.DefD := ⟨("is_within", none), "is_within", "is_within", defArgs (top 8), defBody (top 8), defScope (top 8), [], []⟩
def d_is_list : He.DefD := ⟨("is_list", none), "is_list", "is_list", defArgs (top 9), defBody (top 9), defScope (top 9), [], []⟩
def d_common : He.DefD := ⟨("common", none), "common", "common", defArgs (top 10), defBody (top 10), defScope (top 10), [], []⟩
def d_is_number : He.DefD := ⟨("is_number", none), "is_number", "is_number", defArgs (top 11), defBody (top 11), defScope (top 11), [], []⟩
def d_is_point : He.DefD := ⟨("is_point", none), "is_point", "is_point", defArgs (top 12), defBody (top 12), defScope (top 12), [], []⟩
def d_kept : He.DefD := ⟨("kept", none), "kept", "kept", defArgs (top 13), defBody (top 13), defScope (top 13), [], []⟩
def d_kept_row : He.DefD := ⟨("kept_row", none), "kept_row", "kept_row", defArgs (top 14), defBody (top 14), defScope (top 14), [], []⟩
def d_need_integer : He.DefD := ⟨("need_integer", none), "need_integer", "need_integer", defArgs (top 15), defBody (top 15), defScope (top 15), [], []⟩
def d_need_number : He.DefD := ⟨("need_number", none), "need_number", "need_number", defArgs (top 16), defBody (top 16), defScope (top 16), [], []⟩
def d_need_point : He.DefD := ⟨("need_point", none), "need_point", "need_point", defArgs (top 17), defBody (top 17), defScope (top 17), [], []⟩
def d_halves : He.DefD := ⟨("halves", none), "halves", "halves", defArgs (top 19), defBody (top 19), defScope (top 19), [], []⟩
def d_lowest : He.DefD := ⟨("lowest", none), "lowest", "lowest", defArgs (top 20), defBody (top 20), defScope (top 20), [], []⟩
def d_added : He.DefD := ⟨("added", none), "added", "added", defArgs (top 21), defBody (top 21), defScope (top 21), [], []⟩
def d_turned : He.DefD := ⟨("turned", none), "turned", "turned", defArgs (top 22), defBody (top 22), defScope (top 22), [], []⟩
def d_less_by : He.DefD := ⟨("less_by", none), "less_by", "less_by", defArgs (top 23), defBody (top 23), defScope (top 23), [], []⟩
def d_product : He.DefD := ⟨("product", none), "product", "product", defArgs (top 24), defBody (top 24), defScope (top 24), [], []⟩
def d_part_by : He.DefD := ⟨("part_by", none), "part_by", "part_by", defArgs (top 25), defBody (top 25), defScope (top 25), [], []⟩
def d_below : He.DefD := ⟨("below", none), "below", "below", defArgs (top 26), defBody (top 26), defScope (top 26), [], []⟩
def d_sign_in : He.DefD := ⟨("sign_in", none), "sign_in", "sign_in", defArgs (top 27), defBody (top 27), defScope (top 27), [], []⟩
def d_square : He.DefD := ⟨("square", none), "square", "square", defArgs (top 28), defBody (top 28), defScope (top 28), [], []⟩
def d_root_in : He.DefD := ⟨("root_in", none), "root_in", "root_in", defArgs (top 29), defBody (top 29), defScope (top 29), [], []⟩
def d_shifted : He.DefD := ⟨("shifted", none), "shifted", "shifted", defArgs (top 32), defBody (top 32), defScope (top 32), [], []⟩
def d_grown : He.DefD := ⟨("grown", none), "grown", "grown", defArgs (top 33), defBody (top 33), defScope (top 33), [], []⟩
def d_placed : He.DefD := ⟨("placed", none), "placed", "placed", defArgs (top 34), defBody (top 34), defScope (top 34), [], []⟩
def d_place_of : He.DefD := ⟨("place_of", none), "place_of", "place_of", defArgs (top 35), defBody (top 35), defScope (top 35), [], []⟩
def d_moved : He.DefD := ⟨("moved", none), "moved", "moved", defArgs (top 38), defBody (top 38), defScope (top 38), [], []⟩
def d_scaled : He.DefD := ⟨("scaled", none), "scaled", "scaled", defArgs (top 39), defBody (top 39), defScope (top 39), [], []⟩
def d_square_of : He.DefD := ⟨("square_of", none), "square_of", "square_of", defArgs (top 40), defBody (top 40), defScope (top 40), [], []⟩
def d_to_left : He.DefD := ⟨("to_left", none), "to_left", "to_left", defArgs (top 41), defBody (top 41), defScope (top 41), [], []⟩
def d_need_side : He.DefD := ⟨("need_side", none), "need_side", "need_side", defArgs (top 42), defBody (top 42), defScope (top 42), [He.Dv.str "side"], []⟩
def d_pins_of : He.DefD := ⟨("pins_of", none), "pins_of", "pins_of", defArgs (top 47), defBody (top 47), defScope (top 47), [], []⟩
def d_root_over : He.DefD := ⟨("root_over", none), "root_over", "root_over", defArgs (top 48), defBody (top 48), defScope (top 48), [], []⟩
def d_nine_places : He.DefD := ⟨("nine_places", none), "nine_places", "nine_places", defArgs (top 49), defBody (top 49), defScope (top 49), [], []⟩
def d_need_reach : He.DefD := ⟨("need_reach", none), "need_reach", "need_reach", defArgs (top 50), defBody (top 50), defScope (top 50), [], []⟩
def d_cell_places : He.DefD := ⟨("cell_places", none), "cell_places", "cell_places", defArgs (top 51), defBody (top 51), defScope (top 51), [], []⟩
def d_cell_parts : He.DefD := ⟨("cell_parts", none), "cell_parts", "cell_parts", defArgs (top 52), defBody (top 52), defScope (top 52), [], []⟩
def d__law_hoist : He.DefD := ⟨("_law_hoist", none), "_law_hoist", "_law_hoist", defArgs (top 54), defBody (top 54), defScope (top 54), [], []⟩
def d__law_winch : He.DefD := ⟨("_law_winch", none), "_law_winch", "_law_winch", defArgs (top 55), defBody (top 55), defScope (top 55), [], []⟩
def d__law_one : He.DefD := ⟨("_law_one", none), "_law_one", "_law_one", defArgs (top 56), defBody (top 56), defScope (top 56), [], []⟩
def d__law_low : He.DefD := ⟨("_law_low", none), "_law_low", "_law_low", defArgs (top 57), defBody (top 57), defScope (top 57), [], []⟩
def d__law_two : He.DefD := ⟨("_law_two", none), "_law_two", "_law_two", defArgs (top 58), defBody (top 58), defScope (top 58), [], []⟩
def d__law_sum : He.DefD := ⟨("_law_sum", none), "_law_sum", "_law_sum", defArgs (top 59), defBody (top 59), defScope (top 59), [], []⟩
def d__law_by : He.DefD := ⟨("_law_by", none), "_law_by", "_law_by", defArgs (top 60), defBody (top 60), defScope (top 60), [], []⟩
def d__law_less : He.DefD := ⟨("_law_less", none), "_law_less", "_law_less", defArgs (top 61), defBody (top 61), defScope (top 61), [], []⟩
def d__law_over : He.DefD := ⟨("_law_over", none), "_law_over", "_law_over", defArgs (top 62), defBody (top 62), defScope (top 62), [], []⟩
def d__law_is_below : He.DefD := ⟨("_law_is_below", none), "_law_is_below", "_law_is_below", defArgs (top 63), defBody (top 63), defScope (top 63), [], []⟩
def d__law_move : He.DefD := ⟨("_law_move", none), "_law_move", "_law_move", defArgs (top 64), defBody (top 64), defScope (top 64), [], []⟩
def d__law_scale : He.DefD := ⟨("_law_scale", none), "_law_scale", "_law_scale", defArgs (top 65), defBody (top 65), defScope (top 65), [], []⟩
def d__law_off : He.DefD := ⟨("_law_off", none), "_law_off", "_law_off", defArgs (top 66), defBody (top 66), defScope (top 66), [], []⟩
def d__law_way : He.DefD := ⟨("_law_way", none), "_law_way", "_law_way", defArgs (top 67), defBody (top 67), defScope (top 67), [], []⟩
def d__law_turn : He.DefD := ⟨("_law_turn", none), "_law_turn", "_law_turn", defArgs (top 68), defBody (top 68), defScope (top 68), [], []⟩
def d__law_whole_root : He.DefD := ⟨("_law_whole_root", none), "_law_whole_root", "_law_whole_root", defArgs (top 69), defBody (top 69), defScope (top 69), [], []⟩
def d__law_root : He.DefD := ⟨("_law_root", none), "_law_root", "_law_root", defArgs (top 70), defBody (top 70), defScope (top 70), [], []⟩
def d__law_place : He.DefD := ⟨("_law_place", none), "_law_place", "_law_place", defArgs (top 71), defBody (top 71), defScope (top 71), [], []⟩
def d__law_far : He.DefD := ⟨("_law_far", none), "_law_far", "_law_far", defArgs (top 72), defBody (top 72), defScope (top 72), [], []⟩
def d__law_in_midst : He.DefD := ⟨("_law_in_midst", none), "_law_in_midst", "_law_in_midst", defArgs (top 73), defBody (top 73), defScope (top 73), [], []⟩
def d__law_heard : He.DefD := ⟨("_law_heard", none), "_law_heard", "_law_heard", defArgs (top 74), defBody (top 74), defScope (top 74), [], []⟩
def d__law_number : He.DefD := ⟨("_law_number", none), "_law_number", "_law_number", defArgs (top 75), defBody (top 75), defScope (top 75), [], []⟩
def d__law_parts : He.DefD := ⟨("_law_parts", none), "_law_parts", "_law_parts", defArgs (top 76), defBody (top 76), defScope (top 76), [], []⟩
def d__law_nine : He.DefD := ⟨("_law_nine", none), "_law_nine", "_law_nine", defArgs (top 77), defBody (top 77), defScope (top 77), [], []⟩
def d__law_torn : He.DefD := ⟨("_law_torn", none), "_law_torn", "_law_torn", defArgs (top 78), defBody (top 78), defScope (top 78), [], []⟩
def d__law_parts_right : He.DefD := ⟨("_law_parts_right", none), "_law_parts_right", "_law_parts_right", defArgs (top 79), defBody (top 79), defScope (top 79), [], []⟩
def d_law : He.DefD := ⟨("law", none), "law", "law", defArgs (top 80), defBody (top 80), defScope (top 80), [], []⟩
def d_init : He.DefD := ⟨("BadNumber", some "__init__"), "__init__", "BadNumber.__init__", defArgs initS, defBody initS, defScope initS, [], []⟩
def fn : List He.DefD := [d_is_integer, d_is_within, d_is_list, d_common, d_is_number, d_is_point, d_kept, d_kept_row, d_need_integer, d_need_number, d_need_point, d_halves, d_lowest, d_added, d_turned, d_less_by, d_product, d_part_by, d_below, d_sign_in, d_square, d_root_in, d_shifted, d_grown, d_placed, d_place_of, d_moved, d_scaled, d_square_of, d_to_left, d_need_side, d_pins_of, d_root_over, d_nine_places, d_need_reach, d_cell_places, d_cell_parts, d__law_hoist, d__law_winch, d__law_one, d__law_low, d__law_two, d__law_sum, d__law_by, d__law_less, d__law_over, d__law_is_below, d__law_move, d__law_scale, d__law_off, d__law_way, d__law_turn, d__law_whole_root, d__law_root, d__law_place, d__law_far, d__law_in_midst, d__law_heard, d__law_number, d__law_parts, d__law_nine, d__law_torn, d__law_parts_right, d_law, d_init]
def fa : List He.Fa := [.glo "is_integer", .glo "is_within", .glo "is_list", .glo "common", .glo "is_number", .glo "is_point", .glo "kept", .glo "kept_row", .glo "need_integer", .glo "need_number", .glo "need_point", .glo "halves", .glo "lowest", .glo "added", .glo "turned", .glo "less_by", .glo "product", .glo "part_by", .glo "below", .glo "sign_in", .glo "square", .glo "root_in", .glo "shifted", .glo "grown", .glo "placed", .glo "place_of", .glo "moved", .glo "scaled", .glo "square_of", .glo "to_left", .glo "need_side", .glo "pins_of", .glo "root_over", .glo "nine_places", .glo "need_reach", .glo "cell_places", .glo "cell_parts", .glo "_law_hoist", .glo "_law_winch", .glo "_law_one", .glo "_law_low", .glo "_law_two", .glo "_law_sum", .glo "_law_by", .glo "_law_less", .glo "_law_over", .glo "_law_is_below", .glo "_law_move", .glo "_law_scale", .glo "_law_off", .glo "_law_way", .glo "_law_turn", .glo "_law_whole_root", .glo "_law_root", .glo "_law_place", .glo "_law_far", .glo "_law_in_midst", .glo "_law_heard", .glo "_law_number", .glo "_law_parts", .glo "_law_nine", .glo "_law_torn", .glo "_law_parts_right", .glo "law", .glo "CurveError", .glo "BadNumber", .glo "NONE", .glo "HALF", .glo "SHORT", .glo "LONG", .glo "LOCK", .free "isinstance", .free "int", .free "bool", .free "list", .free "tuple", .free "abs", .free "len", .free "all", .free "min", .free "max", .free "sorted", .free "dict", .free "zip", .free "range", .free "repr"]
def tupAt (K : PySem.W.Frag) (a : Addr) (vs : List V) : Bool := match K.lookup a with
  | some ⟨.type c, _, .seq its _, _⟩ => decide (c = "tuple") && (decide (its.size ≤ sizeLine) && He.relAll vs its.toList)
  | _ => false
def itemAt (K : PySem.W.Frag) (a : Addr) (i : Nat) : Addr := match K.lookup a with
  | some ⟨_, _, .seq its _, _⟩ => (match its.toList[i]? with
    | some (.ref b) => b
    | _ => 0)
  | _ => 0
def oexB (K : PySem.W.Frag) (C : Addr) : Bool := match K.lookup C with
  | some ⟨.type t, _, .cls cd, sl⟩ => decide (t = "type") && (match cd.mro, sl.toList with
    | .ref C' :: bm, [_, _, _, _, some (.builtin n), _] => decide (C' = C) && (decide (n = "ValueError.__new__") && (!cd.hasDel && (cd.hasDict && PySem.HandSPX.refsVE bm)))
    | _, _ => false)
  | _ => false
abbrev aCE (K : PySem.W.Frag) : Addr := He.ga K "CurveError"
abbrev aBN (K : PySem.W.Frag) : Addr := He.ga K "BadNumber"
abbrev aI (K : PySem.W.Frag) : Addr := He.ma K (He.ga K "BadNumber") "__init__"
def exL (K : PySem.W.Frag) : List Bool := [
  oexB K (aBN K),
  He.eqO (PySem.W.findIn K (.ref (aBN K)) "__setattr__") (some (some (.builtin "object.__setattr__"))),
  decide (PySem.W.subIn K (.ref (aBN K)) (.type "BaseException") = some true),
  decide (PySem.W.typeIn K (.ref (aBN K)) = some (.type "type")),
  PySem.W.keepIn K (.ref (aBN K)),
  He.eqO (PySem.W.findIn K (.ref (aBN K)) "part") (some none),
  He.eqO (PySem.W.findIn K (.ref (aBN K)) "__init__") (some (some (.ref (aI K)))),
  decide (PySem.W.typeIn K (.ref (aI K)) = some (.type "function")),
  He.eqO (PySem.W.specialIn K (.ref (aCE K)) "__getattribute__") (some (some (.builtin "type.__getattribute__"))),
  decide (PySem.W.typeIn K (.ref (aCE K)) = some (.type "type")),
  PySem.W.readsIn K (aCE K) (.type "type"),
  (match PySem.W.findCls K (.ref (aCE K)) (.type "type") "__init__" with
    | some (.val v) => decide (v = .builtin "ValueError.__init__")
    | _ => false),
  decide (PySem.W.exmOne K (.ref (aBN K)) (.ref (aCE K)) = some true),
  decide (PySem.W.kitOne K (.ref (aBN K)) (.ref (aBN K)) = some true),
  He.eqO (PySem.W.findIn K (.ref (aBN K)) "__getattribute__") (some (some (.builtin "BaseException.__getattribute__"))),
  He.eqO (PySem.W.findIn K (.ref (aBN K)) "__getattr__") (some none),
  PySem.W.hasDictIn K (aBN K),
  He.eqO (PySem.W.findIn K (.ref (aBN K)) "__class__") (some (some (.builtin "object.__class__"))),
  He.eqO (PySem.W.specialIn K (.builtin "object.__class__") "__get__") (some (some (.builtin "getset_descriptor.__get__"))),
  decide (PySem.W.takesIn K (.builtin "object.__class__") = some true),
  decide (PySem.W.mroIn K (aBN K) (.type "object") = some true),
  tupAt K (He.ga K "NONE") [.int 0, .int 0],
  tupAt K (He.ga K "HALF") [.int 1, .int 2],
  tupAt K (He.ga K "SHORT") [.int 3, .int 2],
  tupAt K (He.ga K "LONG") [.int 5, .int 2],
  tupAt K (He.ga K "LOCK") [.ref (itemAt K (He.ga K "LOCK") 0), .ref (itemAt K (He.ga K "LOCK") 1)],
  tupAt K (itemAt K (He.ga K "LOCK") 0) [.int 17, .int 8],
  tupAt K (itemAt K (He.ga K "LOCK") 1) [.int 15, .int 8],
  He.eqO (PySem.W.nsIn K mainGlobals "isqrt") (some (some (.builtin "math.isqrt")))]
def exB (K : PySem.W.Frag) : Bool := (exL K).all id
abbrev R : PySem.W.OpenRow := PySem.W.OpenLaw.row PySem.Challenge.rw_typedcurve_k50_whole_cells_bar_what_is_o
section
variable {fa : List He.Fa} {fn : List He.DefD} {tf : List He.Defn} {ex : PySem.W.Frag → Bool}
/-- where the hook looks: the first cells of the heap (the top ends with 549 of them) -/
def asY (_ : Addr → Option Obj) (_ : Nat) : List Addr := List.range 549
def obsY (fa : List He.Fa) (fn : List He.DefD) (tf : List He.Defn) (ex : PySem.W.Frag → Bool) (g : Addr → Option Obj) : He.AlX := (He.obsT fa fn [] (He.frT g (asY g 5)), ex (He.frT g (asY g 5)) && He.tabsB g tf (He.frT g (asY g 5)))
theorem saysY_of {w : World} {h : Heap} (e : obsY fa fn tf ex h.get? = He.valX fn [] w) : He.SaysX fa fn [] tf ex w h (He.frT h.get? (asY h.get? 5)) := by
  have e1 : He.obsT fa fn [] (He.frT h.get? (asY h.get? 5)) = He.valT fn [] w := congrArg (fun z : He.AlX => z.1) e
  have e2 : (ex (He.frT h.get? (asY h.get? 5)) && He.tabsB h.get? tf (He.frT h.get? (asY h.get? 5))) = true := congrArg (fun z : He.AlX => z.2) e
  generalize hK : He.frT h.get? (asY h.get? 5) = K at *
  obtain ⟨h1, h2⟩ := Bool.and_eq_true_iff.mp e2
  have h3 := List.all_eq_true.mp h2
  have key : ∀ p ∈ tf, PySem.W.codeHdIn K (He.cT K p).1 (He.cT K p).2 = true ∧ ∃ o, h.get? (He.cT K p).2 = some o ∧ He.emptyTab o = true := fun p hp => by
    obtain ⟨h4, h5⟩ := Bool.and_eq_true_iff.mp (h3 p hp)
    refine ⟨h4, ?_⟩
    split at h5
    · rename_i o ho
      exact ⟨o, ho, h5⟩
    · cases h5
  refine ⟨e1, h1, fun p hp => (key p hp).1, fun p hp => ?_, fun p hp => ?_⟩
  · obtain ⟨_, o, q, z⟩ := key p hp
    rw [← hK]
    rw [← hK] at q
    exact He.frT_none q z
  · obtain ⟨_, o, q, z⟩ := key p hp
    rw [q, He.emptyTab_eq z]
def hookY (fa : List He.Fa) (fn : List He.DefD) (tf : List He.Defn) (ex : PySem.W.Frag → Bool) : PySem.W.Hook where
  α := He.AlX
  obs := fun s => obsY fa fn tf ex s.heap.get?
  val := fun w => He.valX fn [] w
  says := fun w h => ∃ K : PySem.W.Frag, K.In h ∧ He.SaysX fa fn [] tf ex w h K
  of := fun w s e => ⟨He.frT s.heap.get? (asY s.heap.get? 5), He.frT_in, saysY_of e⟩
  keeps := fun _ _ _ ⟨K, hK, c⟩ k => ⟨K, PySem.W.Frag.In.keeps hK k, ⟨c.t, c.more, c.hd, c.out, fun p hp => k _ _ (c.empty p hp)⟩⟩
end
abbrev hk : PySem.W.Hook := hookY fa fn [("law", none)] exB
def ob (s : PySem.W.SharedT) : He.AlX := obsY fa fn [("law", none)] exB (HandSHeadRun.getT s)
def names : List Str := (["isqrt", "CurveError", "BadNumber", "BadPoint", "Misfit", "is_integer", "is_within", "is_list", "common", "is_number", "is_point", "kept", "kept_row", "need_integer", "need_number", "need_point"] : List Str) ++ (["halves", "lowest", "added", "turned", "less_by", "product", "part_by", "below", "sign_in", "square", "root_in", "NONE", "shifted", "grown", "placed", "place_of"] : List Str) ++ (["HALF", "moved", "scaled", "square_of", "to_left", "need_side", "SHORT", "LONG", "LOCK", "pins_of", "root_over", "nine_places", "need_reach", "cell_places", "cell_parts", "_law_hoist"] : List Str) ++ (["_law_winch", "_law_one", "_law_low", "_law_two", "_law_sum", "_law_by", "_law_less", "_law_over", "_law_is_below", "_law_move", "_law_scale", "_law_off", "_law_way", "_law_turn", "_law_whole_root", "_law_root"] : List Str) ++ (["_law_place", "_law_far", "_law_in_midst", "_law_heard", "_law_number", "_law_parts", "_law_nine", "_law_torn", "_law_parts_right"] : List Str)
/-! ### the run, read in two pieces: the kernel holds one at a time -/
theorem comb {β σ τ : Type} {F : Option β} {l : β → Bool} {s : β → σ} {f : β → τ} {vs : σ} {vt : τ} (h1 : F.map (fun x => (l x, s x)) = some (true, vs)) (h2 : F.map f = some vt) : F.map (fun x => (l x, s x, f x)) = some (true, vs, vt) := by
  cases F with
  | none => cases h1
  | some x =>
    have e1 := Option.some.inj h1
    have e6 := congrArg (fun z : Bool × σ => z.1) e1
    have e7 := congrArg (fun z : Bool × σ => z.2) e1
    exact congrArg some (congr (congrArg Prod.mk e6) (congr (congrArg Prod.mk e7) (Option.some.inj h2)))
noncomputable abbrev runW (w : World) : Option (Shared × PySem.W.SharedT) := HandSHeadRun.wholeF (fun p => HandSHeadRun.stepQ (HandSHeadRun.denQ HandSHeadRun.tabQ) p w) HandSHeadRun.fenceQ 12000 R.prog
abbrev Q : Program := PySem.W.view R.prog [0, 80]
open PySem.W HandSHeadRun in
theorem run1 (w : World) : (runW w).map (fun x => (looksF R.prog x.1.heap x.2.abs, HandSHeadRun.seenQ Q names (importedModules R.prog.main.body) (fun s => xlAt Q [] s && recOk R.toRowW.records s) x.2.abs)) = some (true, openGood Q names) := by kernel_rfl
theorem run2 (w : World) : (runW w).map (fun x => ob x.2) = some (hk.val w) := by kernel_rfl
theorem run (w : World) : HandSHeadRun.RunEqI R Q hk ob 12000 names w := comb (run1 w) (run2 w)
end Cv

set_option Elab.async false
set_option linter.all false
set_option maxRecDepth 100000
set_option maxHeartbeats 2000000
/-! The law called by its caller. -/
namespace Cv
open PySem PySem.Spec PyProof.Rows L2
open LamX (TabB)
/-- the script, as it lies on the heap -/
def scrO (vs : List Value) : Obj := { cls := .type "list", data := .seq vs.toArray }
def tabO : Obj := { cls := .none, data := .fields #[] }
/-- what is tracked at the start: the law's table and, unless it is written, the script -/
def H0 (K : PySem.W.Frag) (a P0 : Addr) (vs : List Value) (ns : List Int) : Hp := fun b =>
  if b = P0 then some (.tbl #[]) else if b = a ∧ K.lookup a = none then some (.frz (scrO vs) (.lst (ns.map V.int))) else none
section
variable {P : Program} {w : World} {K : PySem.W.Frag} {a P0 : Addr} {vs : List Value} {ns : List Int} {h : Heap}
theorem h0_in {b : Addr} {u : HO} (e : H0 K a P0 vs ns b = some u) : (b = P0 ∧ u = .tbl #[]) ∨ (b = a ∧ K.lookup a = none ∧ u = .frz (scrO vs) (.lst (ns.map V.int))) := by
  unfold H0 at e
  by_cases h1 : b = P0
  · rw [if_pos h1] at e
    exact .inl ⟨h1, (Option.some.inj e).symm⟩
  · rw [if_neg h1] at e
    by_cases h2 : b = a ∧ K.lookup a = none
    · rw [if_pos h2] at e
      exact .inr ⟨h2.1, h2.2, (Option.some.inj e).symm⟩
    · rw [if_neg h2] at e
      cases e
theorem h0_P : H0 K a P0 vs ns P0 = some (.tbl #[]) := if_pos rfl
theorem h0_out {b : Addr} (h1 : b ≠ P0) (h2 : b ≠ a ∨ ∃ o, K.lookup a = some o) : H0 K a P0 vs ns b = none := by
  cases e : H0 K a P0 vs ns b with
  | none => rfl
  | some u =>
    rcases h0_in e with ⟨z, _⟩ | ⟨z, y, _⟩
    · exact absurd z h1
    · rcases h2 with q | ⟨o, q⟩
      · exact absurd z q
      · rw [y] at q
        cases q
theorem h0_seq (KX : K.In h) (ne : a ≠ P0) (ha : h.get? a = some (scrO vs)) (hi : IntsAre vs ns) (hl : ns.length ≤ sizeLine) : SqL K (H0 K a P0 vs ns) a (ns.map V.int) := by
  cases hk : K.lookup a with
  | some o =>
    have e := KX a o hk
    rw [ha] at e
    cases e
    exact .inr ⟨_, vs.toArray, _, hk, rfl, rfl, rfl, by rw [List.size_toArray, hi.length]; exact hl, by simpa using vals_ints hi⟩
  | none => exact .inl (.inr ⟨scrO vs, by unfold H0; rw [if_neg ne, if_pos ⟨rfl, hk⟩]⟩)
theorem h0_ok (hT : h.get? P0 = some tabO) (ha : h.get? a = some (scrO vs)) (hi : IntsAre vs ns) (hl : ns.length ≤ sizeLine) : HOk P w (H0 K a P0 vs ns) h := fun b u z => by
  rcases h0_in z with ⟨rfl, rfl⟩ | ⟨rfl, _, rfl⟩
  · exact hT
  · exact ⟨ha, by rw [List.length_map]; exact hl, vs, _, vals_ints hi, ha⟩
/-- the law is called -/
theorem law_callG {mg mb : Str → Option Value} {k : Nat} {fa c : Addr} {fd : FuncData} {x : Str} {sp : Sp} {s : Shared}
    (KX : K.In s.heap) (hns : s.heap.Ns mainGlobals mg) (hb : s.heap.Ns builtinsNs mb) (hbb : ∀ x : Str, x ≠ "__name__" → mb x = bootBuiltins x) (hlim : s.heap.NoLimit) (hg : s.gens = #[])
    (hT : s.heap.get? P0 = some tabO) (nT : K.lookup P0 = none) (C : PySem.W.CodeHd s.heap c P0)
    (hbm : ∃ (bm : Addr) (ob : Obj), mg "__builtins__" = some (.ref bm) ∧ bm ≠ builtinsNs ∧ s.heap.get? bm = some ob ∧ ob.cls = .type "module" ∧ ob.dict = some builtinsNs ∧ ob.data = .plain)
    (ha : s.heap.get? a = some (scrO vs)) (hi : IntsAre vs ns) (hl : ns.length ≤ sizeLine) (hr : Room k callerA)
    (F : ∀ base : Heap, K.In base → base.Ns mainGlobals mg → TabB base mg c P0 → FnG P w K mg base k fa fd [x] sp) (hbind : ∀ (s : Shared) (u : Value), BindsTo s fd ⟨[u], []⟩ [(x, u)])
    (hsp : ∀ H : Hp, H P0 = some (.tbl #[]) → SqL K H a (ns.map V.int) → sp [.ref a] H (fun v _ => v = .bl true) E0) :
    codeAny (model P w) callerA (.call (.ref fa) ⟨[.ref a], []⟩) (fun r s' => r = .ok (.ret (.bool true)) ∧ OldK s.heap s'.heap ∧ s'.os = s.os ∧ AllBare s'.gens) s := by
  have ne : a ≠ P0 := fun z => by
    rw [z, hT] at ha
    cases ha
  have free : ∀ {b : Addr} {o : Obj}, s.heap.get? b = some o → o ≠ tabO → o ≠ scrO vs → H0 K a P0 vs ns b = none := fun {b o} e h1 h2 => h0_out (fun z => by
    rw [z, hT] at e
    exact h1 (Option.some.inj e).symm) (.inl fun z => by
    rw [z, ha] at e
    exact h2 (Option.some.inj e).symm)
  have keepB : ∀ {b : Addr} {o : Obj}, s.heap.get? b = some o → o ≠ tabO → o ≠ scrO vs → (hidT s.heap (H0 K a P0 vs ns)).get? b = some o := fun e h1 h2 => hidT_get e (free e h1 h2)
  have dicN : ∀ {o : Obj} {es : Array DictEntry} {ep : Nat}, o.data = .dict es ep → o ≠ tabO ∧ o ≠ scrO vs := fun {o es ep} d => ⟨fun z => (by rw [z] at d; cases d), fun z => (by rw [z] at d; cases d)⟩
  have nsK : ∀ {b : Addr} {m : Str → Option Value}, s.heap.Ns b m → (hidT s.heap (H0 K a P0 vs ns)).Ns b m := fun ⟨o, es, ep, e, d, r⟩ => ⟨o, es, ep, keepB e (dicN d).1 (dicN d).2, d, r⟩
  have hKb : K.In (hidT s.heap (H0 K a P0 vs ns)) := fun b o e => hidT_get (KX b o e) (h0_out (fun z => by
    rw [z, nT] at e
    cases e) (by
    by_cases z : b = a
    · exact .inr ⟨o, by rw [← z]; exact e⟩
    · exact .inl z))
  have hM : L2.Mod K mg (hidT s.heap (H0 K a P0 vs ns)) := ⟨hKb, nsK hns, ⟨mb, nsK hb, hbb⟩, let ⟨mc, h1, h2⟩ := hlim; ⟨mc, nsK h1, h2⟩⟩
  have TB : TabB (hidT s.heap (H0 K a P0 vs ns)) mg c P0 := by
    refine ⟨?_, ?_, fun z => ?_⟩
    · obtain ⟨o, us, file, tf, flags, tg, inF, text, tt, e1, r1, r2, r3, r4, r5, r6, r7, r8, hne⟩ := C
      exact ⟨o, us, file, tf, flags, tg, inF, text, tt, keepB e1 (fun z => by rw [z] at r1; cases r1) (fun z => by rw [z] at r2; cases r2), r1, r2, r3, r4, r5, r6, r7, r8, hne⟩
    · obtain ⟨bm, ob, b1, b2, b3, b4, b5, b6⟩ := hbm
      refine ⟨bm, ob, b1, b2, fun q => ?_, fun q => ?_, keepB b3 (fun z => by rw [z] at b6; cases b6) (fun z => by rw [z] at b6; cases b6), b4, b5, b6⟩
      · obtain ⟨o, es, ep, e, hd, _⟩ := hns
        rw [q, e] at b3
        cases b3
        rw [hd] at b6
        cases b6
      · rw [q, hT] at b3
        cases b3
        cases b6
    · obtain ⟨o, es, ep, e, hd, _⟩ := hns
      rw [z, hT] at e
      cases e
      cases hd
  have e0 : Env0 P w K mg (hidT s.heap (H0 K a P0 vs ns)) callerA [] s (H0 K a P0 vs ns) := ⟨rfl, hM, fun b o e => of_hidT e, Nat.le_of_eq (hidT_size _ _), trivial, fun b hb => absurd (show b ∈ ([] : List Addr) from hb) (by simp), h0_ok hT ha hi hl, .of_eq hg⟩
  refine codeAny_mono ((F _ hKb (nsK hns) TB).run callerA [] s (H0 K a P0 vs ns) ⟨[.ref a], []⟩ [.ref a] [.ref a] _ _ rfl hr e0 (hbind s (.ref a)) (.cons rfl .nil) (hsp _ h0_P (h0_seq KX ne ha hi hl))) fun r s' h => ?_
  cases r with
  | error e => exact h.elim
  | ok fl =>
    cases fl with
    | next => exact False.elim h
    | brk => exact False.elim h
    | cont => exact False.elim h
    | ret u =>
      obtain ⟨v, H', os, bare, un, hok', r', q⟩ := h
      have q' : v = .bl true := q
      subst q'
      obtain rfl : u = Value.bool true := r'
      obtain ⟨more, z⟩ := un.tbls P0 #[] h0_P
      have hm : s'.heap.get? P0 = some { cls := .none, data := .fields (#[] ++ more) } := hok' P0 _ z
      have key : ∀ b o, b ≠ P0 → s.heap.get? b = some o → s'.heap.get? b = some o := fun b o nb e => by
        cases q : H0 K a P0 vs ns b with
        | none => exact un.keep b o e q (by intro z; exact absurd (show b ∈ ([] : List Addr) from z) (by simp)) (by simp)
        | some u =>
          rcases h0_in q with ⟨z, _⟩ | ⟨_, _, rfl⟩
          · exact absurd z nb
          · obtain ⟨e1, _⟩ := h0_ok (P := P) (w := w) (K := K) hT ha hi hl b _ q
            obtain ⟨e2, _⟩ := hok' b _ (un.frzs b _ _ q)
            rw [e] at e1
            cases e1
            exact e2
      refine ⟨rfl, ⟨fun b o e => ?_, fun b o e => ?_⟩, os, bare⟩
      · by_cases nb : b = P0
        · rw [nb] at e ⊢
          rw [hT] at e
          cases e
          exact .inr (.inl ⟨(C.tab hT).isCodeTable, rfl, #[], more, rfl, hm⟩)
        · exact .inl (key b o nb e)
      · by_cases nb : b = P0
        · rw [nb]
          exact ⟨_, hm⟩
        · exact ⟨o, key b o nb e⟩
end
end Cv

set_option Elab.async false
set_option linter.all false
set_option maxRecDepth 100000
set_option maxHeartbeats 2000000
/-! The facts of the head; the end. -/
namespace Cv
open PySem PySem.Spec PyProof.Rows L2
section
variable {K : PySem.W.Frag} {h : Heap} {mg : Str → Option Value} {w : World}
theorem tx1 {x : Str} {i : Nat} (F : ∃ fd, FunD K x x (defArgs (top i)) (defBody (top i)) (defScope (top i)) [] [] (He.ga K x) fd) (G : mg x = some (.ref (He.ga K x))) : Tx K mg i x top := let ⟨fd, F⟩ := F; ⟨_, fd, F, G⟩
theorem tupAt_ok {a : Addr} {vs : List V} (e : tupAt K a vs = true) (H : Hp) : SqT K H a vs := by
  unfold tupAt at e
  split at e
  · rename_i c od its n sl q
    obtain ⟨h1, h2⟩ := Bool.and_eq_true_iff.mp e
    obtain ⟨h3, h4⟩ := Bool.and_eq_true_iff.mp h2
    exact .inr ⟨_, its, n, q, congrArg Value.type (of_decide_eq_true h1), rfl, of_decide_eq_true h3, He.relAll_ok h4⟩
  · cases e
theorem tup2 {a : Addr} {i j : Int} (e : tupAt K a [.int i, .int j] = true) (H : Hp) : Dp K H (.ref a) (.tuple [.int i, .int j]) := .tup (tupAt_ok e H) (.cons (.int _) (.cons (.int _) .nil))
theorem ex_at (c : exB K = true) (i : Nat) {b : Bool} (e : (exL K)[i]? = some b) : b = true := List.all_eq_true.mp c b (List.mem_of_getElem? e)
theorem oexB_ok {C : Addr} (e : oexB K C = true) : ∃ nm q N bs bm sn sub ab col dd k0 k1 k2 k3 k5, K.lookup C = some (excClassObj nm q C N bs bm true sn sub ab col dd k0 k1 k2 k3 k5 "ValueError.__new__") ∧ PySem.HandSPX.refsVE bm = true := by
  unfold oexB at e
  split at e
  · rename_i t dd cd sl q
    obtain ⟨h1, h2⟩ := Bool.and_eq_true_iff.mp e
    have ht := of_decide_eq_true h1
    subst ht
    split at h2
    · rename_i C' bm k0 k1 k2 k3 n k5 hm hs
      simp only [Bool.and_eq_true, decide_eq_true_eq, Bool.not_eq_true'] at h2
      obtain ⟨rfl, rfl, hdel, hdd, hr⟩ := h2
      obtain ⟨nm, bs, mro, ns, qn, hd, sn, sub, ab, col, del⟩ := cd
      dsimp only at hm hdel hdd
      subst hm hdel hdd
      have hsl : sl = #[k0, k1, k2, k3, some (.builtin "ValueError.__new__"), k5] := by
        obtain ⟨l⟩ := sl
        simp only at hs
        rw [hs]
      subst hsl
      exact ⟨nm, qn, ns, bs, bm, sn, sub, ab, col, dd, k0, k1, k2, k3, k5, q, hr⟩
    · cases h2
  · cases e
theorem says_txt (KX : K.In h) (G : h.Ns mainGlobals mg) (c : He.SaysX fa fn [] [("law", none)] exB w h K) : Txt K mg where
  t_is_integer := tx1 (c.t.d.def_ 0 (d := d_is_integer)) (He.glo_ok KX G (c.t.d.fact 0 (f := .glo "is_integer")))
  t_is_within := tx1 (c.t.d.def_ 1 (d := d_is_within)) (He.glo_ok KX G (c.t.d.fact 1 (f := .glo "is_within")))
  t_is_list := tx1 (c.t.d.def_ 2 (d := d_is_list)) (He.glo_ok KX G (c.t.d.fact 2 (f := .glo "is_list")))
  t_common := tx1 (c.t.d.def_ 3 (d := d_common)) (He.glo_ok KX G (c.t.d.fact 3 (f := .glo "common")))
  t_is_number := tx1 (c.t.d.def_ 4 (d := d_is_number)) (He.glo_ok KX G (c.t.d.fact 4 (f := .glo "is_number")))
  t_is_point := tx1 (c.t.d.def_ 5 (d := d_is_point)) (He.glo_ok KX G (c.t.d.fact 5 (f := .glo "is_point")))
  t_kept := tx1 (c.t.d.def_ 6 (d := d_kept)) (He.glo_ok KX G (c.t.d.fact 6 (f := .glo "kept")))
  t_kept_row := tx1 (c.t.d.def_ 7 (d := d_kept_row)) (He.glo_ok KX G (c.t.d.fact 7 (f := .glo "kept_row")))
  t_need_integer := tx1 (c.t.d.def_ 8 (d := d_need_integer)) (He.glo_ok KX G (c.t.d.fact 8 (f := .glo "need_integer")))
  t_need_number := tx1 (c.t.d.def_ 9 (d := d_need_number)) (He.glo_ok KX G (c.t.d.fact 9 (f := .glo "need_number")))
  t_need_point := tx1 (c.t.d.def_ 10 (d := d_need_point)) (He.glo_ok KX G (c.t.d.fact 10 (f := .glo "need_point")))
  t_halves := tx1 (c.t.d.def_ 11 (d := d_halves)) (He.glo_ok KX G (c.t.d.fact 11 (f := .glo "halves")))
  t_lowest := tx1 (c.t.d.def_ 12 (d := d_lowest)) (He.glo_ok KX G (c.t.d.fact 12 (f := .glo "lowest")))
  t_added := tx1 (c.t.d.def_ 13 (d := d_added)) (He.glo_ok KX G (c.t.d.fact 13 (f := .glo "added")))
  t_turned := tx1 (c.t.d.def_ 14 (d := d_turned)) (He.glo_ok KX G (c.t.d.fact 14 (f := .glo "turned")))
  t_less_by := tx1 (c.t.d.def_ 15 (d := d_less_by)) (He.glo_ok KX G (c.t.d.fact 15 (f := .glo "less_by")))
  t_product := tx1 (c.t.d.def_ 16 (d := d_product)) (He.glo_ok KX G (c.t.d.fact 16 (f := .glo "product")))
  t_part_by := tx1 (c.t.d.def_ 17 (d := d_part_by)) (He.glo_ok KX G (c.t.d.fact 17 (f := .glo "part_by")))
  t_below := tx1 (c.t.d.def_ 18 (d := d_below)) (He.glo_ok KX G (c.t.d.fact 18 (f := .glo "below")))
  t_sign_in := tx1 (c.t.d.def_ 19 (d := d_sign_in)) (He.glo_ok KX G (c.t.d.fact 19 (f := .glo "sign_in")))
  t_square := tx1 (c.t.d.def_ 20 (d := d_square)) (He.glo_ok KX G (c.t.d.fact 20 (f := .glo "square")))
  t_root_in := tx1 (c.t.d.def_ 21 (d := d_root_in)) (He.glo_ok KX G (c.t.d.fact 21 (f := .glo "root_in")))
  t_shifted := tx1 (c.t.d.def_ 22 (d := d_shifted)) (He.glo_ok KX G (c.t.d.fact 22 (f := .glo "shifted")))
  t_grown := tx1 (c.t.d.def_ 23 (d := d_grown)) (He.glo_ok KX G (c.t.d.fact 23 (f := .glo "grown")))
  t_placed := tx1 (c.t.d.def_ 24 (d := d_placed)) (He.glo_ok KX G (c.t.d.fact 24 (f := .glo "placed")))
  t_place_of := tx1 (c.t.d.def_ 25 (d := d_place_of)) (He.glo_ok KX G (c.t.d.fact 25 (f := .glo "place_of")))
  t_moved := tx1 (c.t.d.def_ 26 (d := d_moved)) (He.glo_ok KX G (c.t.d.fact 26 (f := .glo "moved")))
  t_scaled := tx1 (c.t.d.def_ 27 (d := d_scaled)) (He.glo_ok KX G (c.t.d.fact 27 (f := .glo "scaled")))
  t_square_of := tx1 (c.t.d.def_ 28 (d := d_square_of)) (He.glo_ok KX G (c.t.d.fact 28 (f := .glo "square_of")))
  t_to_left := tx1 (c.t.d.def_ 29 (d := d_to_left)) (He.glo_ok KX G (c.t.d.fact 29 (f := .glo "to_left")))
  t_pins_of := tx1 (c.t.d.def_ 31 (d := d_pins_of)) (He.glo_ok KX G (c.t.d.fact 31 (f := .glo "pins_of")))
  t_root_over := tx1 (c.t.d.def_ 32 (d := d_root_over)) (He.glo_ok KX G (c.t.d.fact 32 (f := .glo "root_over")))
  t_nine_places := tx1 (c.t.d.def_ 33 (d := d_nine_places)) (He.glo_ok KX G (c.t.d.fact 33 (f := .glo "nine_places")))
  t_need_reach := tx1 (c.t.d.def_ 34 (d := d_need_reach)) (He.glo_ok KX G (c.t.d.fact 34 (f := .glo "need_reach")))
  t_cell_places := tx1 (c.t.d.def_ 35 (d := d_cell_places)) (He.glo_ok KX G (c.t.d.fact 35 (f := .glo "cell_places")))
  t_cell_parts := tx1 (c.t.d.def_ 36 (d := d_cell_parts)) (He.glo_ok KX G (c.t.d.fact 36 (f := .glo "cell_parts")))
  t__law_hoist := tx1 (c.t.d.def_ 37 (d := d__law_hoist)) (He.glo_ok KX G (c.t.d.fact 37 (f := .glo "_law_hoist")))
  t__law_winch := tx1 (c.t.d.def_ 38 (d := d__law_winch)) (He.glo_ok KX G (c.t.d.fact 38 (f := .glo "_law_winch")))
  t__law_one := tx1 (c.t.d.def_ 39 (d := d__law_one)) (He.glo_ok KX G (c.t.d.fact 39 (f := .glo "_law_one")))
  t__law_low := tx1 (c.t.d.def_ 40 (d := d__law_low)) (He.glo_ok KX G (c.t.d.fact 40 (f := .glo "_law_low")))
  t__law_two := tx1 (c.t.d.def_ 41 (d := d__law_two)) (He.glo_ok KX G (c.t.d.fact 41 (f := .glo "_law_two")))
  t__law_sum := tx1 (c.t.d.def_ 42 (d := d__law_sum)) (He.glo_ok KX G (c.t.d.fact 42 (f := .glo "_law_sum")))
  t__law_by := tx1 (c.t.d.def_ 43 (d := d__law_by)) (He.glo_ok KX G (c.t.d.fact 43 (f := .glo "_law_by")))
  t__law_less := tx1 (c.t.d.def_ 44 (d := d__law_less)) (He.glo_ok KX G (c.t.d.fact 44 (f := .glo "_law_less")))
  t__law_over := tx1 (c.t.d.def_ 45 (d := d__law_over)) (He.glo_ok KX G (c.t.d.fact 45 (f := .glo "_law_over")))
  t__law_is_below := tx1 (c.t.d.def_ 46 (d := d__law_is_below)) (He.glo_ok KX G (c.t.d.fact 46 (f := .glo "_law_is_below")))
  t__law_move := tx1 (c.t.d.def_ 47 (d := d__law_move)) (He.glo_ok KX G (c.t.d.fact 47 (f := .glo "_law_move")))
  t__law_scale := tx1 (c.t.d.def_ 48 (d := d__law_scale)) (He.glo_ok KX G (c.t.d.fact 48 (f := .glo "_law_scale")))
  t__law_off := tx1 (c.t.d.def_ 49 (d := d__law_off)) (He.glo_ok KX G (c.t.d.fact 49 (f := .glo "_law_off")))
  t__law_way := tx1 (c.t.d.def_ 50 (d := d__law_way)) (He.glo_ok KX G (c.t.d.fact 50 (f := .glo "_law_way")))
  t__law_turn := tx1 (c.t.d.def_ 51 (d := d__law_turn)) (He.glo_ok KX G (c.t.d.fact 51 (f := .glo "_law_turn")))
  t__law_whole_root := tx1 (c.t.d.def_ 52 (d := d__law_whole_root)) (He.glo_ok KX G (c.t.d.fact 52 (f := .glo "_law_whole_root")))
  t__law_root := tx1 (c.t.d.def_ 53 (d := d__law_root)) (He.glo_ok KX G (c.t.d.fact 53 (f := .glo "_law_root")))
  t__law_place := tx1 (c.t.d.def_ 54 (d := d__law_place)) (He.glo_ok KX G (c.t.d.fact 54 (f := .glo "_law_place")))
  t__law_far := tx1 (c.t.d.def_ 55 (d := d__law_far)) (He.glo_ok KX G (c.t.d.fact 55 (f := .glo "_law_far")))
  t__law_in_midst := tx1 (c.t.d.def_ 56 (d := d__law_in_midst)) (He.glo_ok KX G (c.t.d.fact 56 (f := .glo "_law_in_midst")))
  t__law_heard := tx1 (c.t.d.def_ 57 (d := d__law_heard)) (He.glo_ok KX G (c.t.d.fact 57 (f := .glo "_law_heard")))
  t__law_number := tx1 (c.t.d.def_ 58 (d := d__law_number)) (He.glo_ok KX G (c.t.d.fact 58 (f := .glo "_law_number")))
  t__law_parts := tx1 (c.t.d.def_ 59 (d := d__law_parts)) (He.glo_ok KX G (c.t.d.fact 59 (f := .glo "_law_parts")))
  t__law_nine := tx1 (c.t.d.def_ 60 (d := d__law_nine)) (He.glo_ok KX G (c.t.d.fact 60 (f := .glo "_law_nine")))
  t__law_torn := tx1 (c.t.d.def_ 61 (d := d__law_torn)) (He.glo_ok KX G (c.t.d.fact 61 (f := .glo "_law_torn")))
  t__law_parts_right := tx1 (c.t.d.def_ 62 (d := d__law_parts_right)) (He.glo_ok KX G (c.t.d.fact 62 (f := .glo "_law_parts_right")))
  t_law := tx1 (c.t.d.def_ 63 (d := d_law)) (He.glo_ok KX G (c.t.d.fact 63 (f := .glo "law")))
  f_isinstance := He.free_ok KX G (c.t.d.fact 71 (f := .free "isinstance"))
  f_int := He.free_ok KX G (c.t.d.fact 72 (f := .free "int"))
  f_bool := He.free_ok KX G (c.t.d.fact 73 (f := .free "bool"))
  f_list := He.free_ok KX G (c.t.d.fact 74 (f := .free "list"))
  f_tuple := He.free_ok KX G (c.t.d.fact 75 (f := .free "tuple"))
  f_abs := He.free_ok KX G (c.t.d.fact 76 (f := .free "abs"))
  f_len := He.free_ok KX G (c.t.d.fact 77 (f := .free "len"))
  f_all := He.free_ok KX G (c.t.d.fact 78 (f := .free "all"))
  f_min := He.free_ok KX G (c.t.d.fact 79 (f := .free "min"))
  f_max := He.free_ok KX G (c.t.d.fact 80 (f := .free "max"))
  f_sorted := He.free_ok KX G (c.t.d.fact 81 (f := .free "sorted"))
  f_dict := He.free_ok KX G (c.t.d.fact 82 (f := .free "dict"))
  f_zip := He.free_ok KX G (c.t.d.fact 83 (f := .free "zip"))
  f_range := He.free_ok KX G (c.t.d.fact 84 (f := .free "range"))
  f_repr := He.free_ok KX G (c.t.d.fact 85 (f := .free "repr"))
  k_NONE := ⟨.ref (He.ga K "NONE"), .ref (He.ga K "NONE"), He.glo_ok KX G (c.t.d.fact 66 (f := .glo "NONE")), rfl, tup2 (ex_at c.more 21 rfl)⟩
  k_HALF := ⟨.ref (He.ga K "HALF"), .ref (He.ga K "HALF"), He.glo_ok KX G (c.t.d.fact 67 (f := .glo "HALF")), rfl, tup2 (ex_at c.more 22 rfl)⟩
  k_SHORT := ⟨.ref (He.ga K "SHORT"), .ref (He.ga K "SHORT"), He.glo_ok KX G (c.t.d.fact 68 (f := .glo "SHORT")), rfl, tup2 (ex_at c.more 23 rfl)⟩
  k_LONG := ⟨.ref (He.ga K "LONG"), .ref (He.ga K "LONG"), He.glo_ok KX G (c.t.d.fact 69 (f := .glo "LONG")), rfl, tup2 (ex_at c.more 24 rfl)⟩
  k_LOCK := ⟨.ref (He.ga K "LOCK"), .ref (He.ga K "LOCK"), He.glo_ok KX G (c.t.d.fact 70 (f := .glo "LOCK")), rfl, fun H => .tup (tupAt_ok (ex_at c.more 25 rfl) H) (.cons (tup2 (ex_at c.more 26 rfl) H) (.cons (tup2 (ex_at c.more 27 rfl) H) .nil))⟩
  q_isqrt := PySem.W.mg_of KX G (He.eqO_ok (ex_at c.more 28 rfl))
theorem says_side (KX : K.In h) (G : h.Ns mainGlobals mg) (c : He.SaysX fa fn [] [("law", none)] exB w h K) : TxD K mg 42 "need_side" top (.str "side") := by
  obtain ⟨fd, F⟩ := c.t.d.def_ 30 (d := d_need_side)
  exact ⟨_, fd, F, He.glo_ok KX G (c.t.d.fact 30 (f := .glo "need_side"))⟩
theorem says_bn (KX : K.In h) (G : h.Ns mainGlobals mg) (c : He.SaysX fa fn [] [("law", none)] exB w h K) : ∃ fd, BNC K mg (aCE K) (aBN K) (aI K) fd := by
  obtain ⟨fd, F⟩ := c.t.d.def_ 64 (d := d_init)
  have x := fun (i : Nat) {b : Bool} (e : (exL K)[i]? = some b) => ex_at c.more i e
  have x2 := of_decide_eq_true (x 2 rfl)
  have x3 := of_decide_eq_true (x 3 rfl)
  refine ⟨fd, {
    mCE := He.glo_ok KX G (c.t.d.fact 64 (f := .glo "CurveError"))
    mBN := He.glo_ok KX G (c.t.d.fact 65 (f := .glo "BadNumber"))
    oex := ⟨oexB_ok (x 0 rfl), He.eqO_ok (x 1 rfl), x2, x3, x 4 rfl⟩
    part := He.eqO_ok (x 5 rfl)
    ini := He.eqO_ok (x 6 rfl)
    tI := of_decide_eq_true (x 7 rfl)
    ceG := He.eqO_ok (x 8 rfl)
    ceT := of_decide_eq_true (x 9 rfl)
    ceR := x 10 rfl
    ceI := ?_
    def_ := F
    exm := of_decide_eq_true (x 12 rfl)
    kit := of_decide_eq_true (x 13 rfl)
    xc := ⟨He.eqO_ok (x 14 rfl), He.eqO_ok (x 15 rfl), x2, x 16 rfl, He.eqO_ok (x 17 rfl), He.eqO_ok (x 18 rfl), of_decide_eq_true (x 19 rfl), of_decide_eq_true (x 20 rfl)⟩
    xf := ⟨He.eqO_ok (x 14 rfl), He.eqO_ok (x 15 rfl), x2, x 16 rfl⟩ }⟩
  have h11 := x 11 rfl
  split at h11
  · rename_i v q
    rw [q, of_decide_eq_true h11]
  · cases h11

theorem law_facts {P : Program} {f : Addr} (KX : K.In h) (G : h.Ns mainGlobals mg) (hfa : mg ("law" : Str) = some (.ref f)) (c : He.SaysX fa fn [] [("law", none)] exB w h K) :
    ∃ fd : FuncData, (∀ (s : Shared) (v : Value), BindsTo s fd ⟨[v], []⟩ [("_law_script", v)]) ∧ ∀ base : Heap, K.In base → base.Ns mainGlobals mg → LamX.TabB base mg (He.cT K ("law", none)).1 (He.cT K ("law", none)).2 → FnG P w K mg base 10 f fd ["_law_script"] (spLaw K (He.cT K ("law", none)).2) := by
  obtain ⟨fd, F⟩ := c.t.d.def_ 63 (d := d_law)
  have e := hfa.symm.trans (He.glo_ok KX G (c.t.d.fact 63 (f := .glo "law")))
  cases e
  have b := FunD.bindsA (ps := ["_law_script"]) F fun _ _ _ _ _ _ us hl => match us, hl with | [_], _ => rfl
  obtain ⟨fdI, B⟩ := says_bn KX G c
  have T := says_txt KX G c
  have TD := says_side KX G c
  refine ⟨fd, fun s v => b s [v] rfl, fun base _ _ TB => ?_⟩
  obtain ⟨oc, od, dV, kV, doc, pm, an, cdv, ct, osl, rfl, lk, hcd, hD, _⟩ := F.ex
  rcases hD with ⟨_, rfl⟩ | ⟨e, _⟩
  · obtain ⟨c', rfl⟩ := He.codeIn_ref hcd
    have ec : He.codeOf K ("law", none) = c' := He.codeOf_eq lk rfl
    have ec2 : (He.cT K ("law", none)).1 = c' := ec
    rw [ec2] at TB
    exact fn_law T TD T.t__law_heard B lk hcd TB
  · exact absurd rfl e
theorem bits_lt {z : Int} (hz : Builtin.Int.intBits z ≤ 1048576) : z.natAbs < 2 ^ 1048576 := by
  unfold Builtin.Int.intBits at hz
  by_cases h0 : z = 0
  · subst h0
    exact Nat.pow_pos (by decide)
  · have h1 : (z == 0) = false := by simpa using h0
    rw [h1] at hz
    have h2 : z.natAbs.log2 + 1 ≤ 1048576 := by simpa using hz
    exact (Nat.log2_lt (by omega)).mp (by omega)
theorem ob_eq (s : PySem.W.SharedT) : ob s = hk.obs s.abs := by
  have e : HandSHeadRun.getT s = s.abs.heap.get? := funext (HandSHeadRun.getT_eq s)
  unfold ob
  rw [e] <;> rfl
end
end Cv
namespace Cv
open PySem PySem.W PySem.Calls PyProof.Rows
abbrev lawD : DefRec := HandSHeadRun.topDef R.prog 80
theorem z_def : defOf Q R.name = some (lawD, []) := by kernel_rfl
theorem z_the : R.prog.theDef R.name = some (lawD.params, lawD.body, lawD.scope) := by kernel_rfl
theorem z_kw : kwWritten? lawD.params.kwonlyargs lawD.params.kw_defaults = some [] := by kernel_rfl
theorem z_wr : (!R.writes || R.records.isEmpty) = true := by kernel_rfl
theorem z_ok : (chainsOk Q && opensWell R.prog && (frees R.toRowW && R.within.isEmpty)) = true := by decide +kernel
theorem z_name : lawD.name = ("law" : PySem.Str) := by kernel_rfl
theorem z_dflt : lawD.params.defaults = [] := by kernel_rfl
theorem z_bare : R.prog.bare := ⟨rfl, rfl, rfl, rfl, rfl, by decide +kernel⟩
end Cv
namespace Cv
open PySem PySem.W PySem.Calls PyProof.Rows
theorem z_call : WalkO Q names (XL Q []) hk.says R.toRowW lawD [] (fun f vs => PySem.call f vs) := by
  refine Att.attach_callB (l := PySem.Challenge.rw_typedcurve_k50_whole_cells_bar_what_is_o) (n := 63) rfl z_dflt fun w s₀ s₁ mg mb fa o pm cd doc a vs ns G Y ho hd hcd hmg hobj hints hlen hbits hg => ?_
  obtain ⟨K, KX, c⟩ := Y
  have hmg2 : mg ("law" : PySem.Str) = some (.ref fa) := by
    rw [← z_name]
    exact hmg
  obtain ⟨fd, hb, hF⟩ := Cv.law_facts (P := (PySem.Challenge.rw_typedcurve_k50_whole_cells_bar_what_is_o).prog) KX G.T.g hmg2 c
  exact Cv.law_callG (k := 10) KX G.T.g G.T.b G.T.builtins G.T.nolimit hg (c.empty _ List.mem_cons_self) (c.out _ List.mem_cons_self) (codeHd_of_K KX (c.hd _ List.mem_cons_self)) G.T.bmain hobj hints (Nat.le_trans hlen (by decide)) ⟨rfl, by decide, by decide⟩ hF hb
    fun H hH hS => ⟨a, ns, rfl, fun q hq => by rw [List.mem_singleton.mp hq]; exact LamX.TabS.nil hH, hS, ⟨1048576, by decide, fun x hx => Cv.bits_lt (hbits x hx)⟩, fun _ => rfl⟩
end Cv
namespace Cv
open PySem PySem.W PySem.Calls PyProof.Rows
theorem z_holds (said : R.wellSaid = true) (hw : R.toRowW.promised) : R.Holds :=
  HandSHeadRun.head_imp (r := R) (q := Q) (H := hk) (ob := ob) (M := 12000) (loose := names) (d := lawD) (kwd := []) ob_eq run z_def z_the z_kw z_wr said z_ok z_bare hw z_call
end Cv
open PySem PySem.W PySem.Calls PyProof.Rows
theorem PySem.Challenge.cw_typedcurve_k50_whole_cells_bar_what_is_o_holds : PySem.Challenge.rw_typedcurve_k50_whole_cells_bar_what_is_o.Holds := by
  w_on
  o_law
  refine Cv.z_holds (by assumption) ?hw
  case hw => w_witness2

