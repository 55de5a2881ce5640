import PyProof.Rows.All
import Wide.All
import OpenK.AllK
import Wide.FinOn
import KE.KStateDown
import KE.KIsAll
import HandS.ForMost
import HandS.ForExc
import HandS.Codes
import HandS.ExcInit
import HandS.ExcIs
import HandS.ExcField
import HandS.HotCalls
import HandS.Lambda
import HandS.IsInst
import HandS.TupMul
import HandS.TupAny
import HandS.TupLe
import HandS.Zip
import HandS.Conv
import HandS.CallSlots
import HandS.Deep
import HandS.Head2
import HandS.HeadHook2
import HandS.HeadHook4
import HandS.HeadWalk
import KE.KExcIs
import KE.GoesMore
import KE.GoesEnum
import KE.DataEq
import HandS.HeadHook1
import PySem.Challenge.RW_sayingkinds_k38_whole_rows_and_words
set_option Elab.async false
set_option linter.all false
set_option maxRecDepth 100000
set_option maxHeartbeats 4000000
namespace Qk
open PySem PySem.Spec PyProof.Rows L2

/-! ### what stays of a heap -/
/-- all but what stands at p stays -/
def But (p : Addr) (H H' : Hp) : Prop := ∀ b o, b ≠ p → H b = some o → H' b = some o
theorem But.rfl' {p : Addr} {H : Hp} : But p H H := fun _ _ _ e => e
theorem But.of {p : Addr} {H H' : Hp} (s : Same H H') : But p H H' := fun b o _ e => s b o e
theorem But.trans {p : Addr} {H H1 H2 : Hp} (a : But p H H1) (b : But p H1 H2) : But p H H2 := fun c o n e => b c o n (a c o n e)
theorem But.put {p : Addr} {H : Hp} {o : HO} : But p H (upd H p o) := fun b u n e => by rw [upd_ne n]; exact e
theorem same_new {H : Hp} {p : Addr} {o : HO} (h : H p = none) : Same H (upd H p o) := fun b x e => by
  rw [upd_ne (ne_of_none e h)]
  exact e
theorem same_trans {H H1 H2 : Hp} (a : Same H H1) (b : Same H1 H2) : Same H H2 := fun c o e => b c o (a c o e)
/-- what stands at p is a dict -/
def IsDk (H : Hp) (p : Addr) : Prop := ∃ kvs, H p = some (.dK kvs)
section
variable {K : PySem.W.Frag} {H H' : Hp} {p a : Addr} {xs : List V}
theorem rd_but {u : HO} (b : But p H H') (d : IsDk H p) (hu : ∀ kvs, u ≠ .dK kvs) (h : Rd H a u) : Rd H' a u := by
  obtain ⟨kvs, d⟩ := d
  rcases h with h | ⟨o, h⟩
  · refine .inl (b _ _ (fun z => ?_) h)
    rw [z, d] at h
    exact hu kvs (Option.some.inj h).symm
  · refine .inr ⟨o, b _ _ (fun z => ?_) h⟩
    rw [z, d] at h
    cases h
theorem sqL_but (b : But p H H') (d : IsDk H p) (h : SqL K H a xs) : SqL K H' a xs := by
  rcases h with h | h
  · exact .inl (rd_but b d (fun _ z => by cases z) h)
  · exact .inr h
theorem sqT_but (b : But p H H') (d : IsDk H p) (h : SqT K H a xs) : SqT K H' a xs := by
  rcases h with h | h
  · exact .inl (rd_but b d (fun _ z => by cases z) h)
  · exact .inr h
theorem rd_same {u : HO} (s : Same H H') (h : Rd H a u) : Rd H' a u := by
  rcases h with h | ⟨o, h⟩
  · exact .inl (s _ _ h)
  · exact .inr ⟨o, s _ _ h⟩
theorem sqL_same (s : Same H H') (h : SqL K H a xs) : SqL K H' a xs := s.seq h
theorem sqT_same (s : Same H H') (h : SqT K H a xs) : SqT K H' a xs := by
  rcases h with h | h
  · exact .inl (rd_same s h)
  · exact .inr h
end
/-! ### data -/
section
variable {K : PySem.W.Frag} {H H' : Hp}
mutual
theorem dp_mono (hl : ∀ a xs, SqL K H a xs → SqL K H' a xs) (ht : ∀ a xs, SqT K H a xs → SqT K H' a xs) : ∀ (d : PyData) (v : V), Dp K H v d → Dp K H' v d
  | .none, _, h => by cases h; exact .non
  | .bool b, _, h => by cases h; exact .bl b
  | .int i, _, h => by cases h; exact .int i
  | .str x, _, h => by cases h; exact .str x
  | .list ds, _, h => by
    cases h with
    | lst h1 h2 => exact .lst (hl _ _ h1) (dpAll_mono hl ht ds _ h2)
  | .tuple ds, _, h => by
    cases h with
    | tup h1 h2 => exact .tup (ht _ _ h1) (dpAll_mono hl ht ds _ h2)
  | .dict _, _, h => by cases h
theorem dpAll_mono (hl : ∀ a xs, SqL K H a xs → SqL K H' a xs) (ht : ∀ a xs, SqT K H a xs → SqT K H' a xs) : ∀ (ds : List PyData) (vs : List V), DpAll K H vs ds → DpAll K H' vs ds
  | [], _, h => by cases h; exact .nil
  | d :: ds, _, h => by
    cases h with
    | cons h1 h2 => exact .cons (dp_mono hl ht d _ h1) (dpAll_mono hl ht ds _ h2)
end
theorem dp_same (s : Same H H') {d : PyData} {v : V} (h : Dp K H v d) : Dp K H' v d := dp_mono (fun _ _ => sqL_same s) (fun _ _ => sqT_same s) d v h
theorem dpAll_same (s : Same H H') {d : List PyData} {v : List V} (h : DpAll K H v d) : DpAll K H' v d := dpAll_mono (fun _ _ => sqL_same s) (fun _ _ => sqT_same s) d v h
theorem dp_but {p : Addr} (b : But p H H') (i : IsDk H p) {d : PyData} {v : V} (h : Dp K H v d) : Dp K H' v d := dp_mono (fun _ _ => sqL_but b i) (fun _ _ => sqT_but b i) d v h
theorem dpAll_but {p : Addr} (b : But p H H') (i : IsDk H p) {d : List PyData} {v : List V} (h : DpAll K H v d) : DpAll K H' v d := dpAll_mono (fun _ _ => sqL_but b i) (fun _ _ => sqT_but b i) d v h
theorem dpAll_len : ∀ {ds : List PyData} {vs : List V}, DpAll K H vs ds → vs.length = ds.length
  | [], _, h => by cases h; rfl
  | d :: ds, _, h => by
    cases h with
    | cons h1 h2 => rw [List.length_cons, List.length_cons, dpAll_len h2]
theorem dpAll_get : ∀ {ds : List PyData} {vs : List V} {i : Nat} {v : V}, DpAll K H vs ds → vs[i]? = some v → ∃ d, ds[i]? = some d ∧ Dp K H v d
  | [], _, _, _, h, e => by
    cases h
    simp at e
  | d :: ds, _, i, v, h, e => by
    cases h with
    | cons h1 h2 =>
      cases i with
      | zero =>
        simp only [List.getElem?_cons_zero, Option.some.injEq] at e
        subst e
        exact ⟨d, rfl, h1⟩
      | succ i =>
        simp only [List.getElem?_cons_succ] at e
        obtain ⟨d', e', h'⟩ := dpAll_get h2 e
        exact ⟨d', by simpa using e', h'⟩
theorem dpAll_ints : ∀ (ns : List Int), DpAll K H (ns.map V.int) (ns.map PyData.int)
  | [] => .nil
  | n :: ns => .cons (.int n) (dpAll_ints ns)
theorem dpAll_app : ∀ {ds es : List PyData} {vs ws : List V}, DpAll K H vs ds → DpAll K H ws es → DpAll K H (vs ++ ws) (ds ++ es)
  | [], _, _, _, h, h' => by cases h; exact h'
  | d :: ds, _, _, _, h, h' => by
    cases h with
    | cons h1 h2 => exact .cons h1 (dpAll_app h2 h')
theorem dpAll_take : ∀ (n : Nat) {ds : List PyData} {vs : List V}, DpAll K H vs ds → DpAll K H (vs.take n) (ds.take n)
  | 0, _, _, _ => by rw [List.take_zero, List.take_zero]; exact .nil
  | n + 1, [], _, h => by cases h; exact .nil
  | n + 1, d :: ds, _, h => by
    cases h with
    | cons h1 h2 => exact .cons h1 (dpAll_take n h2)
theorem dpAll_drop : ∀ (n : Nat) {ds : List PyData} {vs : List V}, DpAll K H vs ds → DpAll K H (vs.drop n) (ds.drop n)
  | 0, _, _, h => h
  | n + 1, [], _, h => by cases h; exact .nil
  | n + 1, d :: ds, _, h => by
    cases h with
    | cons h1 h2 => exact dpAll_drop n h2
/-- a tuple of ints -/
theorem dp_ints {a : Addr} {ns : List Int} (h : SqT K H a (ns.map V.int)) : Dp K H (.ref a) (.tuple (ns.map PyData.int)) := .tup h (dpAll_ints ns)
theorem ints_of : ∀ {ns : List Int} {vs : List V}, DpAll K H vs (ns.map PyData.int) → vs = ns.map V.int
  | [], _, h => by cases h; rfl
  | n :: ns, _, h => by
    cases h with
    | cons h1 h2 =>
      cases h1
      rw [ints_of h2]
      rfl
/-- .. or the empty dict -/
inductive Vd (K : PySem.W.Frag) (H : Hp) : V → PyData → Prop
  | dp {v : V} {d : PyData} (h : Dp K H v d) : Vd K H v d
  | d0 {a : Addr} (h : H a = some (.dK [])) : Vd K H (.ref a) (.dict [])
theorem vd_same (s : Same H H') {d : PyData} {v : V} (h : Vd K H v d) : Vd K H' v d := by
  cases h with
  | dp h => exact .dp (dp_same s h)
  | d0 h => exact .d0 (s _ _ h)
end
section
variable {X : Cx} {pins : List (Addr × Obj)} {σ : L2.St} {H : Hp} {s : Shared}
theorem vd_reads (I : Inv X pins σ H s) {d : PyData} {v : V} {u : Value} (h : Vd X.K H v d) (r : RelV v u) : ∃ as, Reads s.heap u d as ∧ (d.hasDict = true → sysModules ∉ as) := by
  cases h with
  | dp h =>
    obtain ⟨as, q⟩ := Dp.reads I d v u h r
    refine ⟨as, q, fun z => ?_⟩
    exact absurd z (by rw [no_dict d h]; decide)
  | @d0 a h =>
    cases (show u = Value.ref a from r)
    obtain ⟨_, hs, vs, kv, o, es, ep, ho, hx, hd, hk, hp, _⟩ := (show ObjOk X.prog X.w H s.heap a (.dK []) from I.hok a _ h)
    cases kv
    have e0 : es.toList = [] := by
      cases e : es.toList with
      | nil => rfl
      | cons x r =>
        rw [e] at hp
        cases hp
    refine ⟨_, .dict (as := []) (bs := []) ho hx.1 hd (by rw [e0]; exact .nil) (by rw [e0]; exact .nil), fun _ hm => ?_⟩
    have em : sysModules = a := by simpa using hm
    rw [← em] at hs
    simp at hs
where
  no_dict : ∀ (d : PyData) {v : V}, Dp X.K H v d → d.hasDict = false
    | .none, _, _ => by simp only [PyData.hasDict]
    | .bool _, _, _ => by simp only [PyData.hasDict]
    | .int _, _, _ => by simp only [PyData.hasDict]
    | .str _, _, _ => by simp only [PyData.hasDict]
    | .list ds, _, h => by
      cases h with
      | lst h1 h2 =>
        simp only [PyData.hasDict]
        exact no_dicts ds h2
    | .tuple ds, _, h => by
      cases h with
      | tup h1 h2 =>
        simp only [PyData.hasDict]
        exact no_dicts ds h2
    | .dict _, _, h => by cases h
  no_dicts : ∀ (ds : List PyData) {vs : List V}, DpAll X.K H vs ds → PyData.hasDictAll ds = false
    | [], _, _ => by simp only [PyData.hasDictAll]
    | d :: ds, _, h => by
      cases h with
      | cons h1 h2 =>
        simp only [PyData.hasDictAll, no_dict d h1, no_dicts ds h2, Bool.or_self]
/-- repr of data -/
theorem call_repr (hg : X.A.guards = some []) (hu : X.A.units + 64 < cLine) : CallR X (.builtin "repr") (fun xs H Q => ∃ (v : V) (d : PyData), xs = [v] ∧ Vd X.K H v d ∧ d.showable = true ∧ d.depth ≤ 60 ∧ d.shown.length ≤ sizeLine ∧ Q (.str d.shown) H) := by
  intro pins s σ H xs us Q I r h
  obtain ⟨v, d, rfl, hv, hs, hd, hz, q⟩ := h
  obtain ⟨u, rfl, ru⟩ := vals1 r
  have leaf : ∀ (y : Str) (s' : Shared), (∃ tk, s' = { s with toks := tk }) → ∀ t, Q (.str y) H → EP X pins σ Q (.str y t) s' := fun y s' ⟨tk, e⟩ t q => by
    subst e
    exact ⟨.str y, H, I.tok tk, ⟨t, rfl⟩, q⟩
  cases v with
  | ref a =>
    cases (show u = Value.ref a from ru)
    obtain ⟨as, hr, hsm⟩ := vd_reads I hv ru
    refine repr_of_reads' (h₀ := s.heap) hr hs hsm hg (by omega) (fun _ _ e => e) (fun h' t tk k => ?_) hz
    exact ⟨.str d.shown, H, I.kept (t' := tk) k, ⟨t, rfl⟩, q⟩
  | non =>
    cases (show u = Value.none from ru)
    cases hv with
    | dp hv => cases hv; exact PySem.P.repr_of_none (leaf _ _ ⟨_, rfl⟩ _ q)
  | bl b =>
    cases (show u = Value.bool b from ru)
    cases hv with
    | dp hv => cases hv; exact PySem.P.repr_of_bool (leaf _ _ ⟨_, rfl⟩ _ q)
  | int i =>
    obtain ⟨t, rfl⟩ := (show ∃ t, u = Value.int i t from ru)
    cases hv with
    | dp hv => cases hv; exact PySem.P.repr_of_int (by simpa [PyData.showable] using hs) (leaf _ _ ⟨_, rfl⟩ _ q)
  | str x =>
    obtain ⟨t, rfl⟩ := (show ∃ t, u = Value.str x t from ru)
    cases hv with
    | dp hv => cases hv; exact PySem.P.repr_of_str (leaf _ _ ⟨_, rfl⟩ _ q) hz
  | byt b => cases hv with | dp hv => cases hv
  | flt b => cases hv with | dp hv => cases hv
  | ty b => cases hv with | dp hv => cases hv
end
end Qk

set_option Elab.async false
set_option linter.all false
set_option maxRecDepth 100000
set_option maxHeartbeats 4000000
namespace Qk
open PySem PySem.Spec PyProof.Rows L2
abbrev Slots := L2.St
/-! ### a def by its name: what it may let out is told in its promise -/
structure Cal (P : Program) (w : World) (K : PySem.W.Frag) (mg : Str → Option Value) (base : Heap) (k : Nat) (x : Str) (sp : Sp) : Prop where
  ex : ∃ (f : Addr) (fd : FuncData) (ps : List Str), FnOk P w K mg base (L2.CX P w) k f fd ps sp ∧ mg x = some (.ref f) ∧ PySem.W.keepIn K (.ref f) = true ∧ Binds K fd ps []
/-- the promise of what is called, at the arguments -/
def tK (sp : Sp) (t : TA) : TE := fun σ H Q => t σ H fun vs H1 => sp vs H1 Q L2.E0
theorem tK_eq (sp : Sp) (t : TA) : tCall sp [] L2.E0 t = tK sp t := by
  funext σ H Q
  unfold tCall tK
  simp only [List.append_nil]
section
variable {X : Cx} {k j : Nat} {x : Str} {sp : Sp} {p pos : Pos} {e : Expr} {es : List Expr} {t : TA}
/-- called where nothing may leave -/
theorem pe_k (c : Cal X.prog X.w X.K X.mg X.base k x sp) (hr : Room j X.A) (hk : k ≤ j) (ha : PA X (e :: es) t) (hg : Gl X x := by rfl)
    (hdb : (x == ("__debug__" : Str)) = false := by decide) (he : starEach (e :: es) X.env = (false, eval e X.env) :: starEach es X.env := by rfl) (hpl : (backTo pos (starEach es X.env)).any (·.1) = false := by rfl) :
    PE X (.Call (.Name x p) (e :: es) [] pos) (tK sp t) := by
  obtain ⟨f, fd, ps, F, hm, kp, b⟩ := c.ex
  rw [← tK_eq]
  exact pe_call F (hr.mono hk) hg hm kp b .nil passL ha hdb he hpl
/-- called where W takes what leaves -/
theorem pe_kx {W : WX} (c : Cal X.prog X.w X.K X.mg X.base k x sp) (tk : Takes X W) (hr : Room j X.A) (hk : k ≤ j) (ha : PA X (e :: es) t) (hg : Gl X x := by rfl)
    (hdb : (x == ("__debug__" : Str)) = false := by decide) (he : starEach (e :: es) X.env = (false, eval e X.env) :: starEach es X.env := by rfl) (hpl : (backTo pos (starEach es X.env)).any (·.1) = false := by rfl) :
    PE X (.Call (.Name x p) (e :: es) [] pos) (tCallS sp (WE W) t) := by
  obtain ⟨f, fd, ps, F, hm, kp, b⟩ := c.ex
  exact pe_callS F (hr.mono hk) hg hm kp b (fun σ => passAt tk σ) ha hdb he hpl
end
/-! ### where nothing is being shown -/
structure FnG (P : Program) (w : World) (K : PySem.W.Frag) (mg : Str → Option Value) (base : Heap) (k : Nat) (f : Addr) (fd : FuncData) (ps : List Str) (sp : Sp) : Prop where
  len : ∀ vs H Q E, sp vs H Q E → vs.length = ps.length
  run : ∀ (A : Around) (outer : List Env) (s : Shared) (H : Hp) (args : Args) (us : List Value) (vs : List V) (Q : VK) (E : XK), A.guards = some [] → Room k A → Env0 P w K mg base A outer s H → BindsTo s fd args (ps.zip us) → Vals vs us → sp vs H Q E →
    codeAny (model P w) A (.call (.ref f) args) (CR (L2.CX P w) outer P w H s Q E) s
structure CalG (P : Program) (w : World) (K : PySem.W.Frag) (mg : Str → Option Value) (base : Heap) (k : Nat) (x : Str) (sp : Sp) : Prop where
  ex : ∃ (f : Addr) (fd : FuncData) (ps : List Str), FnG P w K mg base k f fd ps sp ∧ mg x = some (.ref f) ∧ PySem.W.keepIn K (.ref f) = true ∧ Binds K fd ps []
section
variable {X : Cx} {k j : Nat} {x : Str} {sp : Sp} {p pos : Pos} {e : Expr} {es : List Expr} {t : TA}
theorem pe_g (c : CalG X.prog X.w X.K X.mg X.base k x sp) (hG : X.A.guards = some []) (hr : Room j X.A) (hk : k ≤ j) (ha : PA X (e :: es) t) (hg : Gl X x := by rfl)
    (hdb : (x == ("__debug__" : Str)) = false := by decide) (he : starEach (e :: es) X.env = (false, eval e X.env) :: starEach es X.env := by rfl) (hpl : (backTo pos (starEach es X.env)).any (·.1) = false := by rfl) :
    PE X (.Call (.Name x p) (e :: es) [] pos) (tK sp t) := by
  obtain ⟨f, fd, ps, F, hm, kp, hb⟩ := c.ex
  refine ⟨fun pins s σ H Q I h => ?_⟩
  refine wpAny_Call_Name_kw (ld_glob I hg hm ?_ hdb)
  refine PySem.W.callWith_K (h₀ := X.base) I.ok.mod.kin kp (thn (ha.run pos pins s σ H _ I h) fun us s1 ⟨vs, H1, I1, r, q⟩ => ⟨I1.kIn, ?_⟩) he hpl
  have b := hb s1 us I1.kIn (by rw [List.append_nil, ← r.length]; exact F.len _ _ _ _ q)
  rw [List.append_nil] at b
  refine wpAny_call (codeAny_mono (F.run X.A X.stack s1 H1 ⟨us, []⟩ us vs Q _ hG (hr.mono hk) I1.env0 b r q) fun r s' hq => ?_)
  cases r with
  | error er => exact passL (X := X) pins σ H1 s1 er s' I1 hq
  | ok fl =>
    cases fl with
    | ret u => exact I1.after hq
    | next => exact False.elim hq
    | brk => exact False.elim hq
    | cont => exact False.elim hq
end
/-! ### within an except suite, the exception handed on -/
abbrev SpE := Addr × Obj → List V → Hp → VK → Prop
structure FnE (P : Program) (w : World) (K : PySem.W.Frag) (mg : Str → Option Value) (base : Heap) (k : Nat) (f : Addr) (fd : FuncData) (ps : List Str) (sp : SpE) : Prop where
  len : ∀ p vs H Q, sp p vs H Q → vs.length = ps.length
  run : ∀ (A : Around) (outer : List Env) (s : Shared) (H : Hp) (args : Args) (us : List Value) (vs : List V) (Q : VK) (p : Addr × Obj), A.guards = some [] → L2H.RoomH k A → L2H.PinOk outer H s p → Env0 P w K mg base A outer s H → BindsTo s fd args (ps.zip us) → Vals vs us → sp p vs H Q →
    codeAny (model P w) A (.call (.ref f) args) (CR L2.CX0 outer P w H s Q L2.E0) s
structure CalE (P : Program) (w : World) (K : PySem.W.Frag) (mg : Str → Option Value) (base : Heap) (k : Nat) (x : Str) (sp : SpE) : Prop where
  ex : ∃ (f : Addr) (fd : FuncData) (ps : List Str), FnE P w K mg base k f fd ps sp ∧ mg x = some (.ref f) ∧ PySem.W.keepIn K (.ref f) = true ∧ Binds K fd ps []
section
variable {X : Cx} {k j : Nat} {x : Str} {sp : SpE} {p pos : Pos} {e : Expr} {es : List Expr} {t : TA} {q : Addr × Obj}
theorem pe_e (c : CalE X.prog X.w X.K X.mg X.base k x sp) (hG : X.A.guards = some []) (hr : L2H.RoomH j X.A) (hk : k ≤ j) (hq : q ∈ X.pn) (ha : PA X (e :: es) t) (hg : Gl X x := by rfl)
    (hdb : (x == ("__debug__" : Str)) = false := by decide) (he : starEach (e :: es) X.env = (false, eval e X.env) :: starEach es X.env := by rfl) (hpl : (backTo pos (starEach es X.env)).any (·.1) = false := by rfl) :
    PE X (.Call (.Name x p) (e :: es) [] pos) (fun σ H Q => t σ H fun vs H1 => sp q vs H1 Q) := by
  obtain ⟨f, fd, ps, F, hm, kp, hb⟩ := c.ex
  refine ⟨fun pins s σ H Q I h => ?_⟩
  refine wpAny_Call_Name_kw (ld_glob I hg hm ?_ hdb)
  refine PySem.W.callWith_K (h₀ := X.base) I.ok.mod.kin kp (thn (ha.run pos pins s σ H _ I h) fun us s1 ⟨vs, H1, I1, r, z⟩ => ⟨I1.kIn, ?_⟩) he hpl
  have b := hb s1 us I1.kIn (by rw [List.append_nil, ← r.length]; exact F.len _ _ _ _ z)
  rw [List.append_nil] at b
  have P1 := I1.pin q (List.mem_append_left _ hq)
  have hpin : L2H.PinOk X.stack H1 s1 q := ⟨P1.1, P1.2.1, fun hm => (List.mem_cons.mp (I1.stkSub q.1 hm)).elim P1.2.2.1 P1.2.2.2.1, P1.2.2.2.2⟩
  refine wpAny_call (codeAny_mono (F.run X.A X.stack s1 H1 ⟨us, []⟩ us vs Q q hG (hr.mono hk) hpin I1.env0 b r z) fun r s' hq => ?_)
  cases r with
  | error er => exact (show False from hq).elim
  | ok fl =>
    cases fl with
    | ret u => exact I1.after hq
    | next => exact False.elim hq
    | brk => exact False.elim hq
    | cont => exact False.elim hq
end
/-! ### the defs of the text -/
section
variable {P : Program} {w : World} {K : PySem.W.Frag} {mg : Str → Option Value} {base : Heap} {x : Str} {f : Addr} {fd : FuncData} {N ps : List Str} {k : Nat} {params : Arguments} {body : List Stmt} {scope : Scope}
/-- a def as the head tells it -/
structure Df (K : PySem.W.Frag) (mg : Str → Option Value) (x : Str) (params : Arguments) (body : List Stmt) (scope : Scope) : Prop where
  ex : ∃ (f : Addr) (fd : FuncData), FunD K x x params body scope [] [] f fd ∧ mg x = some (.ref f)
/-- how the arguments bind -/
def Bd (x : Str) (params : Arguments) (body : List Stmt) (scope : Scope) (ps : List Str) : Prop :=
  ∀ (kV doc pm : Value) (an : Option Addr) (cdv ct : Value) (us : List Value), us.length = ps.length → bindArgs (PySem.W.fnOf x x params body scope .none kV doc pm an cdv ct) ⟨us, []⟩ = pure (ps.zip us)
/-- a def that lets nothing out, or what its promise says -/
theorem Df.calX {sp : Sp} (D : Df K mg x params body scope) (b : Bd x params body scope ps) (S : FnScope N ps scope) (len : ∀ vs H Q E, sp vs H Q E → vs.length = ps.length)
    (hbody : ∀ (f : Addr) (cdv : Value) (A : Around) (outer : List Env) (s : Shared) (H : Hp) (vs : List V) (Q : VK) (E : XK), Room k (A.deeper (envOfC x scope s.heap.objs.size f cdv)) → sp vs H Q E →
      ∃ t, PSs (cxOf (L2.CX P w) P w K mg base N x scope f cdv A outer s H E) body t ∧ t { nx := fun _ H' => Q .non H', rt := Q } (start N vs) H) : Cal P w K mg base (k + 1) x sp := by
  obtain ⟨f, fd, F, hm⟩ := D.ex
  exact ⟨f, fd, ps, F.ok S len fun cdv A outer s H vs Q E hr h => hbody f cdv A outer s H vs Q E hr h, hm, F.kp, F.bindsN b⟩
theorem Df.cal {sp : Sp} (D : Df K mg x params body scope) (b : Bd x params body scope ps) (S : FnScope N ps scope) (len : ∀ vs H Q E, sp vs H Q E → vs.length = ps.length)
    (hbody : ∀ (f : Addr) (cdv : Value) (A : Around) (outer : List Env) (s : Shared) (H : Hp) (vs : List V) (Q : VK) (E : XK), Room k (A.deeper (envOfC x scope s.heap.objs.size f cdv)) → sp vs H Q E →
      ∃ t, PSs (cxOf (L2.CX P w) P w K mg base N x scope f cdv A outer s H E).nox body t ∧ t { nx := fun _ H' => Q .non H', rt := Q } (start N vs) H) : Cal P w K mg base (k + 1) x sp :=
  D.calX b S len fun f cdv A outer s H vs Q E hr h => by
    obtain ⟨t, h1, h2⟩ := hbody f cdv A outer s H vs Q E hr h
    exact ⟨t, h1.nox, h2⟩
theorem Df.calG {sp : Sp} (D : Df K mg x params body scope) (b : Bd x params body scope ps) (S : FnScope N ps scope) (len : ∀ vs H Q E, sp vs H Q E → vs.length = ps.length)
    (hbody : ∀ (f : Addr) (cdv : Value) (A : Around) (outer : List Env) (s : Shared) (H : Hp) (vs : List V) (Q : VK) (E : XK), A.guards = some [] → Room k (A.deeper (envOfC x scope s.heap.objs.size f cdv)) → sp vs H Q E →
      ∃ t, PSs (cxOf (L2.CX P w) P w K mg base N x scope f cdv A outer s H E).nox body t ∧ t { nx := fun _ H' => Q .non H', rt := Q } (start N vs) H) : CalG P w K mg base (k + 1) x sp := by
  obtain ⟨f, fd, F, hm⟩ := D.ex
  refine ⟨f, fd, ps, ⟨len, fun A outer s H args us vs Q E hG hr e0 hb r hsp => ?_⟩, hm, F.kp, F.bindsN b⟩
  obtain ⟨oc, od, dV, kV, doc, pm, an, cdv, ct, osl, rfl, lk, hcd, _, _⟩ := F.ex
  refine LamX.run_ofS lk hcd S hr e0 hb r (len _ _ _ _ hsp) fun hr' => ?_
  obtain ⟨t, h1, h2⟩ := hbody f cdv A outer s H vs Q E hG hr' hsp
  exact ⟨t, h1.nox, h2⟩
theorem Df.calE {sp : SpE} (D : Df K mg x params body scope) (b : Bd x params body scope ps) (S : FnScope N ps scope) (len : ∀ p vs H Q, sp p vs H Q → vs.length = ps.length)
    (hbody : ∀ (f : Addr) (cdv : Value) (A : Around) (outer : List Env) (s : Shared) (H : Hp) (vs : List V) (Q : VK) (p : Addr × Obj), A.guards = some [] → L2H.RoomH k (A.deeper (envOfC x scope s.heap.objs.size f cdv)) → sp p vs H Q →
      ∃ t, PSs (L2H.cxH L2.CX0 P w K mg base N x scope f cdv A outer s H L2.E0 p).nox body t ∧ t { nx := fun _ H' => Q .non H', rt := Q } (start N vs) H) : CalE P w K mg base (k + 1) x sp := by
  obtain ⟨f, fd, F, hm⟩ := D.ex
  refine ⟨f, fd, ps, ⟨len, fun A outer s H args us vs Q p hG hr hpin e0 hb r hsp => ?_⟩, hm, F.kp, F.bindsN b⟩
  obtain ⟨oc, od, dV, kV, doc, pm, an, cdv, ct, osl, rfl, lk, hcd, _, _⟩ := F.ex
  have KX : K.In s.heap := e0.mod.kin.keeps fun b o e => (e0.bs b o e).1
  have lim : s.heap.NoLimit := e0.mod.nolimit.keeps fun b o e => (e0.bs b o e).1
  refine codeAny_call_function hr.depth (KX _ _ lk) rfl S.co S.gen rfl (PySem.W.codeRec_of KX hcd) (hb _ _ _ _ ?_)
  refine wpAny_newFunctionEnv_cells S.kind (fun ⟨n, v⟩ hy => ?_) fun env he s1 z => ?_
  · rcases S.par n (List.of_mem_zip hy).1 with g | g
    · exact .inl g
    · exact .inr ⟨g, PySem.W.cellsFrom_some _ _ _ (.inl g)⟩
  subst he
  obtain ⟨t, ht, hq⟩ := hbody f cdv A outer s H vs Q p hG (hr.deeper _) hsp
  have I := L2H.inv_startH (CX := L2.CX0) (P := P) (w := w) (E := L2.E0) S hpin e0 (len _ _ _ _ hsp) r z
  refine ⟨lim.keeps z.toInCall.keep, codeAny_func (wpAny_mono (ht.nox.run [] s1 (start N vs) H _ I hq) (fun fl s' hs => ?_) fun _ _ hs => hs)⟩
  cases fl with
  | ret u =>
    obtain ⟨v, σ', H', J, rv, q'⟩ := hs
    exact ⟨v, H', J.os, J.bare, J.base, J.hok, rv, q'⟩
  | next =>
    obtain ⟨σ', H', J, q'⟩ := hs
    exact ⟨V.non, H', J.os, J.bare, J.base, J.hok, rfl, q'⟩
  | brk => exact hs.choose_spec.choose_spec.2.elim
  | cont => exact hs.choose_spec.choose_spec.2.elim
end
end Qk

set_option Elab.async false
set_option linter.all false
set_option maxRecDepth 100000
set_option maxHeartbeats 4000000
namespace Qk
open PySem PySem.Spec PyProof.Rows L2
/-! ### the handled exception, asked and read -/
section
variable {X : Cx} {q : Addr × Obj} {cls : Value} {d : Option Addr}
theorem inst_at {K : PySem.W.Frag} {pins : List (Addr × Obj)} {σ : Slots} {H : Hp} {s : Shared} {D dd : Addr} {fs : List (Str × V)} (I : Inv X pins σ H s) (hq : q ∈ X.pn) (hz : Zc (.ref D) (some dd) q.2) (hf : ∃ vs, q.2.data = .fields vs) (hd : H dd = some (.xd fs)) :
    ∃ (od : Obj) (mA : Str → Option Value), PySem.W.InstAt s.heap q.1 q.2 D (some od) ∧ (∀ f, RelO (fs.lookup f) (mA f)) ∧ ∀ n, PySem.W.lookIn n od = some (mA n) := by
  obtain ⟨mA, hns, hr⟩ := (show ObjOk X.prog X.w H s.heap dd (.xd fs) from I.hok dd _ hd)
  obtain ⟨od, ho, hl⟩ := lookIn_ns hns
  obtain ⟨ha, _⟩ := I.pin q (List.mem_append_left _ hq)
  obtain ⟨vs, hv⟩ := hf
  exact ⟨od, mA, ⟨ha, hz.1, by unfold PySem.W.notCls; rw [hv] <;> rfl, by rw [hz.2]; exact ho⟩, hr, hl⟩
/-- isinstance(e, c) -/
def rIsX (K : PySem.W.Frag) (a : Addr) (cls : Value) (d : Option Addr) : List V → Hp → VK → Prop := fun xs H Q => ∃ (D dd : Addr) (fs : List (Str × V)) (c : V) (cv : Value) (b : Bool), cls = .ref D ∧ d = some dd ∧ ExcC K D ∧ xs = [.ref a, c] ∧ (∀ u, RelV c u → u = cv) ∧
  PySem.W.kitOne K (.ref D) cv = some b ∧ H dd = some (.xd fs) ∧ Q (.bl b) H
theorem call_isX (hq : q ∈ X.pn) (hz : Zc cls d q.2) (hf : ∃ vs, q.2.data = .fields vs) : CallR X (.builtin "isinstance") (rIsX X.K q.1 cls d) := by
  intro pins s σ H xs us Q I r h
  obtain ⟨D, dd, fs, c, cv, b, rfl, rfl, C, rfl, hcv, e, hd, z⟩ := h
  obtain ⟨u1, u2, rfl, r1, r2⟩ := vals2 r
  cases (show u1 = Value.ref q.1 from r1)
  cases hcv _ r2
  obtain ⟨od, mA, J, _, _⟩ := inst_at (K := X.K) I hq hz hf hd
  have hcl : (PySem.W.clsIn X.K D).isSome = true := by
    obtain ⟨cd, hc, _⟩ := PySem.W.any_some C.hd
    rw [hc]; rfl
  exact PySem.W.kia_one (PySem.W.kitx_exc hcl C.hg C.hk C.hs C.ha C.hn C.ht C.hm) I.kIn J e (fun z => nomatch z) fun tk => ⟨.bl b, H, I.tok tk, rfl, z⟩
/-- e.n -/
def tXfX (K : PySem.W.Frag) (a : Addr) (cls : Value) (d : Option Addr) (n : Str) (te : TE) : TE := fun σ H Q => te σ H fun x H1 => x = .ref a ∧ ∃ (D dd : Addr) (fs : List (Str × V)) (v : V), cls = .ref D ∧ d = some dd ∧ ExcC K D ∧ PySem.W.findIn K (.ref D) n = some none ∧
  H1 dd = some (.xd fs) ∧ fs.lookup n = some v ∧ Q v H1
theorem pe_xfX {e : Expr} {te : TE} {pos : Pos} {n : Str} (hq : q ∈ X.pn) (hz : Zc cls d q.2) (hf : ∃ vs, q.2.data = .fields vs) (he : PE X e te) (hb : attributeBase e n X.env (eval e X.env) = eval e X.env := by rfl) :
    PE X (.Attribute e n pos) (tXfX X.K q.1 cls d n te) := by
  refine ⟨fun pins s σ H Q I h => ?_⟩
  refine attr_of hb (thn (he.run pins s σ H _ I h) fun u s1 hh => ?_)
  obtain ⟨x, H1, I1, rx, ex, D, dd, fs, v, rfl, rfl, C, hno, hd, hl, z⟩ := hh
  subst ex
  obtain rfl : u = Value.ref q.1 := rx
  obtain ⟨od, mA, J, hr, hlk⟩ := inst_at (K := X.K) I1 hq hz hf hd
  obtain ⟨u, hu, ru⟩ := RelO.some_of (v := v) (o := mA n) (by rw [← hl]; exact hr n)
  exact HandSPX.exc_get I1.kIn J C.hg C.hk C.hs (PySem.W.findObj_own C.hd hno rfl (by rw [hlk, hu])) (handed_of ru) ⟨v, H1, I1.tok _, ru, z⟩
end
end Qk

set_option Elab.async false
set_option linter.all false
set_option maxRecDepth 100000
set_option maxHeartbeats 4000000
namespace Qk
open PySem PySem.Spec PyProof.Rows L2
/-! ### kinds of data -/
def tyD : PyData → String
  | .none => "NoneType" | .bool _ => "bool" | .int _ => "int" | .str _ => "str" | .list _ => "list" | .tuple _ => "tuple" | .dict _ => "dict"
section
variable {K : PySem.W.Frag} {H : Hp}
theorem tyx_sqL {a : Addr} {xs : List V} (h : SqL K H a xs) : TyX K H (.ref a) (.type "list") := by
  rcases h with (h | ⟨o, h⟩) | ⟨o, its, n, h, c, _⟩
  · exact .base (.lst h)
  · exact .base (.frz h)
  · exact .kList h c
theorem tyx_sqT {a : Addr} {xs : List V} (h : SqT K H a xs) : TyX K H (.ref a) (.type "tuple") := by
  rcases h with (h | ⟨o, h⟩) | ⟨o, its, n, h, c, _⟩
  · exact .base (.tup h)
  · exact .fTuple h
  · exact .kTuple h c
theorem tyx_dp {v : V} {d : PyData} (h : Dp K H v d) : TyX K H v (.type (tyD d)) := by
  cases h with
  | non => exact .base .non
  | bl b => exact .base (.bl b)
  | int i => exact .base (.int i)
  | str x => exact .base (.str x)
  | lst h _ => exact tyx_sqL h
  | tup h _ => exact tyx_sqT h
theorem tyx_vd {v : V} {d : PyData} (h : Vd K H v d) : TyX K H v (.type (tyD d)) := by
  cases h with
  | dp h => exact tyx_dp h
  | d0 h => exact .base (.dK h)
end
def listD : PyData → Bool
  | .list _ => true | .tuple _ => true | _ => false
def tupD : PyData → Bool
  | .tuple _ => true | _ => false
def intD : PyData → Bool
  | .int _ => true | _ => false
def boolD : PyData → Bool
  | .bool _ => true | _ => false
def intbD : PyData → Bool
  | .int _ => true | .bool _ => true | _ => false
def itemsD : PyData → List PyData
  | .list l => l | .tuple l => l | _ => []
theorem kit_listD (K : PySem.W.Frag) : ∀ d : PyData, PySem.W.kitAny K (.type (tyD d)) [.type "list", .type "tuple"] = some (listD d)
  | .none => kitAny_cons (b := false) (kit_ty (show kitB "NoneType" "list" = some false by decide +kernel)) (fun _ => kitAny_cons (b := false) (kit_ty (show kitB "NoneType" "tuple" = some false by decide +kernel)) (fun _ => kitAny_nil) (fun h => by first | rfl | cases h)) (fun h => by first | rfl | cases h)
  | .bool _ => kitAny_cons (b := false) (kit_ty (show kitB "bool" "list" = some false by decide +kernel)) (fun _ => kitAny_cons (b := false) (kit_ty (show kitB "bool" "tuple" = some false by decide +kernel)) (fun _ => kitAny_nil) (fun h => by first | rfl | cases h)) (fun h => by first | rfl | cases h)
  | .int _ => kitAny_cons (b := false) (kit_ty (show kitB "int" "list" = some false by decide +kernel)) (fun _ => kitAny_cons (b := false) (kit_ty (show kitB "int" "tuple" = some false by decide +kernel)) (fun _ => kitAny_nil) (fun h => by first | rfl | cases h)) (fun h => by first | rfl | cases h)
  | .str _ => kitAny_cons (b := false) (kit_ty (show kitB "str" "list" = some false by decide +kernel)) (fun _ => kitAny_cons (b := false) (kit_ty (show kitB "str" "tuple" = some false by decide +kernel)) (fun _ => kitAny_nil) (fun h => by first | rfl | cases h)) (fun h => by first | rfl | cases h)
  | .list _ => kitAny_cons (b := true) (kit_ty (show kitB "list" "list" = some true by decide +kernel)) (fun _ => kitAny_cons (b := false) (kit_ty (show kitB "list" "tuple" = some false by decide +kernel)) (fun _ => by contradiction) (fun h => by first | rfl | cases h)) (fun h => by first | rfl | cases h)
  | .tuple _ => kitAny_cons (b := false) (kit_ty (show kitB "tuple" "list" = some false by decide +kernel)) (fun _ => kitAny_cons (b := true) (kit_ty (show kitB "tuple" "tuple" = some true by decide +kernel)) (fun _ => by contradiction) (fun h => by first | rfl | cases h)) (fun h => by first | rfl | cases h)
  | .dict _ => kitAny_cons (b := false) (kit_ty (show kitB "dict" "list" = some false by decide +kernel)) (fun _ => kitAny_cons (b := false) (kit_ty (show kitB "dict" "tuple" = some false by decide +kernel)) (fun _ => kitAny_nil) (fun h => by first | rfl | cases h)) (fun h => by first | rfl | cases h)
theorem kit_tupD (K : PySem.W.Frag) : ∀ d : PyData, PySem.W.kitOne K (.type (tyD d)) (.type "tuple") = some (tupD d)
  | .none => kit_ty (show kitB "NoneType" "tuple" = some false by decide +kernel)
  | .bool _ => kit_ty (show kitB "bool" "tuple" = some false by decide +kernel)
  | .int _ => kit_ty (show kitB "int" "tuple" = some false by decide +kernel)
  | .str _ => kit_ty (show kitB "str" "tuple" = some false by decide +kernel)
  | .list _ => kit_ty (show kitB "list" "tuple" = some false by decide +kernel)
  | .tuple _ => kit_ty (show kitB "tuple" "tuple" = some true by decide +kernel)
  | .dict _ => kit_ty (show kitB "dict" "tuple" = some false by decide +kernel)
theorem kit_intbD (K : PySem.W.Frag) : ∀ d : PyData, PySem.W.kitOne K (.type (tyD d)) (.type "int") = some (intbD d)
  | .none => kit_ty (show kitB "NoneType" "int" = some false by decide +kernel)
  | .bool _ => kit_ty (show kitB "bool" "int" = some true by decide +kernel)
  | .int _ => kit_ty (show kitB "int" "int" = some true by decide +kernel)
  | .str _ => kit_ty (show kitB "str" "int" = some false by decide +kernel)
  | .list _ => kit_ty (show kitB "list" "int" = some false by decide +kernel)
  | .tuple _ => kit_ty (show kitB "tuple" "int" = some false by decide +kernel)
  | .dict _ => kit_ty (show kitB "dict" "int" = some false by decide +kernel)
theorem kit_boolD (K : PySem.W.Frag) : ∀ d : PyData, PySem.W.kitOne K (.type (tyD d)) (.type "bool") = some (boolD d)
  | .none => kit_ty (show kitB "NoneType" "bool" = some false by decide +kernel)
  | .bool _ => kit_ty (show kitB "bool" "bool" = some true by decide +kernel)
  | .int _ => kit_ty (show kitB "int" "bool" = some false by decide +kernel)
  | .str _ => kit_ty (show kitB "str" "bool" = some false by decide +kernel)
  | .list _ => kit_ty (show kitB "list" "bool" = some false by decide +kernel)
  | .tuple _ => kit_ty (show kitB "tuple" "bool" = some false by decide +kernel)
  | .dict _ => kit_ty (show kitB "dict" "bool" = some false by decide +kernel)
/-- promises of questions about data -/
def spD1 (K : PySem.W.Frag) (f : PyData → Bool) : Sp := fun vs H Q _ => ∃ (v : V) (d : PyData), vs = [v] ∧ Vd K H v d ∧ ∀ H', Same H H' → Q (.bl (f d)) H'
def spD2 (K : PySem.W.Frag) (f : PyData → Int → Bool) : Sp := fun vs H Q _ => ∃ (v : V) (d : PyData) (m : Int), vs = [v, .int m] ∧ Vd K H v d ∧ ∀ H', Same H H' → Q (.bl (f d m)) H'
def integerD (d : PyData) : Bool := intbD d && !boolD d
theorem integerD_int : ∀ d : PyData, integerD d = true ↔ ∃ i, d = .int i
  | .int i => ⟨fun _ => ⟨i, rfl⟩, fun _ => rfl⟩
  | .none => ⟨fun h => (by cases h), fun ⟨_, e⟩ => (by cases e)⟩
  | .bool b => ⟨fun h => (by cases h), fun ⟨_, e⟩ => (by cases e)⟩
  | .str b => ⟨fun h => (by cases h), fun ⟨_, e⟩ => (by cases e)⟩
  | .list b => ⟨fun h => (by cases h), fun ⟨_, e⟩ => (by cases e)⟩
  | .tuple b => ⟨fun h => (by cases h), fun ⟨_, e⟩ => (by cases e)⟩
  | .dict b => ⟨fun h => (by cases h), fun ⟨_, e⟩ => (by cases e)⟩
def indexD : PyData → Int → Bool
  | .int i, m => decide (0 ≤ i) && decide (i < m)
  | _, _ => false
def indexesD (d : PyData) (m : Int) : Bool := listD d && (itemsD d).all fun x => indexD x m
/-- the ints of data that are ints -/
def intsD : List PyData → List Int
  | [] => []
  | .int i :: r => i :: intsD r
  | _ :: r => 0 :: intsD r
/-- each less than the next one -/
def risingB : List Int → Bool
  | a :: b :: r => decide (a < b) && risingB (b :: r)
  | _ => true
def lotD (d : PyData) (m : Int) : Bool := indexesD d m && risingB (intsD (itemsD d))
def wordD (d : PyData) (m : Int) : Bool := indexesD d m && decide ((itemsD d).length ≤ 400)
/-! ### walks over a list or a tuple -/
section
variable {X : Cx} {tg e : Expr} {w1 w2 : TI}
theorem pi_or (h1 : PI X tg e w1) (h2 : PI X tg e w2) : PI X tg e (fun σ H R => w1 σ H R ∨ w2 σ H R) := by
  refine ⟨fun pins s σ H R I h => ?_⟩
  rcases h with h | h
  · exact h1.run pins s σ H R I h
  · exact h2.run pins s σ H R I h
theorem pi_seq {te : TE} (h : PE X e te) : PI X tg e (fun σ H R => iList X.K te σ H R ∨ iTup X.K te σ H R) := pi_or (pi_list h) (pi_tup h)
end
end Qk

set_option Elab.async false
set_option linter.all false
set_option maxRecDepth 100000
set_option maxHeartbeats 4000000
namespace Qk
open PySem PySem.Spec PyProof.Rows L2
/-! ### what is walked: n turns while R holds; Y: what a turn yields -/
structure Yl (J : It) (n : Nat) (R : Hp → Prop) (Y : Nat → V → Hp → Hp → Prop) : Prop where
  stop : ∀ H, R H → J.stop n H
  go : ∀ i H, i < n → R H → J.go i H
  yl : ∀ i x H H', i < n → R H → J.yld i H x H' → Y i x H H'
abbrev YOne (xs : List V) : Nat → V → Hp → Hp → Prop := fun i x H H' => H' = H ∧ xs[i]? = some x
theorem yl_list {K : PySem.W.Frag} {a : Addr} {xs : List V} {R : Hp → Prop} (hl : ∀ H, R H → SqL K H a xs) : Yl (Itl K a) xs.length R (YOne xs) where
  stop := fun H r => ⟨xs, hl H r, Nat.le_refl _⟩
  go := fun i H hi r => ⟨xs, xs[i], hl H r, List.getElem?_eq_getElem hi⟩
  yl := fun i x H H' _ r y => ⟨y.1, y.2 xs (hl H r)⟩
theorem yl_tup {K : PySem.W.Frag} {a : Addr} {xs : List V} {R : Hp → Prop} (hl : ∀ H, R H → SqT K H a xs) : Yl (Itt K a) xs.length R (YOne xs) where
  stop := fun H r => ⟨xs, hl H r, Nat.le_refl _⟩
  go := fun i H hi r => ⟨xs, xs[i], hl H r, List.getElem?_eq_getElem hi⟩
  yl := fun i x H H' _ r y => ⟨y.1, y.2 xs (hl H r)⟩
theorem yl_range {lo : Int} {n : Nat} {R : Hp → Prop} : Yl (Itr lo n) n R (fun i x H H' => H' = H ∧ x = .int (lo + i)) where
  stop := fun H r => Nat.le_refl _
  go := fun i H hi r => hi
  yl := fun i x H H' _ r y => y
abbrev YTwo (xs ys : List V) : Nat → V → Hp → Hp → Prop := fun i v H H' => ∃ T x y, v = .ref T ∧ H T = none ∧ H' = upd H T (.tup [x, y]) ∧ xs[i]? = some x ∧ ys[i]? = some y
theorem yl_zipT {K : PySem.W.Frag} {a b : Addr} {xs ys : List V} {R : Hp → Prop} (hx : ∀ H, R H → SqT K H a xs) (hy : ∀ H, R H → SqT K H b ys) : Yl (RZ.ItzT K a b) (min xs.length ys.length) R (YTwo xs ys) where
  stop := fun H r => ⟨xs, ys, hx H r, hy H r, by omega⟩
  go := fun i H hi r => ⟨xs, ys, xs[i]'(by omega), ys[i]'(by omega), hx H r, hy H r, List.getElem?_eq_getElem _, List.getElem?_eq_getElem _⟩
  yl := fun i v H H' _ r ⟨T, x, y, e1, e2, e3, f1, f2⟩ => ⟨T, x, y, e1, e2, e3, f1 xs (hx H r), f2 ys (hy H r)⟩
theorem yl_zipL {K : PySem.W.Frag} {a b : Addr} {xs ys : List V} {R : Hp → Prop} (hx : ∀ H, R H → SqL K H a xs) (hy : ∀ H, R H → SqL K H b ys) : Yl (Itz K a b) (min xs.length ys.length) R (YTwo xs ys) where
  stop := fun H r => ⟨xs, ys, hx H r, hy H r, by omega⟩
  go := fun i H hi r => ⟨xs, ys, xs[i]'(by omega), ys[i]'(by omega), hx H r, hy H r, List.getElem?_eq_getElem _, List.getElem?_eq_getElem _⟩
  yl := fun i v H H' _ r ⟨T, x, y, e1, e2, e3, f1, f2⟩ => ⟨T, x, y, e1, e2, e3, f1 xs (hx H r), f2 ys (hy H r)⟩
abbrev YEnum (xs : List V) : Nat → V → Hp → Hp → Prop := fun i v H H' => ∃ T x, v = .ref T ∧ H T = none ∧ H' = upd H T (.tup [.int (i : Nat), x]) ∧ xs[i]? = some x
theorem yl_enum {K : PySem.W.Frag} {a : Addr} {xs : List V} {R : Hp → Prop} (hl : ∀ H, R H → SqL K H a xs) : Yl (Ite K a) xs.length R (YEnum xs) where
  stop := fun H r => ⟨xs, hl H r, Nat.le_refl _⟩
  go := fun i H hi r => ⟨xs, xs[i], hl H r, List.getElem?_eq_getElem hi⟩
  yl := fun i v H H' _ r ⟨T, x, e1, e2, e3, f⟩ => ⟨T, x, e1, e2, e3, f xs (hl H r)⟩
/-! ### comprehensions: R what holds of the heap, Rel what is made so far -/
theorem lcg {J : It} {n : Nat} {R : Hp → Prop} {Y : Nat → V → Hp → Hp → Prop} {g : TG} {tt : TT} {te : TE} {vs : List Nat} {σ : Slots} {H1 : Hp} {D : Addr} {Qd : Hp → Prop} (yl : Yl J n R Y) (hn : n ≤ 1000)
    (Rel : Nat → List V → Prop) (r1 : R H1) (r0 : Rel 0 []) (rD : ∀ H o, R H → R (upd H D o))
    (turn : ∀ i x acc H H' (T : VK) (N : Hp → Prop), i < n → Rel i acc → R H → H D = some (.lst acc) → Y i x H H' → (∀ y H4, R H4 → H4 D = some (.lst acc) → Rel (i + 1) (acc ++ [y]) → T y H4) → (∀ H3, R H3 → H3 D = some (.lst acc) → Rel (i + 1) acc → N H3) →
      g x (wipe σ vs) H' fun σ2 H2 => wipe σ2 vs = wipe σ vs ∧ tt σ2 H2 fun b H3 => if b = true then te σ2 H3 T else N H3)
    (fin : ∀ H acc, R H → H D = some (.lst acc) → Rel n acc → Qd H) :
    ∃ W : Nat → Nat → Hp → Prop, (∃ m, W 0 m (upd H1 D (.lst []))) ∧ ∀ i m H, W i m H →
      (J.stop i H ∧ Qd H) ∨ (J.go i H ∧ ∃ Nx : Hp → Prop, (∀ H', Nx H' → ∃ m', m' < m ∧ W (i + 1) m' H') ∧ ∀ x H', J.yld i H x H' → g x (wipe σ vs) H' fun σ2 H2 => wipe σ2 vs = wipe σ vs ∧ tt σ2 H2 fun b H3 =>
        if b = true then te σ2 H3 fun y H4 => ∃ acc, H4 D = some (.lst acc) ∧ acc.length < sizeLine ∧ Nx (upd H4 D (.lst (acc ++ [y]))) else Nx H3) := by
  refine ⟨fun i m H => m + i = n ∧ R H ∧ ∃ acc, H D = some (.lst acc) ∧ acc.length ≤ i ∧ Rel i acc, ⟨n, rfl, rD _ _ r1, [], upd_same, Nat.le_refl _, r0⟩, ?_⟩
  intro i m H ⟨em, hR, acc, hD, hlen, hrel⟩
  by_cases hi : i < n
  · refine .inr ⟨yl.go i H hi hR, fun H' => R H' ∧ ∃ acc, H' D = some (.lst acc) ∧ acc.length ≤ i + 1 ∧ Rel (i + 1) acc, fun H' h => ⟨m - 1, by omega, by omega, h⟩, fun x H' hy => ?_⟩
    refine turn i x acc H H' _ _ hi hrel hR hD (yl.yl i x H H' hi hR hy) (fun y H4 q1 q2 q3 => ⟨acc, q2, small1000 (by omega), rD _ _ q1, _, upd_same, ?_, q3⟩) (fun H3 q1 q2 q3 => ⟨q1, acc, q2, by omega, q3⟩)
    rw [List.length_append]
    exact Nat.succ_le_succ hlen
  · have e : i = n := by omega
    subst e
    exact .inl ⟨yl.stop H hR, fin H acc hR hD hrel⟩
/-! ### for loops -/
theorem forg {J : It} {n : Nat} {R : Hp → Prop} {Y : Nat → V → Hp → Hp → Prop} {g : TG} {tb : TS} {σ : Slots} {H1 : Hp} {D : Ends} (yl : Yl J n R Y)
    (Pv : Nat → Slots → Hp → Prop) (p0 : Pv 0 σ H1) (pR : ∀ i σ H, Pv i σ H → R H)
    (turn : ∀ i x σ H H' (N : Slots → Hp → Prop), i < n → Pv i σ H → Y i x H H' → (∀ σ' H', Pv (i + 1) σ' H' → N σ' H') → g x σ H' fun σ2 H2 => tb { D with nx := N, ct := N, bk := D.nx } σ2 H2)
    (fin : ∀ σ H, Pv n σ H → D.nx σ H) :
    ∃ W : Nat → Nat → Slots → Hp → Prop, (∃ m, W 0 m σ H1) ∧ ∀ i m σ H, W i m σ H →
      (J.stop i H ∧ D.nx σ H) ∨ (J.go i H ∧ ∃ N : Slots → Hp → Prop, (∀ σ' H', N σ' H' → ∃ m', m' < m ∧ W (i + 1) m' σ' H') ∧ ∀ x H', J.yld i H x H' → g x σ H' fun σ2 H2 => tb { D with nx := N, ct := N, bk := D.nx } σ2 H2) := by
  refine ⟨fun i m σ H => m + i = n ∧ Pv i σ H, ⟨n, rfl, p0⟩, ?_⟩
  intro i m σ H ⟨em, hP⟩
  have hR := pR _ _ _ hP
  by_cases hi : i < n
  · exact .inr ⟨yl.go i H hi hR, fun σ' H' => Pv (i + 1) σ' H', fun σ' H' h => ⟨m - 1, by omega, by omega, h⟩, fun x H' hy => turn i x σ H H' _ hi hP (yl.yl i x H H' hi hR hy) fun _ _ h => h⟩
  · have e : i = n := by omega
    subst e
    exact .inl ⟨yl.stop H hR, fin σ H hP⟩
/-! ### the relations in use -/
theorem same_upd_new {H H' : Hp} {D : Addr} {o : HO} (h : H D = none) (s : Same H H') : Same H (upd H' D o) := fun b u e => by
  rw [upd_ne (ne_of_none e h)]
  exact s b u e
end Qk
namespace Qk
open PySem PySem.Spec PyProof.Rows L2
def spD2s (K : PySem.W.Frag) (f : PyData → Int → Bool) : Sp := fun vs H Q _ => ∃ (v : V) (d : PyData) (m : Int), vs = [v, .int m] ∧ Vd K H v d ∧ (itemsD d).length ≤ 1000 ∧ ∀ H', Same H H' → Q (.bl (f d m)) H'
/-- a list or a tuple of data -/
theorem vd_seq {K : PySem.W.Frag} {H : Hp} {v : V} {d : PyData} (h : Vd K H v d) (l : listD d = true) : ∃ (a : Addr) (xs : List V), v = .ref a ∧ DpAll K H xs (itemsD d) ∧ (SqL K H a xs ∨ SqT K H a xs) := by
  cases h with
  | d0 h => cases l
  | dp h =>
    cases h with
    | lst h1 h2 => exact ⟨_, _, rfl, h2, .inl h1⟩
    | tup h1 h2 => exact ⟨_, _, rfl, h2, .inr h1⟩
    | _ => cases l
theorem take_snoc {α : Type} {l : List α} {i : Nat} {x : α} (h : l[i]? = some x) : l.take (i + 1) = l.take i ++ [x] := by
  rw [List.take_add_one, h]
  rfl
end Qk
namespace Qk
open PySem PySem.Spec PyProof.Rows L2
theorem indexD_int {d : PyData} {m : Int} (h : indexD d m = true) : ∃ i, d = .int i ∧ 0 ≤ i ∧ i < m := by
  cases d with
  | int i =>
    have h' : (decide (0 ≤ i) && decide (i < m)) = true := h
    simp only [Bool.and_eq_true, decide_eq_true_eq] at h'
    exact ⟨i, rfl, h'.1, h'.2⟩
  | _ => cases h
theorem all_ints : ∀ {ds : List PyData} {m : Int}, (ds.all fun x => indexD x m) = true → ∃ ns : List Int, ds = ns.map PyData.int ∧ ∀ n ∈ ns, 0 ≤ n ∧ n < m
  | [], _, _ => ⟨[], rfl, fun _ h => nomatch h⟩
  | d :: ds, m, h => by
    rw [List.all_cons, Bool.and_eq_true] at h
    obtain ⟨i, rfl, h1, h2⟩ := indexD_int h.1
    obtain ⟨ns, rfl, hn⟩ := all_ints h.2
    refine ⟨i :: ns, rfl, fun n hm => ?_⟩
    rcases List.mem_cons.mp hm with e | hm
    · rw [e]; exact ⟨h1, h2⟩
    · exact hn n hm
theorem intsD_map : ∀ ns : List Int, intsD (ns.map PyData.int) = ns
  | [] => rfl
  | n :: ns => by
    show n :: intsD (ns.map PyData.int) = n :: ns
    rw [intsD_map ns]
theorem indexes_ints {d : PyData} {m : Int} (h : indexesD d m = true) : listD d = true ∧ ∃ ns : List Int, itemsD d = ns.map PyData.int ∧ ∀ n ∈ ns, 0 ≤ n ∧ n < m := by
  unfold indexesD at h
  rw [Bool.and_eq_true] at h
  exact ⟨h.1, all_ints h.2⟩
theorem rising_eq : ∀ ns : List Int, risingB ns = (List.range (ns.length - 1)).all fun k => decide (ns.getD k 0 < ns.getD (k + 1) 0)
  | [] => rfl
  | [_] => rfl
  | a :: b :: r => by
    have ih := rising_eq (b :: r)
    have e : (a :: b :: r).length - 1 = (b :: r).length - 1 + 1 := by simp
    rw [e, List.range_succ_eq_map, List.all_cons, List.all_map]
    show (decide (a < b) && risingB (b :: r)) = _
    rw [ih]
    rfl
end Qk

set_option Elab.async false
set_option linter.all false
set_option maxRecDepth 100000
set_option maxHeartbeats 4000000
namespace Qk
open PySem PySem.Spec PyProof.Rows L2
/-! ### the rules whose readings name the written part, told with K as a letter of its own (a comprehension's block bears the same K) -/
section
variable {X : Cx} (K : PySem.W.Frag)
theorem k_ixseq (h : X.K = K := by rfl) : IxR X (rIx K) := by subst h; exact ix_seq
theorem k_ixlist (h : X.K = K := by rfl) : IxR X (rIxL K) := by subst h; exact ix_list
theorem k_ixtup (h : X.K = K := by rfl) : IxR X (rIxT K) := by subst h; exact ix_tup
theorem k_in (h : X.K = K := by rfl) : OpR X (compareOp .In) (rIn K false) := by subst h; exact op_in_seq
theorem k_notin (h : X.K = K := by rfl) : OpR X (compareOp .NotIn) (rIn K true) := by subst h; exact op_notIn_seq
theorem k_inD (hu : X.A.units + 65 < cLine) (h : X.K = K := by rfl) : OpR X (compareOp .In) (rInD K) := by subst h; exact op_inD hu
theorem k_notinD (hu : X.A.units + 65 < cLine) (h : X.K = K := by rfl) : OpR X (compareOp .NotIn) (rNotInD K) := by subst h; exact op_notInD hu
theorem k_eqD (hu : X.A.units + 64 < cLine) (h : X.K = K := by rfl) : OpR X (compareOp .Eq) (rEqD K) := by subst h; exact op_eqD hu
theorem k_neD (hu : X.A.units + 64 < cLine) (h : X.K = K := by rfl) : OpR X (compareOp .NotEq) (rNeD K) := by subst h; exact op_neD hu
theorem k_catA (h : X.K = K := by rfl) : OpR X (binaryOp .Add) (rCatA K) := by subst h; exact op_catA
theorem k_repT (h : X.K = K := by rfl) : OpR X (binaryOp .Mult) (rRepT K) := by subst h; exact op_repT
theorem k_sltup (h : X.K = K := by rfl) : SlR X (rSlA K) := by subst h; exact sl_tupA
theorem k_sllist (h : X.K = K := by rfl) : SlR X (rSlL K) := by subst h; exact sl_list
def rLenK (K : PySem.W.Frag) : List V → Hp → VK → Prop := fun xs H Q => ∃ p ys, xs = [.ref p] ∧ (SqL K H p ys ∨ SqT K H p ys) ∧ Q (.int ys.length) H
theorem k_len (h : X.K = K := by rfl) : CallR X (.builtin "len") (rLenK K) := by subst h; exact call_len_seq
def rListK (K : PySem.W.Frag) : List V → Hp → VK → Prop := fun xs H Q => ∃ p ys, xs = [.ref p] ∧ (SqL K H p ys ∨ SqT K H p ys) ∧ ∀ l, H l = none → Q (.ref l) (upd H l (.lst ys))
theorem k_list (h : X.K = K := by rfl) : CallR X (.type "list") (rListK K) := by subst h; exact call_list_of
def rTupleK (K : PySem.W.Frag) : List V → Hp → VK → Prop := fun xs H Q => ∃ p ys, xs = [.ref p] ∧ ((SqL K H p ys ∧ ∀ l, H l = none → Q (.ref l) (upd H l (.tup ys))) ∨ (SqT K H p ys ∧ Q (.ref p) H))
theorem k_tuple (h : X.K = K := by rfl) : CallR X (.type "tuple") (rTupleK K) := by subst h; exact call_tuple_of
theorem k_all (hc : X.calm = true) (h : X.K = K := by rfl) : CallR X (.builtin "all") (rAll K) := by subst h; exact cr_all hc
theorem k_any (hc : X.calm = true) (h : X.K = K := by rfl) : CallR X (.builtin "any") (rAny K) := by subst h; exact cr_any hc
theorem k_sum (hc : X.calm = true) (h : X.K = K := by rfl) : CallR X (.builtin "sum") (rSum K) := by subst h; exact cr_sum hc
theorem k_isi (h : X.K = K := by rfl) : CallR X (.builtin "isinstance") (rIsi K) := by subst h; exact call_isi
theorem k_isiT (h : X.K = K := by rfl) : CallR X (.builtin "isinstance") (rIsiT K) := by subst h; exact call_isiT
def rReprK (K : PySem.W.Frag) : List V → Hp → VK → Prop := fun xs H Q => ∃ (v : V) (d : PyData), xs = [v] ∧ Vd K H v d ∧ d.showable = true ∧ d.depth ≤ 60 ∧ d.shown.length ≤ sizeLine ∧ Q (.str d.shown) H
theorem k_repr (hg : X.A.guards = some []) (hu : X.A.units + 64 < cLine) (h : X.K = K := by rfl) : CallR X (.builtin "repr") (rReprK K) := by subst h; exact call_repr hg hu
variable {tg e : Expr} {te : TE}
theorem k_pilist (he : PE X e te) (h : X.K = K := by rfl) : PI X tg e (iList K te) := by subst h; exact pi_list he
theorem k_pitup (he : PE X e te) (h : X.K = K := by rfl) : PI X tg e (iTup K te) := by subst h; exact pi_tup he
theorem k_piseq (he : PE X e te) (h : X.K = K := by rfl) : PI X tg e (fun σ H R => iList K te σ H R ∨ iTup K te σ H R) := by subst h; exact pi_seq he
theorem k_pizip {e2 : Expr} {ta : TA} {p pos tpos : Pos} {elts : List Expr} {kk : Nat} (hg : Gl X "zip") (hm : X.mg "zip" = none) (ha : PA X [e, e2] ta) (h : X.K = K := by rfl)
    (hs : starEach [e, e2] X.env = (false, eval e X.env) :: starEach [e2] X.env := by rfl) (hpl : (backTo pos (starEach [e2] X.env)).any (·.1) = false := by rfl) :
    PI X (.Tuple elts kk tpos) (.Call (.Name "zip" p) [e, e2] [] pos) (RZ.iZipA K ta) := by subst h; exact RZ.pi_zipA hg hm ha hs hpl
theorem k_pienum {ta : TA} {p pos tpos : Pos} {elts : List Expr} {kk : Nat} (hg : Gl X "enumerate") (hm : X.mg "enumerate" = none) (ha : PA X [e] ta) (h : X.K = K := by rfl)
    (hs : starEach [e] X.env = [(false, eval e X.env)] := by rfl) : PI X (.Tuple elts kk tpos) (.Call (.Name "enumerate" p) [e] [] pos) (iEnum K ta) := by subst h; exact pi_enum hg hm ha hs
theorem k_pgtup {es : List Expr} {k n : Nat} {t : TGs} {pos : Pos} (hc : X.calm = true) (h : PGs X es t) (hK : X.K = K := by rfl)
    (hn : (assignEach es X.env).length = n := by rfl) (hst : (assignEach es X.env).findIdx? (·.1) = none := by rfl) : PG X (.Tuple es k pos) (gTup K n t) := by subst hK; exact pg_tup hc h hn hst
/-! ### xs.append(e), xs.extend(e) -/
def tAppend (to te : TE) : TE := fun σ H Q => to σ H fun x H1 => ∃ (l : Addr) (xs1 : List V), x = .ref l ∧ H1 l = some (.lst xs1) ∧ te σ H1 fun y H2 => ∃ xs : List V, H2 l = some (.lst xs) ∧ xs.length < sizeLine ∧ Q .non (upd H2 l (.lst (xs ++ [y])))
def tExtend (to te : TE) : TE := fun σ H Q => to σ H fun x H1 => ∃ (l : Addr) (xs1 : List V), x = .ref l ∧ H1 l = some (.lst xs1) ∧ te σ H1 fun y H2 => ∃ (b : Addr) (xs zs : List V), y = .ref b ∧ H2 l = some (.lst xs) ∧ H2 b = some (.lst zs) ∧ xs.length + zs.length ≤ sizeLine ∧ Q .non (upd H2 l (.lst (xs ++ zs)))
end
/-- a reading, weakened behind -/
def tUp (t : TE) : TE := fun σ H Q => ∃ Q0 : VK, t σ H Q0 ∧ ∀ v H', Q0 v H' → Q v H'
section
variable {X : Cx} {o e : Expr} {to te : TE} {apos cpos : Pos}
theorem pe_up (h : PE X e te) : PE X e (tUp te) := ⟨fun pins s σ H Q I ⟨Q0, q, m⟩ => thn (h.run pins s σ H Q0 I q) fun u s' ⟨v, H', I', r, z⟩ => ⟨v, H', I', r, m v H' z⟩⟩
theorem pe_conv {t t' : TE} (h : PE X e t) (c : ∀ σ H Q, t' σ H Q → t σ H Q) : PE X e t' := ⟨fun pins s σ H Q I q => h.run pins s σ H Q I (c σ H Q q)⟩
theorem pe_append (ho : PE X o to) (he : PE X e te) (hbase : attributeBase o "append" X.env (eval o X.env) = eval o X.env := by rfl) (hs : starEach [e] X.env = (false, eval e X.env) :: starEach [] X.env := by rfl)
    (hfew : ((backTo cpos (starEach [e] X.env)).all (fun x => !x.1) && (backToKw cpos (keywordEach [] X.env)).all (fun x => x.1.isSome)
      && decide (([e] : List Expr).length + ([] : List Keyword).length + (if ([] : List Keyword).isEmpty then 0 else 1) < 30)) = true := by rfl)
    (hline : (apos.endLine == cpos.line) = true := by rfl) (hpl : (backTo cpos (starEach [] X.env)).any (·.1) = false := by rfl) :
    PE X (.Call (.Attribute o "append" apos) [e] [] cpos) (tAppend to te) := by
  refine pe_conv (pe_bm PySem.F.plainAttrs_list PySem.F.slot_list_append PySem.F.type_list_append mt_append (pe_up ho) (pa_cons (pe_up he) pa_nil hs) hbase hfew hline hs hpl) fun σ H Q q => ?_
  refine ⟨_, q, fun x H1 ⟨l, xs1, e1, hl, q1⟩ => ?_⟩
  subst e1
  exact ⟨.inl ⟨rfl, _, SqL.of hl⟩, _, q1, fun y H2 ⟨xs, h2, hz, q2⟩ => ⟨l, xs, y, rfl, rfl, h2, hz, q2⟩⟩
theorem pe_extend (ho : PE X o to) (he : PE X e te) (hbase : attributeBase o "extend" X.env (eval o X.env) = eval o X.env := by rfl) (hs : starEach [e] X.env = (false, eval e X.env) :: starEach [] X.env := by rfl)
    (hfew : ((backTo cpos (starEach [e] X.env)).all (fun x => !x.1) && (backToKw cpos (keywordEach [] X.env)).all (fun x => x.1.isSome)
      && decide (([e] : List Expr).length + ([] : List Keyword).length + (if ([] : List Keyword).isEmpty then 0 else 1) < 30)) = true := by rfl)
    (hline : (apos.endLine == cpos.line) = true := by rfl) (hpl : (backTo cpos (starEach [] X.env)).any (·.1) = false := by rfl) :
    PE X (.Call (.Attribute o "extend" apos) [e] [] cpos) (tExtend to te) := by
  refine pe_conv (pe_bm PySem.F.plainAttrs_list PySem.F.slot_list_extend PySem.F.type_list_extend mt_extend (pe_up ho) (pa_cons (pe_up he) pa_nil hs) hbase hfew hline hs hpl) fun σ H Q q => ?_
  refine ⟨_, q, fun x H1 ⟨l, xs1, e1, hl, q1⟩ => ?_⟩
  subst e1
  exact ⟨.inl ⟨rfl, _, SqL.of hl⟩, _, q1, fun y H2 ⟨b, xs, zs, ey, h2, h3, hz, q2⟩ => ⟨l, b, xs, zs, rfl, by rw [ey], h2, h3, hz, q2⟩⟩
end
end Qk

set_option Elab.async false
set_option linter.all false
set_option maxRecDepth 100000
set_option maxHeartbeats 4000000
namespace Qk
open PySem PySem.Spec PyProof.Rows L2
/-! ### the pen -/
def penL (c : Addr) (at_ dg ct fo : Int) : List (Key × V) := [(.inr "cells", .ref c), (.inr "at", .int at_), (.inr "digits", .int dg), (.inr "count", .int ct), (.inr "fold", .int fo)]
section
variable {H : Hp} {p c : Addr} {at_ dg ct fo x : Int}
theorem pen_cells (h : H p = some (.dK (penL c at_ dg ct fo))) : DGet H p (.str "cells") (some (.ref c)) := by
  have q := DGet.k (k := .inr "cells") h
  have e : valV (penL c at_ dg ct fo) (.inr "cells") = some (.ref c) := by rfl
  rw [e] at q
  exact q
theorem pen_at (h : H p = some (.dK (penL c at_ dg ct fo))) : DGet H p (.str "at") (some (.int at_)) := by
  have q := DGet.k (k := .inr "at") h
  have e : valV (penL c at_ dg ct fo) (.inr "at") = some (.int at_) := by rfl
  rw [e] at q
  exact q
theorem pen_dg (h : H p = some (.dK (penL c at_ dg ct fo))) : DGet H p (.str "digits") (some (.int dg)) := by
  have q := DGet.k (k := .inr "digits") h
  have e : valV (penL c at_ dg ct fo) (.inr "digits") = some (.int dg) := by rfl
  rw [e] at q
  exact q
theorem pen_ct (h : H p = some (.dK (penL c at_ dg ct fo))) : DGet H p (.str "count") (some (.int ct)) := by
  have q := DGet.k (k := .inr "count") h
  have e : valV (penL c at_ dg ct fo) (.inr "count") = some (.int ct) := by rfl
  rw [e] at q
  exact q
theorem pen_fo (h : H p = some (.dK (penL c at_ dg ct fo))) : DGet H p (.str "fold") (some (.int fo)) := by
  have q := DGet.k (k := .inr "fold") h
  have e : valV (penL c at_ dg ct fo) (.inr "fold") = some (.int fo) := by rfl
  rw [e] at q
  exact q
theorem put_at (h : H p = some (.dK (penL c at_ dg ct fo))) : DPut H p (.str "at") (.int x) (upd H p (.dK (penL c x dg ct fo))) := by
  have q := DPut.k (k := .inr "at") (v := .int x) h (show 5 < sizeLine by decide)
  have e : putK (penL c at_ dg ct fo) (.inr "at") (.int x) = penL c x dg ct fo := by rfl
  rw [e] at q
  exact q
theorem put_dg (h : H p = some (.dK (penL c at_ dg ct fo))) : DPut H p (.str "digits") (.int x) (upd H p (.dK (penL c at_ x ct fo))) := by
  have q := DPut.k (k := .inr "digits") (v := .int x) h (show 5 < sizeLine by decide)
  have e : putK (penL c at_ dg ct fo) (.inr "digits") (.int x) = penL c at_ x ct fo := by rfl
  rw [e] at q
  exact q
theorem put_ct (h : H p = some (.dK (penL c at_ dg ct fo))) : DPut H p (.str "count") (.int x) (upd H p (.dK (penL c at_ dg x fo))) := by
  have q := DPut.k (k := .inr "count") (v := .int x) h (show 5 < sizeLine by decide)
  have e : putK (penL c at_ dg ct fo) (.inr "count") (.int x) = penL c at_ dg x fo := by rfl
  rw [e] at q
  exact q
theorem put_fo (h : H p = some (.dK (penL c at_ dg ct fo))) : DPut H p (.str "fold") (.int x) (upd H p (.dK (penL c at_ dg ct x))) := by
  have q := DPut.k (k := .inr "fold") (v := .int x) h (show 5 < sizeLine by decide)
  have e : putK (penL c at_ dg ct fo) (.inr "fold") (.int x) = penL c at_ dg ct x := by rfl
  rw [e] at q
  exact q
end
/-- a pen: where it stands, its list of cells, what this holds -/
structure Pn where
  p : Addr
  c : Addr
  cells : List Int
/-- the pen stands -/
def PenOk (n : Pn) (H : Hp) : Prop := ∃ (at_ dg ct fo : Int), H n.p = some (.dK (penL n.c at_ dg ct fo)) ∧ H n.c = some (.lst (n.cells.map V.int)) ∧ 0 ≤ at_ ∧ 0 ≤ dg ∧ 0 ≤ fo ∧ fo < 2147483648
theorem PenOk.dk {n : Pn} {H : Hp} (h : PenOk n H) : IsDk H n.p := by
  obtain ⟨a, d, ct, f, e, _⟩ := h
  exact ⟨_, e⟩
theorem PenOk.same {n : Pn} {H H' : Hp} (h : PenOk n H) (s : Same H H') : PenOk n H' := by
  obtain ⟨a, d, ct, f, e, e2, r⟩ := h
  exact ⟨a, d, ct, f, s _ _ e, s _ _ e2, r⟩
/-- all but the pen stays, the pen stays a pen -/
structure Pen (n : Pn) (H H' : Hp) : Prop where
  but : But n.p H H'
  ok : PenOk n H'
section
variable {n : Pn} {K : PySem.W.Frag} {H H1 H' : Hp} {a : Addr} {xs : List V}
theorem Pen.rfl' (h : PenOk n H) : Pen n H H := ⟨But.rfl', h⟩
theorem Pen.trans (h1 : Pen n H H1) (h2 : Pen n H1 H') : Pen n H H' := ⟨h1.but.trans h2.but, h2.ok⟩
theorem Pen.same (h1 : Pen n H H1) (s : Same H1 H') : Pen n H H' := ⟨h1.but.trans (.of s), h1.ok.same s⟩
theorem Pen.of (h : PenOk n H) (s : Same H H') : Pen n H H' := ⟨.of s, h.same s⟩
theorem Pen.seqL (h : Pen n H H') (o : PenOk n H) (q : SqL K H a xs) : SqL K H' a xs := sqL_but h.but o.dk q
theorem Pen.seqT (h : Pen n H H') (o : PenOk n H) (q : SqT K H a xs) : SqT K H' a xs := sqT_but h.but o.dk q
theorem Pen.dp (h : Pen n H H') (o : PenOk n H) {v : V} {d : PyData} (q : Dp K H v d) : Dp K H' v d := dp_but h.but o.dk q
theorem Pen.dps (h : Pen n H H') (o : PenOk n H) {v : List V} {d : List PyData} (q : DpAll K H v d) : DpAll K H' v d := dpAll_but h.but o.dk q
theorem pen_nonempty (o : PenOk n H) : H n.p ≠ some (.dK []) := by
  obtain ⟨a, d, ct, f, e, _⟩ := o
  rw [e]
  intro z
  have z' := HO.dK.inj (Option.some.inj z)
  cases z'
theorem Pen.vd (h : Pen n H H') (o : PenOk n H) {v : V} {d : PyData} (q : Vd K H v d) : Vd K H' v d := by
  cases q with
  | dp q => exact .dp (h.dp o q)
  | @d0 b q =>
    refine .d0 (h.but _ _ (fun z => ?_) q)
    rw [z] at q
    exact pen_nonempty o q
/-- a list that is being made stays -/
theorem Pen.lst (h : Pen n H H') (o : PenOk n H) (q : H a = some (.lst xs)) : H' a = some (.lst xs) := by
  refine h.but _ _ (fun z => ?_) q
  obtain ⟨kvs, e⟩ := o.dk
  rw [z, e] at q
  cases q
theorem Pen.tup (h : Pen n H H') (o : PenOk n H) (q : H a = some (.tup xs)) : H' a = some (.tup xs) := by
  refine h.but _ _ (fun z => ?_) q
  obtain ⟨kvs, e⟩ := o.dk
  rw [z, e] at q
  cases q
/-- what is new at a may be written -/
theorem Pen.put (h : Pen n H H') (o : PenOk n H) (e : H a = none) {u : HO} : Pen n H (upd H' a u) := by
  obtain ⟨a1, d1, ct1, f1, e1, e2, _⟩ := o
  have np : a ≠ n.p := fun z => by rw [z, e1] at e; cases e
  have nc : a ≠ n.c := fun z => by rw [z, e2] at e; cases e
  obtain ⟨a2, d2, ct2, f2, e3, e4, r⟩ := h.ok
  refine ⟨fun b x nb q => ?_, a2, d2, ct2, f2, ?_, ?_, r⟩
  · rw [upd_ne (ne_of_none q e)]
    exact h.but b x nb q
  · rw [upd_ne np.symm]
    exact e3
  · rw [upd_ne nc.symm]
    exact e4
end
end Qk
namespace Qk
open PySem PySem.Spec PyProof.Rows L2
/-- a draw: any number below many -/
def spDraw : Sp := fun vs H Q _ => ∃ (n : Pn) (m : Int), vs = [.ref n.p, .int m] ∧ PenOk n H ∧ 0 < m ∧ m < 1073741824 ∧ ∀ (r : Int) H', 0 ≤ r → r < m → Pen n H H' → Q (.int r) H'
/-- a pick: any item -/
def spPick (K : PySem.W.Frag) : Sp := fun vs H Q _ => ∃ (n : Pn) (a : Addr) (xs : List V), vs = [.ref n.p, .ref a] ∧ PenOk n H ∧ (SqL K H a xs ∨ SqT K H a xs) ∧ 0 < xs.length ∧ xs.length < 1000000 ∧ ∀ (i : Nat) (x : V) H', xs[i]? = some x → Pen n H H' → Q x H'
/-- the pen is laid -/
def spPen (K : PySem.W.Frag) : Sp := fun vs H Q _ => ∃ (a : Addr) (ns : List Int), vs = [.ref a] ∧ SqL K H a (ns.map V.int) ∧ ∀ (n : Pn) H', Same H H' → PenOk n H' → Q (.ref n.p) H'
end Qk
namespace Qk
open PySem PySem.Spec PyProof.Rows L2
/-- told is just due -/
def spSays : Sp := fun vs H Q _ => ∃ (told due : Bool), vs = [.bl told, .bl due] ∧ Q (.bl (told == due)) H
/-- a drawn word -/
def spDrawWord (K : PySem.W.Frag) : Sp := fun vs H Q _ => ∃ (n : Pn) (m most : Int), vs = [.ref n.p, .int m, .int most] ∧ PenOk n H ∧ 0 < m ∧ m < 1000 ∧ 0 ≤ most ∧ most < 900 ∧
  ∀ (ws : List Int) (a : Addr) H', (∀ x ∈ ws, 0 ≤ x ∧ x < m) → (ws.length : Int) ≤ most → Pen n H H' → H' a = some (.tup (ws.map V.int)) → Q (.ref a) H'
theorem forall_snoc {α : Type} {p : α → Prop} {l : List α} {x : α} (h : ∀ y ∈ l, p y) (hx : p x) : ∀ y ∈ l ++ [x], p y := fun y hy => by
  rcases List.mem_append.mp hy with h1 | h1
  · exact h y h1
  · rw [List.mem_singleton.mp h1]; exact hx
end Qk

set_option Elab.async false
set_option linter.all false
set_option maxRecDepth 100000
set_option maxHeartbeats 4000000
namespace Qk
open PySem PySem.Spec PyProof.Rows L2
/-! ### own errors of two fields -/
def spInit2 (K : PySem.W.Frag) (C : Addr) (f1 f2 : Str) : Sp := fun vs H Q _ => ∃ (a : Addr) (x y : V), vs = [.ref a, x, y] ∧ OexC K C ∧ PySem.W.findIn K (.ref C) f1 = some none ∧ PySem.W.findIn K (.ref C) f2 = some none ∧ H a = some (exo a C none) ∧
  ∀ dx, H dx = none → dx ≠ a → Q .non (upd (upd (upd H dx (exd dx [(f1, x)])) a (exo a C (some dx))) dx (exd dx [(f2, y), (f1, x)]))
theorem read_init2 {K : PySem.W.Frag} {C : Addr} {f1 f2 : Str} {vs : List V} {H : Hp} {Q : VK} {E : XK} {N : List Str} (hN : N.length = 3) (h : spInit2 K C f1 f2 vs H Q E) :
    tSeq (tOst K f1 (tVar 0) (tVar 1)) (tOst K f2 (tVar 0) (tVar 2)) { nx := fun _ H' => Q .non H', rt := Q } (start N vs) H := by
  obtain ⟨a, x, y, rfl, O, h1, h2, ea, q⟩ := h
  match N, hN with
  | [n0, n1, n2], _ =>
    refine ⟨x, rfl, .ref a, rfl, a, C, rfl, O, h1, .inl ⟨ea, fun dx nd ne => ?_⟩⟩
    refine ⟨y, rfl, .ref a, rfl, a, C, rfl, O, h2, .inr ⟨dx, [(f1, x)], upd_same, ?_, (show 1 ≤ 900 by decide), q dx nd ne⟩⟩
    rw [upd_ne ne]
    exact upd_same
structure Er2 (P : Program) (w : World) (K : PySem.W.Frag) (mg : Str → Option Value) (base : Heap) (x : Str) (C : Addr) (f1 f2 : Str) : Prop where
  T : OexC K C
  g : mg x = some (.ref C)
  n1 : PySem.W.findIn K (.ref C) f1 = some none
  n2 : PySem.W.findIn K (.ref C) f2 = some none
  ex : ∃ (fI : Addr) (fd : FuncData) (ps : List Str), PySem.W.findIn K (.ref C) "__init__" = some (some (.ref fI)) ∧ PySem.W.typeIn K (.ref fI) = some (.type "function") ∧ FnOk P w K mg base L2.CX0 1 fI fd ps (spInit2 K C f1 f2) ∧ Binds K fd ps []
/-- X(e1, e2), made to be raised -/
def tMk2 (C : Addr) (f1 f2 : Str) (ta : TA) : Slots → Hp → XK → Prop := fun σ H Q => ta σ H fun vs H1 => ∃ x y, vs = [x, y] ∧ ∀ d, H1 d = none → Q (.ref C) (some d) (upd H1 d (.xd [(f2, y), (f1, x)]))
section
variable {X : Cx} {x : Str} {C : Addr} {f1 f2 : Str} {e1 e2 : Expr} {ta : TA} {p pos pos2 : Pos} {k : Nat}
theorem pa_up {es : List Expr} (h : PA X es ta) : PA X es (fun σ H Q => ∃ Q0 : List V → Hp → Prop, ta σ H Q0 ∧ ∀ v H', Q0 v H' → Q v H') := ⟨fun pos pins s σ H Q I ⟨Q0, q, m⟩ => thn (h.run pos pins s σ H Q0 I q) fun u s' ⟨v, H', I', r, z⟩ => ⟨v, H', I', r, m v H' z⟩⟩
theorem pmk2 (R : Er2 X.prog X.w X.K X.mg X.base x C f1 f2) (hr : Room 2 X.A) (ha : PA X [e1, e2] ta) (hg : Gl X x := by rfl) (hdb : (x == ("__debug__" : Str)) = false := by decide)
    (he : starEach [e1, e2] X.env = (false, eval e1 X.env) :: starEach [e2] X.env := by rfl) (hpl : (backTo pos (starEach [e2] X.env)).any (·.1) = false := by rfl) :
    PMk X (.Call (.Name x p) [e1, e2] [] pos) (tMk2 C f1 f2 ta) := by
  obtain ⟨fI, fd, ps, iC, tI, F, hb⟩ := R.ex
  intro pins s σ H Q I h
  refine pmk_oex (CX := L2.CX0) R.T iC tI F hr hb .nil (fun _ _ _ _ _ _ _ z => z.elim) hg R.g (pa_up ha) hdb he hpl pins s σ H Q I ⟨_, h, fun vs H1 ⟨v1, v2, ev, q⟩ => ?_⟩
  subst ev
  refine ⟨(show 2 ≤ 1000 by decide), fun a na => ⟨a, v1, v2, rfl, R.T, R.n1, R.n2, upd_same, fun dx nd ne => ⟨rfl, dx, _, ?_, upd_same, ?_, ?_⟩⟩⟩
  · rw [upd_ne ne.symm]
    exact upd_same
  · rw [upd_ne ne] at nd
    exact nd
  · have nd' : H1 dx = none := by rw [upd_ne ne] at nd; exact nd
    have eH : upd (del (upd (upd (upd (upd H1 a (exo a C none)) dx (exd dx [(f1, v1)])) a (exo a C (some dx))) dx (exd dx [(f2, v2), (f1, v1)])) a) dx (.xd [(f2, v2), (f1, v1)]) = upd H1 dx (.xd [(f2, v2), (f1, v1)]) := by
      funext b
      by_cases hb : b = dx
      · rw [hb, upd_same, upd_same]
      · rw [upd_ne hb, upd_ne hb]
        by_cases hba : b = a
        · rw [hba, del_same, na]
        · rw [del_ne hba, upd_ne hb, upd_ne hba, upd_ne hb, upd_ne hba]
    rw [eH]
    exact q dx nd'
theorem ps_raise2 {W : WX} (hc : X.calm = true) (tk : Takes X W) (R : Er2 X.prog X.w X.K X.mg X.base x C f1 f2) (hr : Room 2 X.A) (ha : PA X [e1, e2] ta) (hg : Gl X x := by rfl) (hdb : (x == ("__debug__" : Str)) = false := by decide)
    (he : starEach [e1, e2] X.env = (false, eval e1 X.env) :: starEach [e2] X.env := by rfl) (hpl : (backTo pos (starEach [e2] X.env)).any (·.1) = false := by rfl) :
    PS X (.Raise (some (.Call (.Name x p) [e1, e2] [] pos)) none pos2) (fun _ σ H => tMk2 C f1 f2 ta σ H fun cls d H' => W cls d σ H') := ps_raise hc tk (pmk2 R hr ha hg hdb he hpl)
end
end Qk

set_option Elab.async false
set_option linter.all false
set_option maxRecDepth 100000
set_option maxHeartbeats 4000000
namespace Qk
open PySem PySem.Spec PyProof.Rows L2
/-! ### rows of lots and marks -/
def lotT (l : List Int) : PyData := .tuple (l.map .int)
def rowT (ls : List (List Int)) (ms : List PyData) : PyData := .tuple [.tuple (ls.map lotT), .tuple ms]
def rowD (ls : List (List Int)) (ms : List Int) : PyData := rowT ls (ms.map .int)
def isRowB (ls : List (List Int)) (ms : List PyData) (m : Int) : Bool :=
  ms.all (fun x => indexD x m) && decide (ms.length ≤ 60) && decide (ls.length = ms.length + 1) && ls.all (fun l => (l.all fun x => decide (0 ≤ x) && decide (x < m)) && risingB l) && (ls.zip (intsD ms)).all fun p => !decide (p.2 ∈ p.1)
/-- where a letter leads -/
def led (ls : List (List Int)) (ms : List Int) (p : Nat) (a : Int) : Option Nat :=
  if a ∈ ls.getD p [] then some p else if p < ms.length ∧ ms.getD p 0 = a then some (p + 1) else none
def ledAll (ls : List (List Int)) (ms : List Int) (w : List Int) : Option Nat := w.foldl (fun p a => p.bind fun p => led ls ms p a) (some 0)
def takesB (ls : List (List Int)) (ms : List Int) (w : List Int) : Bool := decide (ledAll ls ms w = some ms.length)
def optV : Option Nat → V
  | some p => .int (p : Nat)
  | none => .non
section
variable {K : PySem.W.Frag} {H : Hp}
theorem dp_tup {v : V} {ds : List PyData} (h : Dp K H v (.tuple ds)) : ∃ (a : Addr) (xs : List V), v = .ref a ∧ SqT K H a xs ∧ DpAll K H xs ds := by
  cases h with
  | tup h1 h2 => exact ⟨_, _, rfl, h1, h2⟩
theorem dp_int {v : V} {i : Int} (h : Dp K H v (.int i)) : v = .int i := by cases h; rfl
theorem dpAll_two {xs : List V} {d e : PyData} (h : DpAll K H xs [d, e]) : ∃ x y, xs = [x, y] ∧ Dp K H x d ∧ Dp K H y e := by
  cases h with
  | cons h1 h2 =>
    cases h2 with
    | cons h3 h4 =>
      cases h4
      exact ⟨_, _, rfl, h1, h3⟩
theorem row_at {v : V} {ls : List (List Int)} {ms : List PyData} (h : Dp K H v (rowT ls ms)) : ∃ (a l m : Addr) (rs xs : List V), v = .ref a ∧ SqT K H a [.ref l, .ref m] ∧ SqT K H l rs ∧ DpAll K H rs (ls.map lotT) ∧ SqT K H m xs ∧ DpAll K H xs ms := by
  obtain ⟨a, xs, rfl, h1, h2⟩ := dp_tup h
  obtain ⟨x, y, rfl, h3, h4⟩ := dpAll_two h2
  obtain ⟨l, rs, rfl, h5, h6⟩ := dp_tup h3
  obtain ⟨m, zs, rfl, h7, h8⟩ := dp_tup h4
  exact ⟨a, l, m, rs, zs, rfl, h1, h5, h6, h7, h8⟩
theorem lot_at {rs : List V} {ls : List (List Int)} {i : Nat} {x : V} (h : DpAll K H rs (ls.map lotT)) (e : rs[i]? = some x) : ∃ (b : Addr) (lot : List Int), x = .ref b ∧ ls[i]? = some lot ∧ SqT K H b (lot.map V.int) := by
  obtain ⟨d, e2, hd⟩ := dpAll_get h e
  rw [List.getElem?_map] at e2
  cases e3 : ls[i]? with
  | none => rw [e3] at e2; cases e2
  | some lot =>
    rw [e3] at e2
    cases e2
    obtain ⟨b, zs, rfl, h1, h2⟩ := dp_tup hd
    rw [ints_of h2] at h1
    exact ⟨b, lot, rfl, rfl, h1⟩
theorem inV_ints (a : Int) : ∀ l : List Int, inV (.int a) (l.map V.int) = decide (a ∈ l)
  | [] => rfl
  | b :: l => by
    have ih := inV_ints a l
    unfold inV at ih ⊢
    rw [List.map_cons, List.any_cons, ih]
    have e : eqV (.int b) (.int a) = decide (b = a) := by
      show (b == a) = decide (b = a)
      rw [Bool.beq_eq_decide_eq]
    rw [e]
    by_cases h : b = a
    · subst h
      simp
    · have h' : ¬ a = b := fun z => h z.symm
      simp [h, h']
theorem flat_ints : ∀ l : List Int, (l.map V.int).all flatV = true
  | [] => rfl
  | b :: l => by
    rw [List.map_cons, List.all_cons, flat_ints l]
    rfl
end
def spLed (K : PySem.W.Frag) : Sp := fun vs H Q _ => ∃ (v : V) (ls : List (List Int)) (ms : List Int) (p : Nat) (a : Int), vs = [v, .int (p : Nat), .int a] ∧ Dp K H v (rowD ls ms) ∧ p < ls.length ∧ Q (optV (led ls ms p a)) H
def spTakes (K : PySem.W.Frag) : Sp := fun vs H Q _ => ∃ (v : V) (b : Addr) (ls : List (List Int)) (ms ws : List Int), vs = [v, .ref b] ∧ Dp K H v (rowD ls ms) ∧ ls.length = ms.length + 1 ∧ SqT K H b (ws.map V.int) ∧ Q (.bl (takesB ls ms ws)) H
theorem led_le {ls : List (List Int)} {ms : List Int} {p q : Nat} {a : Int} (hp : p ≤ ms.length) (h : led ls ms p a = some q) : q ≤ ms.length := by
  unfold led at h
  split at h
  · cases h; exact hp
  · split at h
    · rename_i h2
      cases h; omega
    · cases h
theorem ledAll_snoc (ls : List (List Int)) (ms w : List Int) (a : Int) : ledAll ls ms (w ++ [a]) = (ledAll ls ms w).bind fun p => led ls ms p a := by
  unfold ledAll
  rw [List.foldl_append]
  rfl
theorem ledAll_le {ls : List (List Int)} {ms : List Int} : ∀ (w : List Int) {p q : Nat}, p ≤ ms.length → w.foldl (fun p a => p.bind fun p => led ls ms p a) (some p) = some q → q ≤ ms.length
  | [], p, q, hp, h => by cases h; exact hp
  | a :: w, p, q, hp, h => by
    rw [List.foldl_cons] at h
    show q ≤ ms.length
    have h' : w.foldl (fun p a => p.bind fun p => led ls ms p a) (led ls ms p a) = some q := h
    cases e : led ls ms p a with
    | none =>
      rw [e] at h'
      have : ∀ w : List Int, w.foldl (fun p a => p.bind fun p => led ls ms p a) (none : Option Nat) = none := fun w => by
        induction w with
        | nil => rfl
        | cons b w ih => exact ih
      rw [this] at h'
      cases h'
    | some p' =>
      rw [e] at h'
      exact ledAll_le w (led_le hp e) h'
/-- a word is wanted -/
def spNeedWord (K : PySem.W.Frag) (C : Addr) : Sp := fun vs H Q E => ∃ (v : V) (d : PyData) (m : Int) (what : Str), vs = [v, .int m, .str what] ∧ Vd K H v d ∧ (itemsD d).length ≤ 1000 ∧
  (wordD d m = true → ∀ (a : Addr) H', Same H H' → SqT K H' a ((intsD (itemsD d)).map V.int) → Q (.ref a) H') ∧
  (wordD d m = false → ∀ (dd : Addr) H', Same H H' → H' dd = some (.xd [("word", v), ("what", .str what)]) → E (.ref C) (some dd) H')
/-- whether a row is right: the lots' items are ints -/
def spIsRow (K : PySem.W.Frag) : Sp := fun vs H Q _ => ∃ (v : V) (ls : List (List Int)) (ms : List PyData) (m : Int), vs = [v, .int m] ∧ Dp K H v (rowT ls ms) ∧ ls.length ≤ 100 ∧ ms.length ≤ 100 ∧ (∀ l ∈ ls, l.length ≤ 100) ∧ ∀ H', Same H H' → Q (.bl (isRowB ls ms m)) H'
theorem lotD_lotT (l : List Int) (m : Int) : lotD (lotT l) m = ((l.all fun x => decide (0 ≤ x) && decide (x < m)) && risingB l) := by
  unfold lotD indexesD
  show ((true && (l.map PyData.int).all (fun x => indexD x m)) && risingB (intsD (l.map PyData.int))) = _
  rw [intsD_map, List.all_map, Bool.true_and]
  rfl
end Qk

set_option Elab.async false
set_option linter.all false
set_option maxRecDepth 100000
set_option maxHeartbeats 4000000
namespace Qk
open PySem PySem.Spec PyProof.Rows L2
/-! ### comprehensions whose items are objects: Rel speaks of the heap without the list that is being made -/
theorem del_same_of {H H' : Hp} {D : Addr} (s : Same H H') : Same (del H D) (del H' D) := fun b o e => by
  by_cases h : b = D
  · rw [h, del_same] at e; cases e
  · rw [del_ne h] at e ⊢
    exact s b o e
theorem same_del {H : Hp} {D : Addr} : Same (del H D) H := fun b o e => by
  by_cases h : b = D
  · rw [h, del_same] at e; cases e
  · rw [del_ne h] at e
    exact e
theorem del_upd {H : Hp} {D : Addr} {o : HO} : del (upd H D o) D = del H D := by
  funext b
  by_cases h : b = D
  · rw [h, del_same, del_same]
  · rw [del_ne h, del_ne h, upd_ne h]
theorem lcgH {J : It} {n : Nat} {R : Hp → Prop} {Y : Nat → V → Hp → Hp → Prop} {g : TG} {tt : TT} {te : TE} {vs : List Nat} {σ : Slots} {H1 : Hp} {D : Addr} {Qd : Hp → Prop} (yl : Yl J n R Y) (hn : n ≤ 1000)
    (Rel : Nat → List V → Hp → Prop) (r1 : R H1) (r0 : Rel 0 [] (del H1 D)) (rD : ∀ H o, R H → R (upd H D o))
    (turn : ∀ i x acc H H' (T : VK) (N : Hp → Prop), i < n → Rel i acc (del H D) → R H → H D = some (.lst acc) → Y i x H H' → (∀ y H4, R H4 → H4 D = some (.lst acc) → Rel (i + 1) (acc ++ [y]) (del H4 D) → T y H4) → (∀ H3, R H3 → H3 D = some (.lst acc) → Rel (i + 1) acc (del H3 D) → N H3) →
      g x (wipe σ vs) H' fun σ2 H2 => wipe σ2 vs = wipe σ vs ∧ tt σ2 H2 fun b H3 => if b = true then te σ2 H3 T else N H3)
    (fin : ∀ H acc, R H → H D = some (.lst acc) → Rel n acc (del H D) → Qd H) :
    ∃ W : Nat → Nat → Hp → Prop, (∃ m, W 0 m (upd H1 D (.lst []))) ∧ ∀ i m H, W i m H →
      (J.stop i H ∧ Qd H) ∨ (J.go i H ∧ ∃ Nx : Hp → Prop, (∀ H', Nx H' → ∃ m', m' < m ∧ W (i + 1) m' H') ∧ ∀ x H', J.yld i H x H' → g x (wipe σ vs) H' fun σ2 H2 => wipe σ2 vs = wipe σ vs ∧ tt σ2 H2 fun b H3 =>
        if b = true then te σ2 H3 fun y H4 => ∃ acc, H4 D = some (.lst acc) ∧ acc.length < sizeLine ∧ Nx (upd H4 D (.lst (acc ++ [y]))) else Nx H3) := by
  refine ⟨fun i m H => m + i = n ∧ R H ∧ ∃ acc, H D = some (.lst acc) ∧ acc.length ≤ i ∧ Rel i acc (del H D), ⟨n, rfl, rD _ _ r1, [], upd_same, Nat.le_refl _, by rw [del_upd]; exact r0⟩, ?_⟩
  intro i m H ⟨em, hR, acc, hD, hlen, hrel⟩
  by_cases hi : i < n
  · refine .inr ⟨yl.go i H hi hR, fun H' => R H' ∧ ∃ acc, H' D = some (.lst acc) ∧ acc.length ≤ i + 1 ∧ Rel (i + 1) acc (del H' D), fun H' h => ⟨m - 1, by omega, by omega, h⟩, fun x H' hy => ?_⟩
    refine turn i x acc H H' _ _ hi hrel hR hD (yl.yl i x H H' hi hR hy) (fun y H4 q1 q2 q3 => ⟨acc, q2, small1000 (by omega), rD _ _ q1, _, upd_same, ?_, by rw [del_upd]; exact q3⟩) (fun H3 q1 q2 q3 => ⟨q1, acc, q2, by omega, q3⟩)
    rw [List.length_append]
    exact Nat.succ_le_succ hlen
  · have e : i = n := by omega
    subst e
    exact .inl ⟨yl.stop H hR, fin H acc hR hD hrel⟩
/-! ### all([.. for x in a list or tuple of data]) -/
theorem read_all_seq {K : PySem.W.Frag} {te tel : TE} {j : Nat} {σ : Slots} {H : Hp} {Q : VK} {a : Addr} {xs : List V} {ds : List PyData} (b : PyData → Bool) (hite : ∀ R : VK, R (.ref a) H → te σ H R)
    (hs : SqL K H a xs ∨ SqT K H a xs) (hd : DpAll K H xs ds) (hn : xs.length ≤ 1000)
    (el : ∀ x dx H', dx ∈ ds → Same H H' → Dp K H' x dx → ∀ T : VK, (∀ H'', Same H' H'' → T (.bl (b dx)) H'') → tel ((wipe σ [j]).set j (some x)) H' T)
    (hw : ∀ x, wipe ((wipe σ [j]).set j (some x)) [j] = wipe σ [j]) (fin : ∀ H', Same H H' → Q (.bl (ds.all b)) H') :
    tCB (rAll K) (tCons (tLc (fun σ H R => iList K te σ H R ∨ iTup K te σ H R) (gName j) tYes tel [j]) tNil) σ H Q := by
  have hlen := dpAll_len hd
  have go : ∀ (J : It) (yl : Yl J xs.length (Same H) (YOne xs)), ∀ D, H D = none → _ := fun J yl D nD =>
    lcg (D := D) (H1 := H) (g := gName j) (tt := tYes) (te := tel) (vs := [j]) (σ := σ) (Qd := fun H' => rAll K [.ref D] H' Q) yl hn (fun i acc => acc = (ds.take i).map fun x => V.bl (b x)) (Same.refl _) rfl (fun H' o s => same_upd_new nD s)
      (fun i x acc H2 H3 T' N hi hrel hR hD hy cont _ => by
        obtain ⟨rfl, hxi⟩ := hy
        obtain ⟨dx, hdx, hvx⟩ := dpAll_get hd hxi
        refine ⟨hw x, el x dx H3 (List.mem_of_getElem? hdx) hR (dp_same hR hvx) T' fun H4 s4 => cont _ _ (same_trans hR s4) (s4 _ _ hD) ?_⟩
        rw [hrel, take_snoc hdx, List.map_append]
        rfl)
      (fun H' acc hR hD hrel => by
        refine ⟨D, ds.map b, rfl, ?_, ?_⟩
        · rw [hrel, hlen, List.take_length] at hD
          rw [List.map_map]
          exact SqL.of hD
        · rw [List.all_map]
          exact fin H' hR)
  rcases hs with h | h
  · exact .inl (hite _ ⟨a, rfl, ⟨xs, h⟩, go _ (yl_list fun H' s => sqL_same s h)⟩)
  · exact .inr (hite _ ⟨a, rfl, ⟨xs, h⟩, go _ (yl_tup fun H' s => sqT_same s h)⟩)
/-- [e for x in a list or tuple of data], each item new data -/
theorem read_map_seq {K : PySem.W.Frag} {te tel : TE} {j : Nat} {σ : Slots} {H : Hp} {Q : VK} {a : Addr} {xs : List V} {ds : List PyData} (b : PyData → PyData) (hite : ∀ R : VK, R (.ref a) H → te σ H R)
    (hs : SqL K H a xs ∨ SqT K H a xs) (hd : DpAll K H xs ds) (hn : xs.length ≤ 1000)
    (el : ∀ x dx H', dx ∈ ds → Same H H' → Dp K H' x dx → ∀ T : VK, (∀ y H'', Same H' H'' → (∀ D, H' D ≠ none → (∃ l, H' D = some (.lst l)) → H D = none → Dp K (del H'' D) y (b dx)) → T y H'') → tel ((wipe σ [j]).set j (some x)) H' T)
    (hw : ∀ x, wipe ((wipe σ [j]).set j (some x)) [j] = wipe σ [j]) (fin : ∀ D acc H', Same H H' → H D = none → H' D = some (.lst acc) → DpAll K (del H' D) acc (ds.map b) → Q (.ref D) H') :
    tLc (fun σ H R => iList K te σ H R ∨ iTup K te σ H R) (gName j) tYes tel [j] σ H Q := by
  have hlen := dpAll_len hd
  have go : ∀ (J : It) (yl : Yl J xs.length (Same H) (YOne xs)), ∀ D, H D = none → _ := fun J yl D nD =>
    lcgH (D := D) (H1 := H) (g := gName j) (tt := tYes) (te := tel) (vs := [j]) (σ := σ) (Qd := fun H' => Q (.ref D) H') yl hn (fun i acc H' => DpAll K H' acc ((ds.take i).map b)) (Same.refl _) .nil (fun H' o s => same_upd_new nD s)
      (fun i x acc H2 H3 T' N hi hrel hR hD hy cont _ => by
        obtain ⟨rfl, hxi⟩ := hy
        obtain ⟨dx, hdx, hvx⟩ := dpAll_get hd hxi
        refine ⟨hw x, el x dx H3 (List.mem_of_getElem? hdx) hR (dp_same hR hvx) T' fun y H4 s4 hy => cont _ _ (same_trans hR s4) (s4 _ _ hD) ?_⟩
        rw [take_snoc hdx, List.map_append]
        exact dpAll_app (dpAll_same (del_same_of s4) hrel) (.cons (hy D (by rw [hD]; exact fun z => nomatch z) ⟨_, hD⟩ nD) .nil))
      (fun H' acc hR hD hrel => by
        rw [hlen, List.take_length] at hrel
        exact fin D acc H' hR nD hD hrel)
  rcases hs with h | h
  · exact .inl (hite _ ⟨a, rfl, ⟨xs, h⟩, go _ (yl_list fun H' s => sqL_same s h)⟩)
  · exact .inr (hite _ ⟨a, rfl, ⟨xs, h⟩, go _ (yl_tup fun H' s => sqT_same s h)⟩)
/-! ### a row is wanted -/
def lotsD (d : PyData) : List (List Int) := (itemsD d).map fun x => intsD (itemsD x)
def partD (d : PyData) (i : Nat) : PyData := (itemsD d).getD i .none
def partOk (x : PyData) : Bool := listD x && decide ((itemsD x).length ≤ 61)
def lotOk (x : PyData) : Bool := listD x && (decide ((itemsD x).length ≤ 3) && (itemsD x).all integerD)
def rowOk (d : PyData) : Bool := listD d && (decide ((itemsD d).length = 2) && ((itemsD d).all partOk && ((itemsD (partD d 0)).all lotOk && isRowB (lotsD (partD d 0)) (itemsD (partD d 1)) 3)))
def spNeedRow (K : PySem.W.Frag) (C : Addr) : Sp := fun vs H Q E => ∃ (v : V) (d : PyData), vs = [v] ∧ Vd K H v d ∧ (itemsD d).length ≤ 1000 ∧
  (rowOk d = true → ∀ (t : V) H', Same H H' → Dp K H' t (rowT (lotsD (partD d 0)) (itemsD (partD d 1))) → Q t H') ∧
  (rowOk d = false → ∀ (dd : Addr) H', Same H H' → H' dd = some (.xd [("row", v), ("what", .str "row")]) → E (.ref C) (some dd) H')
/-- .. and a word: whether the row takes it -/
def spRowTakes (K : PySem.W.Frag) (CR CW : Addr) : Sp := fun vs H Q E => ∃ (v u : V) (d e : PyData), vs = [v, u] ∧ Vd K H v d ∧ Vd K H u e ∧ (itemsD d).length ≤ 1000 ∧ (itemsD e).length ≤ 1000 ∧
  (rowOk d = true → wordD e 3 = true → ∀ H', Same H H' → Q (.bl (takesB (lotsD (partD d 0)) (intsD (itemsD (partD d 1))) (intsD (itemsD e)))) H') ∧
  (rowOk d = true → wordD e 3 = false → ∀ (dd : Addr) H', Same H H' → H' dd = some (.xd [("word", u), ("what", .str "word")]) → E (.ref CW) (some dd) H') ∧
  (rowOk d = false → ∀ (dd : Addr) H', Same H H' → H' dd = some (.xd [("row", v), ("what", .str "row")]) → E (.ref CR) (some dd) H')
theorem integers_ints : ∀ {ds : List PyData}, ds.all integerD = true → ds = (intsD ds).map PyData.int
  | [], _ => rfl
  | d :: ds, h => by
    rw [List.all_cons, Bool.and_eq_true] at h
    obtain ⟨i, rfl⟩ := (integerD_int d).mp h.1
    have ih := integers_ints h.2
    show PyData.int i :: ds = PyData.int i :: (intsD ds).map PyData.int
    rw [← ih]
theorem isRow_marks {ls : List (List Int)} {ms : List PyData} {m : Int} (h : isRowB ls ms m = true) : ms = (intsD ms).map PyData.int ∧ ls.length = ms.length + 1 := by
  unfold isRowB at h
  simp only [Bool.and_eq_true, decide_eq_true_eq] at h
  obtain ⟨ns, e, _⟩ := all_ints h.1.1.1.1
  refine ⟨?_, h.1.1.2⟩
  rw [e, intsD_map]
end Qk
namespace Qk
open PySem PySem.Spec PyProof.Rows L2
theorem sqT_del {K : PySem.W.Frag} {H : Hp} {D a : Addr} {xs l : List V} (h : SqT K H a xs) (e : H D = some (.lst l)) : SqT K (del H D) a xs := by
  rcases h with (h | ⟨o, h⟩) | h
  · have n : a ≠ D := fun z => by rw [z, e] at h; cases h
    exact .inl (.inl (by rw [del_ne n]; exact h))
  · have n : a ≠ D := fun z => by rw [z, e] at h; cases h
    exact .inl (.inr ⟨o, by rw [del_ne n]; exact h⟩)
  · exact .inr h
/-- tuple(x) of a list or tuple of ints, told without the list at D -/
theorem read_tuple_ints {K : PySem.W.Frag} {H : Hp} {a : Addr} {ns : List Int} {Q : VK} (hs : SqL K H a (ns.map V.int) ∨ SqT K H a (ns.map V.int)) (q : ∀ (y : V) H', Same H H' → (∀ D, H D ≠ none → (∃ l, H D = some (.lst l)) → Dp K (del H' D) y (lotT ns)) → Q y H') :
    rTupleK K [.ref a] H Q := by
  refine ⟨a, ns.map V.int, rfl, ?_⟩
  rcases hs with h | h
  · refine .inl ⟨h, fun t nt => q _ _ (same_new nt) fun D nD _ => .tup (xs := ns.map V.int) (.inl (.inl ?_)) (dpAll_ints ns)⟩
    have n : t ≠ D := fun z => nD (by rw [← z]; exact nt)
    rw [del_ne n]
    exact upd_same
  · refine .inr ⟨h, q _ _ (Same.refl _) fun D _ ⟨l, e⟩ => .tup (sqT_del h e) (dpAll_ints ns)⟩
/-- tuple(x) of a list or tuple of data -/
theorem read_tuple_data {K : PySem.W.Frag} {H : Hp} {a : Addr} {xs : List V} {ds : List PyData} {Q : VK} (hs : SqL K H a xs ∨ SqT K H a xs) (hd : DpAll K H xs ds) (q : ∀ (y : V) H', Same H H' → Dp K H' y (.tuple ds) → Q y H') :
    rTupleK K [.ref a] H Q := by
  refine ⟨a, xs, rfl, ?_⟩
  rcases hs with h | h
  · exact .inl ⟨h, fun t nt => q _ _ (same_new nt) (.tup (SqT.of upd_same) (dpAll_same (same_new nt) hd))⟩
  · exact .inr ⟨h, q _ _ (Same.refl _) (.tup h hd)⟩
/-- x[i] of a list or tuple -/
theorem read_ix {K : PySem.W.Frag} {H : Hp} {a : Addr} {xs : List V} {i : Nat} {v : V} {Q : VK} (hs : SqL K H a xs ∨ SqT K H a xs) (e : xs[i]? = some v) (q : Q v H) : rIx K (.ref a) (.int (i : Nat)) H Q := by
  rcases hs with h | h
  · exact .inl ⟨a, _, _, _, rfl, rfl, h, atI_nat e, q⟩
  · exact .inr (.inl ⟨a, _, _, _, rfl, rfl, h, atI_nat e, q⟩)
theorem seq_same {K : PySem.W.Frag} {H H' : Hp} {a : Addr} {xs : List V} (s : Same H H') (h : SqL K H a xs ∨ SqT K H a xs) : SqL K H' a xs ∨ SqT K H' a xs := h.elim (fun z => .inl (sqL_same s z)) fun z => .inr (sqT_same s z)
end Qk

set_option Elab.async false
set_option linter.all false
set_option maxRecDepth 100000
set_option maxHeartbeats 4000000
namespace Qk
open PySem PySem.Spec PyProof.Rows L2
/-! ### == with what is empty -/
theorem depthAll_ints : ∀ ns : List Int, PyData.depthAll (ns.map PyData.int) ≤ 1
  | [] => by simp [PyData.depthAll]
  | n :: ns => by
    have := depthAll_ints ns
    simp only [List.map_cons, PyData.depthAll, PyData.depth]
    omega
theorem canLay_ints : ∀ ns : List Int, PyData.canLayAll0 (ns.map PyData.int) = true
  | [] => by simp [PyData.canLayAll0]
  | n :: ns => by simp [PyData.canLayAll0, PyData.canLay0, canLay_ints ns]
theorem shaped_lst (ns : List Int) : SeqAt.shaped (.list (ns.map PyData.int)) = true := by
  have h1 : PyData.depth (.list (ns.map PyData.int)) ≤ 64 := by
    have := depthAll_ints ns
    simp only [PyData.depth]
    omega
  have h2 : PyData.canLay0 (.list (ns.map PyData.int)) = true := by simp only [PyData.canLay0, canLay_ints]
  unfold SeqAt.shaped
  rw [h2, decide_eq_true h1]
  rfl
theorem shaped_tup (ns : List Int) : SeqAt.shaped (.tuple (ns.map PyData.int)) = true := by
  have h1 : PyData.depth (.tuple (ns.map PyData.int)) ≤ 64 := by
    have := depthAll_ints ns
    simp only [PyData.depth]
    omega
  have h2 : PyData.canLay0 (.tuple (ns.map PyData.int)) = true := by simp only [PyData.canLay0, canLay_ints]
  unfold SeqAt.shaped
  rw [h2, decide_eq_true h1]
  rfl
theorem eqv_lst_nil (ns : List Int) : PyData.eqv (.list (ns.map PyData.int)) (.list []) = ns.isEmpty := by
  cases ns <;> simp [PyData.eqv, PyData.eqvAll]
theorem eqv_tup_nil (ns : List Int) : PyData.eqv (.tuple (ns.map PyData.int)) (.tuple []) = ns.isEmpty := by
  cases ns <;> simp [PyData.eqv, PyData.eqvAll]
/-! ### slices -/
theorem cut_init (xs : List V) : cutV xs none (some (-1)) = xs.dropLast := by
  unfold cutV
  have e : HT.sIx xs.length xs.length (some (-1)) = xs.length - 1 := by
    unfold HT.sIx
    show (if (-1 : Int) < 0 then _ else _) = _
    rw [if_pos (by decide)]
    omega
  rw [HT.sIx_none, e, List.drop_zero, Nat.sub_zero, List.dropLast_eq_take]
theorem cut_one (xs : List V) (i : Nat) : cutV xs (some (i : Nat)) (some ((i : Nat) + 1 : Int)) = (xs.drop i).take 1 := by
  unfold cutV
  have e : (((i : Nat) : Int) + 1) = ((i + 1 : Nat) : Int) := by omega
  rw [e, HT.sIx_nat, HT.sIx_nat]
  by_cases h : i < xs.length
  · rw [Nat.min_eq_left (by omega), Nat.min_eq_left (by omega)]
    congr 1
    omega
  · rw [Nat.min_eq_right (by omega), Nat.min_eq_right (by omega), List.drop_of_length_le (by omega : xs.length ≤ i), List.drop_of_length_le (Nat.le_refl _)]
    simp
theorem cut_to (xs : List V) (i : Nat) : cutV xs none (some (i : Nat)) = xs.take i := by
  unfold cutV
  rw [HT.sIx_none, HT.sIx_nat, List.drop_zero, Nat.sub_zero]
  by_cases h : i ≤ xs.length
  · rw [Nat.min_eq_left h]
  · rw [Nat.min_eq_right (by omega), List.take_of_length_le (Nat.le_refl _), List.take_of_length_le (by omega)]
theorem cut_from (xs : List V) (i : Nat) : cutV xs (some (i : Nat)) none = xs.drop i := by
  unfold cutV
  rw [HT.sIx_none, HT.sIx_nat]
  by_cases h : i ≤ xs.length
  · rw [Nat.min_eq_left h, List.take_of_length_le (by rw [List.length_drop]; exact Nat.le_refl _)]
  · rw [Nat.min_eq_right (by omega), List.drop_of_length_le (Nat.le_refl _), List.drop_of_length_le (by omega : xs.length ≤ i), List.take_nil]
/-! ### lots in the heap -/
def Lots (H : Hp) : List V → List (List Int) → Prop
  | [], [] => True
  | v :: vs, l :: ls => (∃ b, v = .ref b ∧ H b = some (.tup (l.map V.int))) ∧ Lots H vs ls
  | _, _ => False
theorem Lots.mono {H H' : Hp} (k : ∀ b xs, H b = some (.tup xs) → H' b = some (.tup xs)) : ∀ {vs : List V} {ls : List (List Int)}, Lots H vs ls → Lots H' vs ls
  | [], [], _ => True.intro
  | v :: vs, l :: ls, ⟨⟨b, e, h⟩, r⟩ => ⟨⟨b, e, k b _ h⟩, Lots.mono k r⟩
  | [], _ :: _, h => h.elim
  | _ :: _, [], h => h.elim
theorem Lots.snoc {H : Hp} {b : Addr} {l : List Int} (e : H b = some (.tup (l.map V.int))) : ∀ {vs : List V} {ls : List (List Int)}, Lots H vs ls → Lots H (vs ++ [.ref b]) (ls ++ [l])
  | [], [], _ => ⟨⟨b, rfl, e⟩, True.intro⟩
  | v :: vs, x :: ls, ⟨h, r⟩ => ⟨h, Lots.snoc e r⟩
  | [], _ :: _, h => h.elim
  | _ :: _, [], h => h.elim
theorem Lots.dp {K : PySem.W.Frag} {H : Hp} : ∀ {vs : List V} {ls : List (List Int)}, Lots H vs ls → DpAll K H vs (ls.map lotT)
  | [], [], _ => .nil
  | v :: vs, l :: ls, ⟨⟨b, e, h⟩, r⟩ => by
    subst e
    exact .cons (.tup (SqT.of h) (dpAll_ints l)) (Lots.dp r)
  | [], _ :: _, h => h.elim
  | _ :: _, [], h => h.elim
theorem Lots.len {H : Hp} : ∀ {vs : List V} {ls : List (List Int)}, Lots H vs ls → vs.length = ls.length
  | [], [], _ => rfl
  | v :: vs, l :: ls, ⟨_, r⟩ => by rw [List.length_cons, List.length_cons, Lots.len r]
  | [], _ :: _, h => h.elim
  | _ :: _, [], h => h.elim
/-! ### drawn rows -/
def LotGood (l : List Int) : Prop := (∀ x ∈ l, 0 ≤ x ∧ x < 3) ∧ risingB l = true ∧ l.length ≤ 3
structure GoodRow (ls : List (List Int)) (ms : List Int) : Prop where
  lots : ∀ l ∈ ls, LotGood l
  marks : ∀ x ∈ ms, 0 ≤ x ∧ x < 3
  apart : ∀ p ∈ ls.zip ms, p.2 ∉ p.1
  len : ls.length = ms.length + 1
  few : ls.length ≤ 4
theorem rising_snoc : ∀ (l : List Int) (x : Int), (∀ y ∈ l, y < x) → risingB l = true → risingB (l ++ [x]) = true
  | [], _, _, _ => rfl
  | [a], x, h, _ => by
    show (decide (a < x) && true) = true
    rw [decide_eq_true (h a List.mem_cons_self)]
    rfl
  | a :: b :: r, x, h, e => by
    have e' : (decide (a < b) && risingB (b :: r)) = true := e
    rw [Bool.and_eq_true] at e'
    show (decide (a < b) && risingB (b :: r ++ [x])) = true
    rw [e'.1, Bool.true_and]
    exact rising_snoc (b :: r) x (fun y hy => h y (List.mem_cons_of_mem _ hy)) e'.2
theorem GoodRow.isRow {ls : List (List Int)} {ms : List Int} (g : GoodRow ls ms) : isRowB ls (ms.map .int) 3 = true := by
  unfold isRowB
  simp only [Bool.and_eq_true, decide_eq_true_eq, List.all_eq_true, List.length_map, intsD_map]
  refine ⟨⟨⟨⟨fun x hx => ?_, ?_⟩, g.len⟩, fun l hl => ⟨fun x hx => ?_, (g.lots l hl).2.1⟩⟩, fun p hp => ?_⟩
  · obtain ⟨i, hi, rfl⟩ := List.mem_map.mp hx
    show (decide (0 ≤ i) && decide (i < 3)) = true
    rw [decide_eq_true (g.marks i hi).1, decide_eq_true (g.marks i hi).2]
    rfl
  · have := g.len; have := g.few; omega
  · exact (g.lots l hl).1 x hx
  · rw [decide_eq_false (g.apart p hp)]
    rfl
theorem zip_snoc_left {ls : List (List Int)} {ms : List Int} {l : List Int} (h : ls.length = ms.length) : (ls ++ [l]).zip ms = ls.zip ms := by
  rw [List.zip_eq_zip_take_min]
  have e : min (ls ++ [l]).length ms.length = ms.length := by rw [List.length_append, h]; exact Nat.min_eq_right (Nat.le_succ _)
  rw [e, List.take_length, ← h, List.take_append_of_le_length (Nat.le_refl _), List.take_length]
theorem zip_dropLast {ls : List (List Int)} {ms : List Int} {p : List Int × Int} (h : p ∈ ls.zip ms.dropLast) : p ∈ ls.zip ms := by
  obtain ⟨i, hi⟩ := List.mem_iff_getElem?.mp h
  rw [List.getElem?_zip_eq_some] at hi
  have h2 : ms[i]? = some p.2 := by
    have z := hi.2
    rw [List.dropLast_eq_take, List.getElem?_take] at z
    split at z
    · exact z
    · cases z
  exact List.mem_of_getElem? (i := i) (by rw [List.getElem?_zip_eq_some]; exact ⟨hi.1, h2⟩)
def spMarks (K : PySem.W.Frag) : Sp := fun vs H Q _ => ∃ (n : Pn), vs = [.ref n.p, .int 3] ∧ PenOk n H ∧ ∀ (ls : List (List Int)) (ms : List Int) (a : Addr) H', GoodRow ls ms → Pen n H H' → Dp K H' (.ref a) (rowD ls ms) → Q (.ref a) H'
end Qk
namespace Qk
open PySem PySem.Spec PyProof.Rows L2
theorem tups_upd {H : Hp} {L : Addr} {xs : List V} {o : HO} (e : H L = some (.lst xs)) : ∀ b ys, H b = some (.tup ys) → upd H L o b = some (.tup ys) := fun b ys h => by
  have n : b ≠ L := fun z => by rw [z, e] at h; cases h
  rw [upd_ne n]
  exact h
theorem ne_lst_none {H : Hp} {L p : Addr} {xs : List V} (e : H L = some (.lst xs)) (h : H p = none) : L ≠ p := fun z => by rw [z, h] at e; cases e
theorem len_lt_line {α : Type} {l : List α} (h : l.length ≤ 1000) : l.length < sizeLine := small1000 h
theorem int_eq_dec (a b : Int) : decide (V.int a = V.int b) = decide (a = b) := by
  rw [decide_eq_decide]
  exact ⟨fun z => V.int.inj z, fun z => by rw [z]⟩
end Qk

set_option Elab.async false
set_option linter.all false
set_option maxRecDepth 100000
set_option maxHeartbeats 4000000
namespace Qk
open PySem PySem.Spec PyProof.Rows L2
/-! ### enumerate over a tuple -/
theorem meets_enum_new1 {v : Value} {o : Obj} {H : Heap → Prop} (B : Begins v o H) :
    Meets (Builtin.«enumerate.__new__» ⟨[.type "enumerate", v], []⟩) (fun _ R s => H s.heap ∧
      R (.ok (.ret (.ref (s.heap.push o).objs.size))) { s with heap := (s.heap.push o).push { cls := .type "enumerate", data := .fields #[.none, .bool false, .ref s.heap.objs.size, rawInt 0, .none, .none] } }) :=
  .of_wp fun prog w A R s h => by
    obtain ⟨hp, g, d, tk, os⟩ := s; obtain ⟨h1, h⟩ := h
    have hsub := sub_enumerate
    have q1 : ∀ {A' : Around} {E : Value → Shared → Prop} {Q : Value → Shared → Prop}, Q (.ref hp.objs.size) ⟨hp.push o, g, d, tk, os⟩ → wpAny (model prog w) A' (pyIter v) Q E ⟨hp, g, d, tk, os⟩ :=
      fun q => B.iter prog w _ _ ⟨hp, g, d, tk, os⟩ _ h1 q
    wp_walk using q1
    refine wpAny_stack_any fun st => wpAny_pure ?_
    split
    · rename_i c _ _ _ _ _
      cases (c == Value.type "enumerate")
      · wp_walk using q1
        exact ⟨_, rfl, h⟩
      · wp_walk using q1
        exact ⟨_, rfl, h⟩
    · wp_walk using q1
      exact ⟨_, rfl, h⟩
theorem enum_begins1 {prog : Program} {w : World} {A : Around} {E : Value → Shared → Prop} {s : Shared} {v : Value} {o : Obj} {H : Heap → Prop} {Q : Value → Shared → Prop} (B : Begins v o H) (h1 : H s.heap)
    (h : ∀ h', IsEnum h' (s.heap.objs.size + 1) s.heap.objs.size 0 .none → h'.get? s.heap.objs.size = some o → h'.objs.size = s.heap.objs.size + 2 →
      (∀ b o, s.heap.get? b = some o → h'.get? b = some o) → Q (.ref (s.heap.objs.size + 1)) { s with heap := h' }) :
    wpAny (model prog w) A (call (.type "enumerate") [v]) Q E s := by
  refine callType_new F.called_enumerate (by decide) (F.typeCall_enumerate_1 _) (F.newCall_enumerate_1 _) (fun obj => F.args_object_init_2 obj _) F.entry_enumerate_new
    (meets_enum_new1 B) ⟨h1, ?_⟩
  have hz : (s.heap.push o).objs.size = s.heap.objs.size + 1 := Heap.size_push ..
  show _ ∧ _
  rw [hz]
  have he : IsEnum ((s.heap.push o).push { cls := .type "enumerate", data := .fields #[.none, .bool false, .ref s.heap.objs.size, rawInt 0, .none, .none] }) (s.heap.objs.size + 1) s.heap.objs.size 0 .none := by
    have := Heap.get?_push_size (s.heap.push o) (o := { cls := .type "enumerate", data := .fields #[.none, .bool false, .ref s.heap.objs.size, rawInt 0, .none, .none] }) rfl
    rw [hz] at this; exact this
  refine ⟨⟨_, he, rfl⟩, h _ he (Heap.get?_push_of_some _ (Heap.get?_push_size _ B.free)) (by rw [Heap.size_push, hz]) fun b o x => Heap.get?_push_of_some _ (Heap.get?_push_of_some _ x)⟩
/-- the tuple at a as it stands at each turn, the count and the item in new pairs -/
def IteT (K : PySem.W.Frag) (a : Addr) : It :=
  ⟨fun i H => ∃ (xs : List V) (x : V), SqT K H a xs ∧ xs[i]? = some x,
    fun i H v H' => ∃ T x, v = .ref T ∧ H T = none ∧ H' = upd H T (.tup [.int (i : Nat), x]) ∧ ∀ xs, SqT K H a xs → xs[i]? = some x,
    fun i H => ∃ xs : List V, SqT K H a xs ∧ xs.length ≤ i⟩
theorem turn_enumT {P : Program} {w : World} {K : PySem.W.Frag} {elts : List Expr} {kk : Nat} {tpos : Pos} (a e it : Addr) (hae : a ≠ e) (hai : a ≠ it) :
    Turn P w K (.Tuple elts kk tpos) (IteT K a) [e, it] e (fun i h => (∃ old, IsEnum h e it ((i : Nat) : Int) old) ∧ h.IsTupleIter it a i ∧ e ≠ it) where
  mem := by simp
  obj := fun i h st b hb => by
    obtain ⟨⟨old, he⟩, ⟨o, ho, hc, hd⟩, _⟩ := st
    have e' : b = e ∨ b = it := by simpa using hb
    rcases e' with z | z
    · rw [z]; exact ⟨_, he, fun v q => nomatch q⟩
    · rw [z]; exact ⟨o, ho, fun v q => by rw [hd] at q; cases q⟩
  keep := fun i h h' st k => let ⟨⟨old, he⟩, hi, hne⟩ := st; ⟨⟨old, k e (by simp) _ he⟩, hi.at fun o q => k it (by simp) o q, hne⟩
  item := by
    intro X hP hw hK hc i pins s σ H E I hf st hg
    subst hP hw hK
    obtain ⟨⟨old, he⟩, hit, hne⟩ := st
    obtain ⟨xs, x, hq, hx⟩ := hg
    obtain ⟨its, rv, p, hz⟩ := I.tuple hq
    obtain ⟨u, hu, ru⟩ := rv.get hx
    have hel : e < s.heap.objs.size := Heap.lt_size he
    have hil : it < s.heap.objs.size := by obtain ⟨_, q, _⟩ := hit; exact Heap.lt_size q
    have hlt : i < its.toArray.size := by
      have := (List.getElem?_eq_some_iff.mp hu).1
      simpa using this
    refine wpAny_pyNext_enum_itemD (Draws.tuple (prog := X.prog) (w := X.w) (A := X.A.in1) (show X.A.in1.handled = none from I.ok.hd hc) it a hai its.toArray) he ⟨hit, p⟩ hlt hne (by simp [hne, hae.symm]) fun x' h' tk hP ho hit' hT hsz hk => ?_
    obtain rfl : u = x' := by
      have : its.toArray[i]? = some x' := hP
      rw [List.getElem?_toArray, hu] at this
      exact Option.some.inj this
    refine ⟨_, rfl, wpAny_letOwnedTupleGo_enum (s := { s with heap := h', toks := tk + 1 }) ho fun h'' he' sb => ?_⟩
    have hT2 : h''.get? s.heap.objs.size = some { cls := .type "tuple", data := .seq #[.int i tk, u] } := (sb.2 _ (Nat.ne_of_gt hel)).trans hT
    have new : ObjOk X.prog X.w (upd H s.heap.objs.size (.tup [.int (i : Nat), x])) h'' s.heap.objs.size (.tup [.int (i : Nat), x]) :=
      ⟨by show 2 ≤ sizeLine; decide, [.int i tk, u], .cons ⟨_, rfl⟩ (.cons ru .nil), ⟨_, hT2, rfl, _, rfl⟩⟩
    have I1 : Inv X pins σ (upd H s.heap.objs.size (.tup [.int (i : Nat), x])) { s with heap := h'', toks := tk + 1 } :=
      I.turnedNew (ch := [e, it]) (fun b ob hb q => (sb.2 b (fun z => hb (by simp [z]))).trans (hk b ob (fun z => hb (by simp [z])) (fun z => hb (by simp [z])) q)) hf (Nat.le_refl _) new
    refine ⟨.ref s.heap.objs.size, _, I1, rfl, ⟨_, x, rfl, I.hok.fresh (Nat.le_refl _), rfl, fun ys hy => by rw [I.tuple_inj hy hq]; exact hx⟩, ⟨⟨u, ?_⟩, hit'.1.at fun o q => (sb.2 it (Ne.symm hne)).trans q, hne⟩, fun b hb => ?_⟩
    · have e1 : ((i + 1 : Nat) : Int) = (i : Int) + 1 := by omega
      rw [e1]; exact he'
    · have hb' : b < s.heap.objs.size := by
        have e' : b = e ∨ b = it := by simpa using hb
        rcases e' with z | z
        · rw [z]; exact hel
        · rw [z]; exact hil
      rw [upd_ne (Nat.ne_of_lt hb')]
      exact (hf b hb).1
  done := by
    intro X hP hw hK hc i pins s σ H E I hf st hg
    subst hP hw hK
    obtain ⟨⟨old, he⟩, hit, hne⟩ := st
    obtain ⟨xs, hq, hx⟩ := hg
    obtain ⟨its, rv, p, hz⟩ := I.tuple hq
    obtain ⟨f0, f1, f2, f3, f4, f5⟩ := hf it (by simp)
    have hl := rv.length
    have hend : its.toArray[i]? = none := by simp; omega
    exact wpAny_pyNext_enum_end1 (I.ok.hd hc) he hit p hend hai fun h' eb => ⟨rfl, I.turned (t' := s.toks) (fun b o hb q => eb b o hb q) f0 f1 f3 f4 f5⟩
  self := fun A i s Q E st h => let ⟨⟨_, he⟩, _⟩ := st; wpAny_pyIter_enum he h
where
  wpAny_pyNext_enum_end1 {prog : Program} {w : World} {A : Around} {E : Value → Shared → Prop} {s : Shared} {e it a : Addr} {items : Array Value} {i : Nat} {old : Value} {Q : Option Value → Shared → Prop}
      (hh : A.handled = none) (he : IsEnum s.heap e it (i : Nat) old) (hit : s.heap.IsTupleIter it a i) (hp : s.heap.IsTuple a items) (hx : items[i]? = none) (hne : a ≠ it)
      (hQ : ∀ h', Heap.ExtBut it s.heap h' → Q none { s with heap := h' }) : wpAny (model prog w) A (pyNext (.ref e)) Q E s := by
    have hT : s.TypeIs (.ref e) "enumerate" := ⟨_, he, rfl⟩
    unfold pyNext
    refine wpAny_bind (wpAny_attempt (wpAny_callSpecial?_slot (name := Str.ofString "__next__") hT F.slot_enumerate_next
      (wpAny_call_entry F.slot_enumerate_next hT F.entry_enumerate_next ?_ (F.args_enumerate_next_1 _))))
    show wpAny _ _ (field (.ref e) 2 >>= _) _ _ _
    refine wpAny_bind (wpAny_field he rfl (x := .ref it) rfl ?_)
    refine wpAny_bind (wpAny_nextOf_tuple_end (A := A.in1) hh hit hp hx fun h' x he' hx' => ?_)
    obtain ⟨o, ho, hc⟩ := hx'
    refine wpAny_bind (wpAny_isInstance (T := "StopIteration") (b := true) ⟨o, ho, hc⟩ isSubtype_stop ?_)
    exact wpAny_pure (hQ _ he')
def iEnumT (K : PySem.W.Frag) (ta : TA) : TI := fun σ H R => ta σ H fun vs H1 => ∃ a xs, vs = [.ref a] ∧ SqT K H1 a xs ∧ R (IteT K a) H1
theorem pi_enumT {X : Cx} {e : Expr} {ta : TA} {p pos tpos : Pos} {elts : List Expr} {kk : Nat} (hg : Gl X "enumerate") (hm : X.mg "enumerate" = none) (ha : PA X [e] ta) (hs : starEach [e] X.env = [(false, eval e X.env)] := by rfl) :
    PI X (.Tuple elts kk tpos) (.Call (.Name "enumerate" p) [e] [] pos) (iEnumT X.K ta) := by
  refine ⟨fun pins s σ H R I h => ?_⟩
  refine Call_ (ld_blt I hg hm boot_enumerate (PyProof.Rows.callWith_type1 (thn (ha.run pos pins s σ H _ I h) fun us s1 ⟨vs, H1, I1, r1, q1⟩ => ?_) hs rfl))
  obtain ⟨a, xs, ex, hq, q⟩ := q1
  subst ex
  cases r1 with
  | cons r rr =>
    cases rr
    cases r
    obtain ⟨its, rv, p', hz⟩ := I1.tuple hq
    have hal : a < s1.heap.objs.size := by obtain ⟨_, q, _⟩ := id p'; exact Heap.lt_size q
    refine enum_begins1 (begins_tuple a its.toArray) p' fun h' he hit hsz hk => wpAny_pyIter_enum he ?_
    have I2 : Inv X pins σ H1 { s1 with heap := h' } := I1.kept (t' := s1.toks) hk
    refine ⟨s1.heap.objs.size + 1, [s1.heap.objs.size + 1, s1.heap.objs.size], _, _, H1, rfl, I2, turn_enumT a (s1.heap.objs.size + 1) s1.heap.objs.size (Nat.ne_of_lt (Nat.lt_succ_of_lt hal)) (Nat.ne_of_lt hal), ⟨⟨.none, he⟩, ⟨_, hit, rfl, rfl⟩, Nat.succ_ne_self _⟩, fun b hb => ?_, q⟩
    have e' : b = s1.heap.objs.size + 1 ∨ b = s1.heap.objs.size := by simpa using hb
    have hle : s1.heap.objs.size ≤ b := by
      rcases e' with z | z
      · rw [z]; exact Nat.le_add_right _ _
      · rw [z]; exact Nat.le_refl _
    exact I1.fpOk hle (I1.hok.fresh hle)
theorem k_pienumT {X : Cx} (K : PySem.W.Frag) {e : Expr} {ta : TA} {p pos tpos : Pos} {elts : List Expr} {kk : Nat} (hg : Gl X "enumerate") (hm : X.mg "enumerate" = none) (ha : PA X [e] ta) (h : X.K = K := by rfl)
    (hs : starEach [e] X.env = [(false, eval e X.env)] := by rfl) : PI X (.Tuple elts kk tpos) (.Call (.Name "enumerate" p) [e] [] pos) (iEnumT K ta) := by subst h; exact pi_enumT hg hm ha hs
theorem yl_enumT {K : PySem.W.Frag} {a : Addr} {xs : List V} {R : Hp → Prop} (hl : ∀ H, R H → SqT K H a xs) : Yl (IteT K a) xs.length R (YEnum xs) where
  stop := fun H r => ⟨xs, hl H r, Nat.le_refl _⟩
  go := fun i H hi r => ⟨xs, xs[i], hl H r, List.getElem?_eq_getElem hi⟩
  yl := fun i v H H' _ r ⟨T, x, e1, e2, e3, f⟩ => ⟨T, x, e1, e2, e3, f xs (hl H r)⟩
end Qk

set_option Elab.async false
set_option linter.all false
set_option maxRecDepth 100000
set_option maxHeartbeats 4000000
namespace Qk
open PySem PySem.Spec PyProof.Rows L2
/-! ### the places of a word -/
def placesV (ls : List (List Int)) (ms ws : List Int) : List Int := match ledAll ls ms ws with | some p => [(p : Nat)] | none => []
theorem GoodRow.atMost {ls : List (List Int)} {ms : List Int} (g : GoodRow ls ms) {p : Nat} {z : Int} (h : z ∈ ls.getD p []) : ¬ (p < ms.length ∧ ms.getD p 0 = z) := fun ⟨h1, h2⟩ => by
  have hl : p < ls.length := by have := g.len; omega
  have e1 : ls.getD p [] = ls[p] := by rw [List.getD_eq_getElem?_getD, List.getElem?_eq_getElem hl]; rfl
  have e2 : ms.getD p 0 = ms[p] := by rw [List.getD_eq_getElem?_getD, List.getElem?_eq_getElem h1]; rfl
  refine g.apart (ls[p], ms[p]) (List.mem_of_getElem? (i := p) (by rw [List.getElem?_zip_eq_some]; exact ⟨List.getElem?_eq_getElem hl, List.getElem?_eq_getElem h1⟩)) ?_
  show ms[p] ∈ ls[p]
  rw [← e1, ← e2, h2]
  exact h
def inLot (ls : List (List Int)) (z q : Int) : Bool := decide (z ∈ ls.getD q.toNat [])
def atMark (ms : List Int) (z q : Int) : Bool := decide (q < ms.length) && decide (ms.getD q.toNat 0 = z)
theorem inLot_nat {ls : List (List Int)} {z : Int} {p : Nat} : inLot ls z (p : Nat) = decide (z ∈ ls.getD p []) := rfl
theorem atMark_nat {ms : List Int} {z : Int} {p : Nat} : atMark ms z (p : Nat) = decide (p < ms.length ∧ ms.getD p 0 = z) := by
  have el : (((p : Nat) : Int) < (ms.length : Nat)) = (p < ms.length) := by rw [Int.ofNat_lt]
  unfold atMark
  rw [Bool.decide_and]
  congr 1
  rw [decide_eq_decide, el]
theorem filter_one {f : Int → Bool} {q : Int} : [q].filter f = if f q = true then [q] else [] := by
  cases e : f q with
  | true => rw [List.filter_cons_of_pos e]; rfl
  | false => rw [List.filter_cons_of_neg (by rw [e]; exact Bool.false_ne_true)]; rfl
theorem places_step {ls : List (List Int)} {ms : List Int} (g : GoodRow ls ms) (w : List Int) (z : Int) :
    placesV ls ms (w ++ [z]) = (placesV ls ms w).filter (inLot ls z) ++ ((placesV ls ms w).filter (atMark ms z)).map (· + 1) := by
  unfold placesV
  rw [ledAll_snoc]
  cases e : ledAll ls ms w with
  | none => rfl
  | some p =>
    show (match led ls ms p z with | some p => [((p : Nat) : Int)] | none => []) = [((p : Nat) : Int)].filter (inLot ls z) ++ ([((p : Nat) : Int)].filter (atMark ms z)).map (· + 1)
    unfold led
    rw [filter_one, filter_one, inLot_nat, atMark_nat]
    by_cases ha : z ∈ ls.getD p []
    · rw [if_pos ha, decide_eq_true ha, decide_eq_false (g.atMost ha)]
      rfl
    · rw [if_neg ha, decide_eq_false ha]
      by_cases hb : p < ms.length ∧ ms.getD p 0 = z
      · rw [if_pos hb, decide_eq_true hb]
        rfl
      · rw [if_neg hb, decide_eq_false hb]
        rfl
theorem places_nat {ls : List (List Int)} {ms ws : List Int} : ∀ q ∈ placesV ls ms ws, ∃ p : Nat, q = (p : Nat) ∧ p ≤ ms.length := fun q hq => by
  unfold placesV at hq
  cases e : ledAll ls ms ws with
  | none => rw [e] at hq; cases hq
  | some p =>
    rw [e] at hq
    exact ⟨p, List.mem_singleton.mp hq, ledAll_le ws (Nat.zero_le _) e⟩
theorem places_len {ls : List (List Int)} {ms ws : List Int} : (placesV ls ms ws).length ≤ 1 := by
  unfold placesV
  cases ledAll ls ms ws with
  | none => exact Nat.zero_le _
  | some p => exact Nat.le_refl _
theorem places_takes {ls : List (List Int)} {ms ws : List Int} : decide (((ms.length : Nat) : Int) ∈ placesV ls ms ws) = takesB ls ms ws := by
  unfold placesV takesB
  cases ledAll ls ms ws with
  | none => rfl
  | some p =>
    rw [decide_eq_decide]
    show ((ms.length : Nat) : Int) ∈ [((p : Nat) : Int)] ↔ _
    rw [List.mem_singleton]
    constructor
    · intro h
      have : ms.length = p := Int.ofNat.inj h
      rw [this]
    · intro h
      rw [Option.some.inj h]
def spPlaces (K : PySem.W.Frag) : Sp := fun vs H Q _ => ∃ (v : V) (b : Addr) (ls : List (List Int)) (ms ws : List Int), vs = [v, .ref b] ∧ Dp K H v (rowD ls ms) ∧ GoodRow ls ms ∧ SqT K H b (ws.map V.int) ∧
  ∀ (a : Addr) H', Same H H' → H' a = some (.lst ((placesV ls ms ws).map V.int)) → Q (.ref a) H'
theorem map_at {ns : List Int} {i : Nat} {x : V} (h : (ns.map V.int)[i]? = some x) : ∃ z, ns[i]? = some z ∧ x = V.int z := by
  rw [List.getElem?_map] at h
  cases e : ns[i]? with
  | none => rw [e] at h; cases h
  | some z => rw [e] at h; exact ⟨z, rfl, (Option.some.inj h).symm⟩
theorem filter_snoc {ns : List Int} {i : Nat} {z : Int} (h : ns[i]? = some z) (f : Int → Bool) : (ns.take (i + 1)).filter f = (ns.take i).filter f ++ if f z = true then [z] else [] := by
  rw [take_snoc h, List.filter_append]
  cases e : f z with
  | true => rw [List.filter_cons_of_pos e]; rfl
  | false => rw [List.filter_cons_of_neg (by rw [e]; exact Bool.false_ne_true)]; rfl
end Qk

set_option Elab.async false
set_option linter.all false
set_option maxRecDepth 100000
set_option maxHeartbeats 4000000
namespace Qk
open PySem PySem.Spec PyProof.Rows L2
section
variable {K : PySem.W.Frag} {H : Hp} {a b : Addr} {xs ys : List V} {Q : VK} {lo hi : Option Int}
theorem cut_whole (h : HT.sIx xs.length 0 lo = 0 ∧ HT.sIx xs.length xs.length hi = xs.length) : cutV xs lo hi = xs := by
  unfold cutV
  rw [h.1, h.2, List.drop_zero, Nat.sub_zero, List.take_length]
theorem sl_any (h : SqT K H a xs) (q : ∀ p H', Same H H' → SqT K H' p (cutV xs lo hi) → Q (.ref p) H') : rSlA K (.ref a) lo hi H Q :=
  ⟨a, xs, rfl, h, fun w => q a H (Same.refl _) (by rw [cut_whole w]; exact h), fun _ p np => q p _ (same_new np) (SqT.of upd_same)⟩
theorem cat_any (h1 : SqT K H a xs) (h2 : SqT K H b ys) (hz : xs.length + ys.length ≤ 1000) (q : ∀ p H', Same H H' → SqT K H' p (xs ++ ys) → Q (.ref p) H') : rCatA K (.ref a) (.ref b) H Q :=
  ⟨a, b, xs, ys, rfl, rfl, h1, h2, Nat.le_of_lt (small1000 hz), fun e => q b H (Same.refl _) (by rw [e]; exact h2), fun _ e => q a H (Same.refl _) (by rw [e, List.append_nil]; exact h1), fun _ _ p np => q p _ (same_new np) (SqT.of upd_same)⟩
end
/-- a word that is read off a row -/
def spRead (K : PySem.W.Frag) : Sp := fun vs H Q _ => ∃ (n : Pn) (v : V) (ls : List (List Int)) (ms : List Int), vs = [.ref n.p, v] ∧ PenOk n H ∧ Dp K H v (rowD ls ms) ∧ GoodRow ls ms ∧
  ∀ (ws : List Int) (a : Addr) H', (∀ x ∈ ws, 0 ≤ x ∧ x < 3) → ws.length ≤ 100 → Pen n H H' → SqT K H' a (ws.map V.int) → Q (.ref a) H'
/-- what is told of a bad word -/
def badWordB (d : PyData) : Bool := !wordD d 3 && d.showable && decide (d.depth ≤ 60) && decide (d.shown.length ≤ 100000) && decide ((itemsD d).length ≤ 1000)
end Qk

set_option Elab.async false
set_option linter.all false
set_option maxRecDepth 100000
set_option maxHeartbeats 4000000
namespace Qk
open PySem PySem.Spec PyProof.Rows L2
/-! ### data made of small parts -/
mutual
/-- small leaves; of dicts the empty one only -/
def sm : PyData → Bool
  | .none => true
  | .bool _ => true
  | .int i => decide (-1 ≤ i) && decide (i ≤ 3)
  | .str x => x.cps.toList.all (fun c => decide (c < 128))
  | .list _ => false
  | .tuple ds => smAll ds
  | .dict l => l.isEmpty
def smAll : List PyData → Bool
  | [] => true
  | d :: ds => sm d && smAll ds
end
mutual
theorem dp_upd {K : PySem.W.Frag} {H H' : Hp} (ht : ∀ a xs, SqT K H a xs → SqT K H' a xs) : ∀ (d : PyData) (v : V), sm d = true → Dp K H v d → Dp K H' v d
  | .none, _, _, h => by cases h; exact .non
  | .bool b, _, _, h => by cases h; exact .bl b
  | .int i, _, _, h => by cases h; exact .int i
  | .str x, _, _, h => by cases h; exact .str x
  | .list ds, _, e, h => by simp [sm] at e
  | .tuple ds, _, e, h => by
    cases h with
    | tup h1 h2 => exact .tup (ht _ _ h1) (dpAll_upd ht ds _ (by simpa only [sm] using e) h2)
  | .dict _, _, _, h => by cases h
theorem dpAll_upd {K : PySem.W.Frag} {H H' : Hp} (ht : ∀ a xs, SqT K H a xs → SqT K H' a xs) : ∀ (ds : List PyData) (vs : List V), smAll ds = true → DpAll K H vs ds → DpAll K H' vs ds
  | [], _, _, h => by cases h; exact .nil
  | d :: ds, _, e, h => by
    simp only [smAll, Bool.and_eq_true] at e
    cases h with
    | cons h1 h2 => exact .cons (dp_upd ht d _ e.1 h1) (dpAll_upd ht ds _ e.2 h2)
end
theorem sqT_updL {K : PySem.W.Frag} {H : Hp} {l a : Addr} {xs ys zs : List V} (e : H l = some (.lst xs)) (h : SqT K H a zs) : SqT K (upd H l (.lst ys)) a zs := by
  rcases h with (h | ⟨o, h⟩) | h
  · have n : a ≠ l := fun z => by rw [z, e] at h; cases h
    exact .inl (.inl (by rw [upd_ne n]; exact h))
  · have n : a ≠ l := fun z => by rw [z, e] at h; cases h
    exact .inl (.inr ⟨o, by rw [upd_ne n]; exact h⟩)
  · exact .inr h
theorem vd_updL {K : PySem.W.Frag} {H : Hp} {l : Addr} {xs ys : List V} (e : H l = some (.lst xs)) {d : PyData} {v : V} (hs : sm d = true) (h : Vd K H v d) : Vd K (upd H l (.lst ys)) v d := by
  cases h with
  | dp h => exact .dp (dp_upd (fun a zs => sqT_updL e) d v hs h)
  | @d0 a h =>
    have n : a ≠ l := fun z => by rw [z, e] at h; cases h
    exact .d0 (by rw [upd_ne n]; exact h)
theorem int_small {i : Int} (h : (decide (-1 ≤ i) && decide (i ≤ 3)) = true) : i = -1 ∨ i = 0 ∨ i = 1 ∨ i = 2 ∨ i = 3 := by
  simp only [Bool.and_eq_true, decide_eq_true_eq] at h
  omega
mutual
theorem sm_ok : ∀ d : PyData, sm d = true → d.showable = true ∧ d.leavesShort 8 = true
  | .none, _ => ⟨rfl, rfl⟩
  | .bool _, _ => ⟨by simp [PyData.showable], by simp [PyData.leavesShort]⟩
  | .int i, h => by
    rcases int_small (by simpa only [sm] using h) with e | e | e | e | e <;> subst e <;> exact ⟨by decide +kernel, by decide +kernel⟩
  | .str x, h => by
    simp only [sm, List.all_eq_true, decide_eq_true_eq] at h
    refine ⟨by simp [PyData.showable], ?_⟩
    simp only [PyData.leavesShort, List.all_eq_true, decide_eq_true_eq]
    intro c hc
    exact Nat.lt_trans (h c hc) (by decide)
  | .list ds, h => by simp [sm] at h
  | .tuple ds, h => by
    have q := smAll_ok ds (by simpa only [sm] using h)
    exact ⟨by simpa only [PyData.showable] using q.1, by simpa only [PyData.leavesShort] using q.2⟩
  | .dict l, h => by
    cases l with
    | nil => exact ⟨by decide +kernel, by decide +kernel⟩
    | cons x r => simp [sm] at h
theorem smAll_ok : ∀ ds : List PyData, smAll ds = true → PyData.showableAll ds = true ∧ PyData.leavesShortAll 8 ds = true
  | [], _ => ⟨rfl, rfl⟩
  | d :: ds, h => by
    simp only [smAll, Bool.and_eq_true] at h
    have q1 := sm_ok d h.1
    have q2 := smAll_ok ds h.2
    exact ⟨by simp only [PyData.showableAll, q1.1, q2.1, Bool.and_self], by simp only [PyData.leavesShortAll, q1.2, q2.2, Bool.and_self]⟩
end
/-- small, few, flat -/
structure Fit (d : PyData) (n k : Nat) : Prop where
  sm : sm d = true
  bulk : d.bulk ≤ n
  depth : d.depth ≤ k
structure FitA (ds : List PyData) (n k : Nat) : Prop where
  sm : smAll ds = true
  bulk : PyData.bulkAll ds ≤ n
  depth : PyData.depthAll ds ≤ k
theorem Fit.tup {ds : List PyData} {n k : Nat} (h : FitA ds n k) : Fit (.tuple ds) n (k + 1) := by
  refine ⟨by simpa only [Qk.sm] using h.sm, by simpa only [PyData.bulk] using h.bulk, ?_⟩
  have := h.depth
  simp only [PyData.depth]
  omega
theorem FitA.nil {n k : Nat} : FitA [] n k := ⟨rfl, Nat.zero_le _, Nat.zero_le _⟩
theorem FitA.cons {d : PyData} {ds : List PyData} {n m k : Nat} (h : Fit d n k) (h2 : FitA ds m k) : FitA (d :: ds) (n + 1 + m) k := by
  refine ⟨by simp only [smAll, h.sm, h2.sm, Bool.and_self], ?_, ?_⟩
  · have := h.bulk; have := h2.bulk
    simp only [PyData.bulkAll]
    omega
  · have := h.depth; have := h2.depth
    simp only [PyData.depthAll]
    omega
theorem smAll_app : ∀ ds es : List PyData, smAll (ds ++ es) = (smAll ds && smAll es)
  | [], _ => rfl
  | d :: ds, es => by
    show (sm d && smAll (ds ++ es)) = ((sm d && smAll ds) && smAll es)
    rw [smAll_app ds es, Bool.and_assoc]
theorem FitA.app {k m : Nat} {es : List PyData} (h2 : FitA es m k) : ∀ {n : Nat} {ds : List PyData}, FitA ds n k → FitA (ds ++ es) (n + m) k
  | n, [], h => ⟨h2.sm, Nat.le_trans h2.bulk (Nat.le_add_left _ _), h2.depth⟩
  | n, d :: ds, h => by
    have e1 := h.sm
    have e2 := h.bulk
    have e3 := h.depth
    simp only [smAll, Bool.and_eq_true] at e1
    simp only [PyData.bulkAll] at e2
    simp only [PyData.depthAll] at e3
    have ih := FitA.app h2 (n := n - d.bulk - 1) (ds := ds) ⟨e1.2, by omega, by omega⟩
    have i2 := ih.bulk
    have i3 := ih.depth
    refine ⟨?_, ?_, ?_⟩
    · rw [smAll_app, h.sm, h2.sm]; rfl
    · show d.bulk + 1 + PyData.bulkAll (ds ++ es) ≤ _
      omega
    · show PyData.depthAll (d :: (ds ++ es)) ≤ k
      simp only [PyData.depthAll]
      omega
theorem Fit.mono {d : PyData} {n m k j : Nat} (h : Fit d n k) (h1 : n ≤ m) (h2 : k ≤ j) : Fit d m j := ⟨h.sm, Nat.le_trans h.bulk h1, Nat.le_trans h.depth h2⟩
theorem FitA.mono {d : List PyData} {n m k j : Nat} (h : FitA d n k) (h1 : n ≤ m) (h2 : k ≤ j) : FitA d m j := ⟨h.sm, Nat.le_trans h.bulk h1, Nat.le_trans h.depth h2⟩
theorem FitA.ints : ∀ {ns : List Int}, (∀ x ∈ ns, -1 ≤ x ∧ x ≤ 3) → FitA (ns.map PyData.int) ns.length 1
  | [], _ => .nil
  | n :: ns, h => by
    have h1 := h n List.mem_cons_self
    have ih := FitA.ints (ns := ns) fun x hx => h x (List.mem_cons_of_mem _ hx)
    have f : Fit (.int n) 0 1 := ⟨by simp only [Qk.sm, decide_eq_true h1.1, decide_eq_true h1.2, Bool.and_self], by simp only [PyData.bulk]; omega, by simp only [PyData.depth]; omega⟩
    exact (FitA.cons f ih).mono (by rw [List.length_cons]; omega) (Nat.le_refl _)
theorem FitA.lots : ∀ {ls : List (List Int)}, (∀ l ∈ ls, LotGood l) → FitA (ls.map lotT) (4 * ls.length) 2
  | [], _ => .nil
  | l :: ls, h => by
    have h1 := h l List.mem_cons_self
    have ih := FitA.lots (ls := ls) fun x hx => h x (List.mem_cons_of_mem _ hx)
    have f : Fit (lotT l) 3 2 := Fit.tup ((FitA.ints fun x hx => by have := h1.1 x hx; omega).mono h1.2.2 (Nat.le_refl 1))
    exact (FitA.cons f ih).mono (by rw [List.length_cons]; omega) (Nat.le_refl _)
/-- what may be shown -/
structure Shows (d : PyData) : Prop where
  s : d.showable = true
  dep : d.depth ≤ 60
  z : d.shown.length ≤ sizeLine
  n : (itemsD d).length ≤ 1000
  sm : sm d = true
theorem bulkAll_len : ∀ ds : List PyData, ds.length ≤ PyData.bulkAll ds
  | [] => Nat.zero_le _
  | d :: ds => by
    have := bulkAll_len ds
    simp only [PyData.bulkAll, List.length_cons]
    omega
theorem Fit.shows {d : PyData} {n k : Nat} (h : Fit d n k) (h1 : n ≤ 1000) (h2 : k ≤ 60) : Shows d := by
  have q := sm_ok d h.sm
  have hb : d.bulk ≤ 2 ^ 20 := Nat.le_trans h.bulk (Nat.le_trans h1 (by decide))
  refine ⟨q.1, Nat.le_trans h.depth h2, PyData.shown_fits_bulk (Nat.le_refl 8) (by decide) q.2 hb, ?_, h.sm⟩
  have b := Nat.le_trans h.bulk h1
  cases d with
  | list ds => exact Nat.le_trans (bulkAll_len ds) (by simpa only [PyData.bulk] using b)
  | tuple ds => exact Nat.le_trans (bulkAll_len ds) (by simpa only [PyData.bulk] using b)
  | _ => exact Nat.zero_le _
/-! ### == of data with any texts -/
def rEqP (K : PySem.W.Frag) : R2 := fun x y H Q => ∃ d e, Dp K H x d ∧ Dp K H y e ∧ d.plain = true ∧ e.plain = true ∧ d.depth ≤ 60 ∧ Q (.bl (PyData.eqv d e)) H
theorem k_eqP {X : Cx} (K : PySem.W.Frag) (hu : X.A.units + 64 < cLine) (hK : X.K = K := by rfl) : OpR X (compareOp .Eq) (rEqP K) := by
  subst hK
  intro pins s σ H x y v u Q I rx ry h
  obtain ⟨d, e, hd, he, pd, pe, dd, q⟩ := h
  obtain ⟨as, r1⟩ := Dp.reads I d x v hd rx
  obtain ⟨bs, r2⟩ := Dp.reads I e y u he ry
  exact PySem.SeqAt.eq_plain r1 r2 pd pe (by omega) ⟨.bl _, H, I, rfl, q⟩
/-! ### displays of data -/
section
variable {K : PySem.W.Frag} {σ : Slots} {H : Hp}
/-- wherever it is worked out, it gives data d and keeps what stands -/
def El (K : PySem.W.Frag) (te : TE) (σ : Slots) (H : Hp) (d : PyData) : Prop := ∀ H1, Same H H1 → ∀ Q : VK, (∀ v H2, Same H1 H2 → Dp K H2 v d → Q v H2) → te σ H1 Q
def ElV (K : PySem.W.Frag) (te : TE) (σ : Slots) (H : Hp) (d : PyData) : Prop := ∀ H1, Same H H1 → ∀ Q : VK, (∀ v H2, Same H1 H2 → Vd K H2 v d → Q v H2) → te σ H1 Q
def Els (K : PySem.W.Frag) (ta : TA) (σ : Slots) (H : Hp) (ds : List PyData) : Prop := ∀ H1, Same H H1 → ∀ R : List V → Hp → Prop, (∀ vs H2, Same H1 H2 → DpAll K H2 vs ds → R vs H2) → ta σ H1 R
/-- each of them data of which p holds -/
def VdL (K : PySem.W.Frag) (p : PyData → Prop) (H : Hp) (vs : List V) : Prop := ∀ v ∈ vs, ∃ d, Vd K H v d ∧ p d
theorem VdL.same {p : PyData → Prop} {H H' : Hp} {vs : List V} (h : VdL K p H vs) (s : Same H H') : VdL K p H' vs := fun v hv => let ⟨d, h1, h2⟩ := h v hv; ⟨d, vd_same s h1, h2⟩
theorem VdL.app {p : PyData → Prop} {H : Hp} {vs ws : List V} (h : VdL K p H vs) (h2 : VdL K p H ws) : VdL K p H (vs ++ ws) := fun v hv => (List.mem_append.mp hv).elim (h v) (h2 v)
def ElsV (K : PySem.W.Frag) (p : PyData → Prop) (n : Nat) (ta : TA) (σ : Slots) (H : Hp) : Prop := ∀ H1, Same H H1 → ∀ R : List V → Hp → Prop, (∀ vs H2, Same H1 H2 → vs.length = n → VdL K p H2 vs → R vs H2) → ta σ H1 R
theorem El.v {te : TE} {d : PyData} (h : El K te σ H d) : ElV K te σ H d := fun H1 s Q q => h H1 s Q fun v H2 s2 hd => q v H2 s2 (.dp hd)
theorem el_var {i : Nat} {v : V} {d : PyData} (e : σ[i]? = some (some v)) (h : Dp K H v d) : El K (tVar i) σ H d := fun H1 s Q q => ⟨v, e, q v H1 (Same.refl _) (dp_same s h)⟩
theorem el_non : El K (tC .non) σ H .none := fun H1 s Q q => q _ H1 (Same.refl _) .non
theorem el_int (i : Int) : El K (tC (.int i)) σ H (.int i) := fun H1 s Q q => q _ H1 (Same.refl _) (.int i)
theorem el_bl (i : Bool) : El K (tC (.bl i)) σ H (.bool i) := fun H1 s Q q => q _ H1 (Same.refl _) (.bl i)
theorem el_str (i : Str) : El K (tC (.str i)) σ H (.str i) := fun H1 s Q q => q _ H1 (Same.refl _) (.str i)
theorem el_neg (i : Int) : El K (tUn (rU fun i => .int (-i)) (tC (.int i))) σ H (.int (-i)) := fun H1 s Q q => ⟨i, rfl, q _ H1 (Same.refl _) (.int (-i))⟩
theorem elv_d0 : ElV K tDNewK σ H (.dict []) := fun H1 s Q q p np => q _ _ (same_new np) (.d0 upd_same)
theorem els_nil : Els K tNil σ H [] := fun H1 s R q => q [] H1 (Same.refl _) .nil
theorem els_cons {te : TE} {ta : TA} {d : PyData} {ds : List PyData} (h : El K te σ H d) (h2 : Els K ta σ H ds) : Els K (tCons te ta) σ H (d :: ds) := fun H1 s R q =>
  h H1 s _ fun v H2 s2 hd => h2 H2 (same_trans s s2) _ fun vs H3 s3 hds => q (v :: vs) H3 (same_trans s2 s3) (.cons (dp_same s3 hd) hds)
theorem elsv_nil {p : PyData → Prop} : ElsV K p 0 tNil σ H := fun H1 s R q => q [] H1 (Same.refl _) rfl (fun _ h => nomatch h)
theorem elsv_cons {p : PyData → Prop} {te : TE} {ta : TA} {d : PyData} {n : Nat} (h : ElV K te σ H d) (hp : p d) (h2 : ElsV K p n ta σ H) : ElsV K p (n + 1) (tCons te ta) σ H := fun H1 s R q =>
  h H1 s _ fun v H2 s2 hd => h2 H2 (same_trans s s2) _ fun vs H3 s3 hn hds => q (v :: vs) H3 (same_trans s2 s3) (by rw [List.length_cons, hn]) fun u hu => by
    rcases List.mem_cons.mp hu with e | hu
    · rw [e]; exact ⟨d, vd_same s3 hd, hp⟩
    · exact hds u hu
theorem el_tup {ta : TA} {ds : List PyData} (h : Els K ta σ H ds) (hn : ds.length ≤ 1000) : El K (tTup ta) σ H (.tuple ds) := fun H1 s Q q =>
  h H1 s _ fun vs H2 s2 hds => ⟨Nat.le_of_lt (small1000 (by rw [dpAll_len hds]; exact hn)), fun p np => q _ _ (same_trans s2 (same_new np)) (.tup (SqT.of upd_same) (dpAll_same (same_new np) hds))⟩
theorem el_cat {ta tb : TE} {ds es : List PyData} (h : El K ta σ H (.tuple ds)) (h2 : El K tb σ H (.tuple es)) (hn : ds.length + es.length ≤ 1000) : El K (tOp (rCatA K) ta tb) σ H (.tuple (ds ++ es)) := fun H1 s Q q =>
  h H1 s _ fun v H2 s2 hv => h2 H2 (same_trans s s2) _ fun u H3 s3 hu => by
    obtain ⟨a, xs, rfl, ha, hxs⟩ := dp_tup (dp_same s3 hv)
    obtain ⟨b, ys, rfl, hb, hys⟩ := dp_tup hu
    exact cat_any ha hb (by rw [dpAll_len hxs, dpAll_len hys]; exact hn) fun p H4 s4 hp => q _ _ (same_trans (same_trans s2 s3) s4) (.tup hp (dpAll_app (dpAll_same s4 hxs) (dpAll_same s4 hys)))
theorem el_rep {ta : TE} {d : PyData} {k : Int} (h : El K ta σ H (.tuple [d])) (h1 : 2 ≤ k) (h2 : k ≤ 1000) : El K (tOp (rRepT K) ta (tC (.int k))) σ H (.tuple (List.replicate k.toNat d)) := fun H1 s Q q =>
  h H1 s _ fun v H2 s2 hv => by
    obtain ⟨a, xs, rfl, ha, hxs⟩ := dp_tup hv
    obtain ⟨x, rfl, hx⟩ : ∃ x, xs = [x] ∧ Dp K H2 x d := by
      cases hxs with
      | cons h1 h2 => cases h2; exact ⟨_, rfl, h1⟩
    refine ⟨a, k, [x], rfl, rfl, ha, fun z => (by cases z), h1, h2, (by decide : 1 ≤ 1000), fun p np => q _ _ (same_trans s2 (same_new np)) (.tup (SqT.of upd_same) ?_)⟩
    rw [flat_rep]
    exact rep_all (dp_same (same_new np) hx) k.toNat
where
  flat_rep {x : V} : ∀ {n : Nat}, (List.replicate n [x]).flatten = List.replicate n x
    | 0 => rfl
    | n + 1 => by rw [List.replicate_succ, List.flatten_cons, flat_rep, List.replicate_succ]; rfl
  rep_all {H : Hp} {x : V} {d : PyData} (h : Dp K H x d) : ∀ n : Nat, DpAll K H (List.replicate n x) (List.replicate n d)
    | 0 => .nil
    | n + 1 => .cons h (rep_all h n)
theorem el_init {te : TE} {ds : List PyData} (h : El K te σ H (.tuple ds)) : El K (tSl (rSlA K) te tNoPart (tPart (tUn (rU fun i => .int (-i)) (tC (.int 1))))) σ H (.tuple ds.dropLast) := fun H1 s Q q =>
  h H1 s _ fun v H2 s2 hv => by
    obtain ⟨a, xs, rfl, ha, hxs⟩ := dp_tup hv
    refine ⟨1, rfl, -1, rfl, sl_any ha fun p H3 s3 hp => q _ _ (same_trans s2 s3) (.tup hp ?_)⟩
    rw [cut_init, List.dropLast_eq_take, List.dropLast_eq_take, dpAll_len hxs]
    exact dpAll_take _ (dpAll_same s3 hxs)
theorem el_tail {te : TE} {ds : List PyData} (h : El K te σ H (.tuple ds)) : El K (tSl (rSlA K) te (tPart (tC (.int 1))) tNoPart) σ H (.tuple ds.tail) := fun H1 s Q q =>
  h H1 s _ fun v H2 s2 hv => by
    obtain ⟨a, xs, rfl, ha, hxs⟩ := dp_tup hv
    refine ⟨1, rfl, sl_any ha fun p H3 s3 hp => q _ _ (same_trans s2 s3) (.tup hp ?_)⟩
    have e : cutV xs (some (1 : Int)) none = xs.drop 1 := cut_from xs 1
    rw [e, ← List.drop_one]
    exact dpAll_drop 1 (dpAll_same s3 hxs)
theorem el_range (k : Nat) (hk : k ≤ 1000) : El K (tTupRg (tRg1 (tC (.int (k : Nat))))) σ H (.tuple ((List.range k).map fun i => .int (i : Nat))) := fun H1 s Q q => by
  refine ⟨(k : Nat), rfl, RgOk.of_le (Int.le_refl 0) (by omega) (by decide) (by omega), fun p np => q _ _ (same_new np) (.tup (SqT.of upd_same) ?_)⟩
  have e : rgV 0 (k : Nat) = (((List.range k).map fun i => ((i : Nat) : Int)).map V.int) := by
    unfold rgV
    have e1 : (((k : Nat) : Int) - 0).toNat = k := by omega
    rw [e1, List.map_map]
    congr 1
    funext i
    show V.int (0 + (i : Int)) = V.int (i : Nat)
    rw [Int.zero_add]
  have e2 : ((List.range k).map fun i => PyData.int (i : Nat)) = ((List.range k).map fun i => ((i : Nat) : Int)).map PyData.int := by rw [List.map_map]; rfl
  rw [e, e2]
  exact dpAll_ints _
end
end Qk

set_option Elab.async false
set_option linter.all false
set_option maxRecDepth 100000
set_option maxHeartbeats 4000000
namespace Qk
open PySem PySem.Spec PyProof.Rows L2
/-! ### bad words, bad rows -/
def BadW (d : PyData) : Prop := wordD d 3 = false ∧ Shows d
def BadR (d : PyData) : Prop := rowOk d = false ∧ Shows d
def spBadWord (K : PySem.W.Frag) : Sp := fun vs H Q _ => ∃ (n : Pn), vs = [.ref n.p, .int 3] ∧ PenOk n H ∧ ∀ (v : V) (d : PyData) H', BadW d → Pen n H H' → Vd K H' v d → Q v H'
def spBadRows (K : PySem.W.Frag) : Sp := fun vs H Q _ => ∃ (u v : V) (ls : List (List Int)) (ms : List Int), vs = [u, v] ∧ Dp K H v (rowD ls ms) ∧ GoodRow ls ms ∧
  ∀ (a : Addr) (xs : List V) H', Same H H' → H' a = some (.lst xs) → VdL K BadR H' xs → 0 < xs.length → xs.length ≤ 100 → Q (.ref a) H'
theorem badW_of {d : PyData} (h : wordD d 3 = false) (h1 : sm d = true) (h2 : d.bulk ≤ 1000) (h3 : d.depth ≤ 60) : BadW d := ⟨h, Fit.shows ⟨h1, h2, h3⟩ (Nat.le_refl _) (Nat.le_refl _)⟩
theorem badR_of {d : PyData} (h : rowOk d = false) (h1 : sm d = true) (h2 : d.bulk ≤ 1000) (h3 : d.depth ≤ 60) : BadR d := ⟨h, Fit.shows ⟨h1, h2, h3⟩ (Nat.le_refl _) (Nat.le_refl _)⟩
section
variable {L M : List PyData}
theorem rowOk_two : rowOk (.tuple [.tuple L, .tuple M]) = ((decide (L.length ≤ 61) && decide (M.length ≤ 61)) && (L.all lotOk && isRowB (L.map fun x => intsD (itemsD x)) M 3)) := by
  show (true && (true && (((true && decide (L.length ≤ 61)) && ((true && decide (M.length ≤ 61)) && true)) && (L.all lotOk && isRowB (L.map fun x => intsD (itemsD x)) M 3)))) = _
  simp only [Bool.true_and, Bool.and_true]
theorem bad_fit {n m : Nat} (h : rowOk (.tuple [.tuple L, .tuple M]) = false) (hL : FitA L n 10) (hM : FitA M m 10) (hn : n ≤ 400) (hm : m ≤ 400) : BadR (.tuple [.tuple L, .tuple M]) := by
  refine ⟨h, Fit.shows (Fit.tup (FitA.cons (Fit.tup hL) (FitA.cons (Fit.tup hM) (FitA.nil (n := 0))))) (by omega) (by decide)⟩
theorem no_len (h : L.length ≠ M.length + 1) : rowOk (.tuple [.tuple L, .tuple M]) = false := by
  rw [rowOk_two]
  unfold isRowB
  rw [List.length_map, decide_eq_false h]
  simp
theorem no_lot {x : PyData} (hx : x ∈ L) (h : lotOk x = false) : rowOk (.tuple [.tuple L, .tuple M]) = false := by
  rw [rowOk_two]
  have e : L.all lotOk = false := by
    cases q : L.all lotOk with
    | false => rfl
    | true => rw [List.all_eq_true.mp q x hx] at h; cases h
  rw [e]
  simp
theorem no_lot2 {x : PyData} (hx : x ∈ L) (h : (((intsD (itemsD x)).all fun y => decide (0 ≤ y) && decide (y < 3)) && risingB (intsD (itemsD x))) = false) : rowOk (.tuple [.tuple L, .tuple M]) = false := by
  rw [rowOk_two]
  have e : isRowB (L.map fun x => intsD (itemsD x)) M 3 = false := by
    cases q : isRowB (L.map fun x => intsD (itemsD x)) M 3 with
    | false => rfl
    | true =>
      unfold isRowB at q
      rw [Bool.and_eq_true, Bool.and_eq_true] at q
      have := List.all_eq_true.mp q.1.2 _ (List.mem_map.mpr ⟨x, hx, rfl⟩)
      rw [this] at h
      cases h
  rw [e]
  simp
theorem no_mark {x : PyData} (hx : x ∈ M) (h : indexD x 3 = false) : rowOk (.tuple [.tuple L, .tuple M]) = false := by
  rw [rowOk_two]
  have e : isRowB (L.map fun x => intsD (itemsD x)) M 3 = false := by
    cases q : isRowB (L.map fun x => intsD (itemsD x)) M 3 with
    | false => rfl
    | true =>
      unfold isRowB at q
      rw [Bool.and_eq_true, Bool.and_eq_true, Bool.and_eq_true, Bool.and_eq_true] at q
      have := List.all_eq_true.mp q.1.1.1.1 x hx
      rw [this] at h
      cases h
  rw [e]
  simp
theorem no_apart {x : PyData} {y : Int} {L' : List PyData} {M' : List PyData} (h : y ∈ intsD (itemsD x)) : rowOk (.tuple [.tuple (x :: L'), .tuple (.int y :: M')]) = false := by
  rw [rowOk_two]
  have e : isRowB ((x :: L').map fun x => intsD (itemsD x)) (.int y :: M') 3 = false := by
    cases q : isRowB ((x :: L').map fun x => intsD (itemsD x)) (.int y :: M') 3 with
    | false => rfl
    | true =>
      unfold isRowB at q
      rw [Bool.and_eq_true] at q
      have z := List.all_eq_true.mp q.2 (intsD (itemsD x), y) List.mem_cons_self
      rw [decide_eq_true (show (intsD (itemsD x), y).2 ∈ (intsD (itemsD x), y).1 from h)] at z
      cases z
  rw [e]
  simp
end
section
variable {ls : List (List Int)} {ms : List Int}
theorem GoodRow.fitL (g : GoodRow ls ms) : FitA (ls.map lotT) 16 10 := (FitA.lots g.lots).mono (by have := g.few; omega) (by decide)
theorem GoodRow.fitLi (g : GoodRow ls ms) : FitA (ls.map lotT).dropLast 16 10 := by
  rw [← List.map_dropLast]
  exact (FitA.lots fun l hl => g.lots l (List.dropLast_subset _ hl)).mono (by rw [List.length_dropLast]; have := g.few; omega) (by decide)
theorem GoodRow.fitLt (g : GoodRow ls ms) : FitA (ls.map lotT).tail 16 10 := by
  rw [← List.map_tail]
  exact (FitA.lots fun l hl => g.lots l (List.mem_of_mem_tail hl)).mono (by rw [List.length_tail]; have := g.few; omega) (by decide)
theorem GoodRow.fitM (g : GoodRow ls ms) : FitA (ms.map PyData.int) 4 10 := (FitA.ints fun x hx => by have := g.marks x hx; omega).mono (by have := g.few; have := g.len; omega) (by decide)
theorem GoodRow.fitMt (g : GoodRow ls ms) : FitA (ms.map PyData.int).tail 4 10 := by
  rw [← List.map_tail]
  exact (FitA.ints fun x hx => by have := g.marks x (List.mem_of_mem_tail hx); omega).mono (by rw [List.length_tail]; have := g.few; have := g.len; omega) (by decide)
end
section
variable {K : PySem.W.Frag} {σ : Slots} {H : Hp} {p : PyData → Prop} {n : Nat} {ta tr : TA} {R : List V → Hp → Prop} {Q : VK}
theorem lst_run (els : ElsV K p n ta σ H) (hn : n ≤ 1000) (q : ∀ a xs H2, Same H H2 → H2 a = some (.lst xs) → H a = none → xs.length = n → VdL K p H2 xs → Q (.ref a) H2) : tLst ta σ H Q :=
  els H (Same.refl _) _ fun xs H2 s2 e hb => ⟨Nat.le_of_lt (small1000 (by rw [e]; exact hn)), fun a na => q a xs _ (same_trans s2 (same_new na)) upd_same (by
    cases eb : H a with
    | none => rfl
    | some o => rw [s2 _ _ eb] at na; cases na) e (hb.same (same_new na))⟩
theorem lst_cons (els : ElsV K p n ta σ H) (hn : n ≤ 1000) (q : ∀ a xs H2, Same H H2 → H2 a = some (.lst xs) → H a = none → xs.length = n → VdL K p H2 xs → tr σ H2 fun ys H3 => R (.ref a :: ys) H3) : tCons (tLst ta) tr σ H R := lst_run els hn q
theorem ext_run {i : Nat} {a : Addr} {xs : List V} (e : σ[i]? = some (some (.ref a))) (ha : H a = some (.lst xs)) (els : ElsV K p n ta σ H) (hx : xs.length + n ≤ 1000) (hb : VdL K p H xs) (hp : ∀ d, p d → sm d = true)
    (q : ∀ ys H', (∀ H0, H0 a = none → Same H0 H → Same H0 H') → H' a = some (.lst ys) → ys.length = xs.length + n → VdL K p H' ys → Q .non H') : tExtend (tVar i) (tLst ta) σ H Q := by
  refine ⟨_, e, a, xs, rfl, ha, ?_⟩
  refine lst_run els (by omega) fun b zs H2 s2 hb2 hne hn hz => ⟨b, xs, zs, rfl, s2 _ _ ha, hb2, Nat.le_of_lt (small1000 (by rw [hn]; exact hx)), ?_⟩
  refine q (xs ++ zs) _ (fun H0 n0 s0 => same_upd_new n0 (same_trans s0 s2)) upd_same (by rw [List.length_append, hn]) fun v hv => ?_
  obtain ⟨d, h1, h2⟩ := ((hb.same s2).app hz) v hv
  exact ⟨d, vd_updL (s2 _ _ ha) (hp d h2) h1, h2⟩
theorem seq_lst {i : Nat} {u : TS} {D : Ends} (els : ElsV K p n ta σ H) (hn : n ≤ 1000) (q : ∀ a xs H2, Same H H2 → H2 a = some (.lst xs) → H a = none → xs.length = n → VdL K p H2 xs → u D (σ.set i (some (.ref a))) H2) :
    tSeq (tAsg (tLst ta) (gName i)) u D σ H := by
  show tLst ta σ H (fun x H1 => u D (σ.set i (some x)) H1)
  exact lst_run els hn q
theorem seq_ext {i : Nat} {a : Addr} {xs : List V} {u : TS} {D : Ends} (e : σ[i]? = some (some (.ref a))) (ha : H a = some (.lst xs)) (els : ElsV K p n ta σ H) (hx : xs.length + n ≤ 1000) (hb : VdL K p H xs) (hp : ∀ d, p d → sm d = true)
    (q : ∀ ys H', (∀ H0, H0 a = none → Same H0 H → Same H0 H') → H' a = some (.lst ys) → ys.length = xs.length + n → VdL K p H' ys → u D σ H') : tSeq (tDrop (tExtend (tVar i) (tLst ta))) u D σ H := by
  show tExtend (tVar i) (tLst ta) σ H (fun _ H1 => u D σ H1)
  exact ext_run e ha els hx hb hp q
theorem drop_ext {i : Nat} {a : Addr} {xs : List V} {D : Ends} (e : σ[i]? = some (some (.ref a))) (ha : H a = some (.lst xs)) (els : ElsV K p n ta σ H) (hx : xs.length + n ≤ 1000) (hb : VdL K p H xs) (hp : ∀ d, p d → sm d = true)
    (q : ∀ ys H', (∀ H0, H0 a = none → Same H0 H → Same H0 H') → H' a = some (.lst ys) → ys.length = xs.length + n → VdL K p H' ys → D.nx σ H') : tDrop (tExtend (tVar i) (tLst ta)) D σ H := by
  show tExtend (tVar i) (tLst ta) σ H (fun _ H1 => D.nx σ H1)
  exact ext_run e ha els hx hb hp q
end
end Qk

set_option Elab.async false
set_option linter.all false
set_option maxRecDepth 100000
set_option maxHeartbeats 4000000
namespace Qk
open PySem PySem.Spec PyProof.Rows L2
/-! ### own exception classes, read off the written part -/
def oexcB (K : PySem.W.Frag) (C : Addr) : Bool := match K.lookup C with
  | some ⟨.type t, _, .cls cd, sl⟩ => (match cd.mro, sl.toList with
    | .ref C' :: bm, [_, _, _, _, some (.builtin n), _] => t == "type" && (C' == C && (n == "ValueError.__new__" && (!cd.hasDel && (cd.hasDict && PySem.HandSPX.refsVE bm))))
    | _, _ => false)
  | _ => false
theorem oexcB_ok {K : PySem.W.Frag} {C : Addr} (q : oexcB K C = true) : ∃ nm q N bs bm sn sub ab col dd k0 k1 k2 k3 k5, K.lookup C = some (excClassObj nm q C N bs bm true sn sub ab col dd k0 k1 k2 k3 k5 "ValueError.__new__") ∧ PySem.HandSPX.refsVE bm = true := by
  unfold oexcB at q
  split at q
  · rename_i t dd cd sl ho
    split at q
    · rename_i C' bm k0 k1 k2 k3 n k5 hm hs
      simp only [Bool.and_eq_true, beq_iff_eq, Bool.not_eq_true'] at q
      obtain ⟨rfl, rfl, rfl, hdel, hdi, ht⟩ := q
      obtain ⟨nm, bs, mro, ns, qn, hd, sn, sub, ab, col, del⟩ := cd
      dsimp only at hm hdel hdi
      subst hm hdel hdi
      have hsl : sl = #[k0, k1, k2, k3, some (.builtin "ValueError.__new__"), k5] := by
        obtain ⟨l⟩ := sl
        simp only at hs
        rw [hs]
      subst hsl
      exact ⟨nm, qn, ns, bs, bm, sn, sub, ab, col, dd, k0, k1, k2, k3, k5, ho, ht⟩
    · cases q
  · cases q
def eqv2 (a b : Option (Option Value)) : Bool := decide (a = b)
def exB (K : PySem.W.Frag) (x f1 f2 : Str) (names : List Str) : Bool :=
  oexcB K (He.ga K x) && decide (PySem.W.findIn K (.ref (He.ga K x)) "__setattr__" = some (some (.builtin "object.__setattr__"))) && decide (PySem.W.subIn K (.ref (He.ga K x)) (.type "BaseException") = some true) &&
  decide (PySem.W.typeIn K (.ref (He.ga K x)) = some (.type "type")) && PySem.W.keepIn K (.ref (He.ga K x)) &&
  decide (PySem.W.findIn K (.ref (He.ga K x)) "__getattribute__" = some (some (.builtin "BaseException.__getattribute__"))) && decide (PySem.W.findIn K (.ref (He.ga K x)) "__getattr__" = some none) && PySem.W.hasDictIn K (He.ga K x) &&
  decide (PySem.W.findIn K (.ref (He.ga K x)) "__class__" = some (some (.builtin "object.__class__"))) && decide (PySem.W.specialIn K (.builtin "object.__class__") "__get__" = some (some (.builtin "getset_descriptor.__get__"))) &&
  decide (PySem.W.takesIn K (.builtin "object.__class__") = some true) && decide (PySem.W.mroIn K (He.ga K x) (.type "object") = some true) &&
  decide (PySem.W.findIn K (.ref (He.ga K x)) f1 = some none) && decide (PySem.W.findIn K (.ref (He.ga K x)) f2 = some none) &&
  decide (PySem.W.findIn K (.ref (He.ga K x)) "__init__" = some (some (.ref (He.ma K (He.ga K x) "__init__")))) && decide (PySem.W.typeIn K (.ref (He.ma K (He.ga K x) "__init__")) = some (.type "function")) &&
  decide (PySem.W.kitOne K (.ref (He.ga K x)) (.type "ValueError") = some true) && decide (PySem.W.exmOne K (.ref (He.ga K x)) (.ref (He.ga K "KindsError")) = some true) &&
  names.all fun y => decide (PySem.W.kitOne K (.ref (He.ga K x)) (.ref (He.ga K y)) = some (decide (y = x)))
structure ExF (K : PySem.W.Frag) (x f1 f2 : Str) (names : List Str) : Prop where
  T : OexC K (He.ga K x)
  E : ExcC K (He.ga K x)
  n1 : PySem.W.findIn K (.ref (He.ga K x)) f1 = some none
  n2 : PySem.W.findIn K (.ref (He.ga K x)) f2 = some none
  it : PySem.W.findIn K (.ref (He.ga K x)) "__init__" = some (some (.ref (He.ma K (He.ga K x) "__init__")))
  ty : PySem.W.typeIn K (.ref (He.ma K (He.ga K x) "__init__")) = some (.type "function")
  ve : PySem.W.kitOne K (.ref (He.ga K x)) (.type "ValueError") = some true
  ke : PySem.W.exmOne K (.ref (He.ga K x)) (.ref (He.ga K "KindsError")) = some true
  tests : ∀ y ∈ names, PySem.W.kitOne K (.ref (He.ga K x)) (.ref (He.ga K y)) = some (decide (y = x))
theorem exB_ok {K : PySem.W.Frag} {x f1 f2 : Str} {names : List Str} (h : exB K x f1 f2 names = true) : ExF K x f1 f2 names := by
  unfold exB at h
  simp only [Bool.and_eq_true, decide_eq_true_eq, List.all_eq_true] at h
  obtain ⟨⟨⟨⟨⟨⟨⟨⟨⟨⟨⟨⟨⟨⟨⟨⟨⟨⟨h1, h2⟩, h3⟩, h4⟩, h5⟩, h6⟩, h7⟩, h8⟩, h9⟩, h10⟩, h11⟩, h12⟩, h13⟩, h14⟩, h15⟩, h16⟩, h17⟩, h18⟩, h19⟩ := h
  exact ⟨⟨oexcB_ok h1, h2, h3, h4, h5⟩, ⟨h6, h7, h3, h8, h9, h10, h11, h12⟩, h13, h14, h15, h16, h17, h18, h19⟩
/-- the init's def makes the error -/
theorem er2_of {P : Program} {w : World} {K : PySem.W.Frag} {mg : Str → Option Value} {base : Heap} {x f1 f2 : Str} {names N ps : List Str} {qual : Str} {params : Arguments} {body : List Stmt} {scope : Scope} {fd : FuncData} (F : ExF K x f1 f2 names) (g : mg x = some (.ref (He.ga K x)))
    (D : FunD K "__init__" qual params body scope [] [] (He.ma K (He.ga K x) "__init__") fd) (S : FnScope N ps scope) (hN : N.length = 3) (hps : ps.length = 3)
    (b : ∀ (kV doc pm : Value) (an : Option Addr) (cdv ct : Value) (us : List Value), us.length = ps.length → bindArgs (PySem.W.fnOf "__init__" qual params body scope .none kV doc pm an cdv ct) ⟨us, []⟩ = pure (ps.zip us))
    (hbody : ∀ (cdv : Value) (A : Around) (outer : List Env) (s : Shared) (H : Hp) (E : XK), PSs (cxOf L2.CX0 P w K mg base N qual scope (He.ma K (He.ga K x) "__init__") cdv A outer s H E) body (tSeq (tOst K f1 (tVar 0) (tVar 1)) (tOst K f2 (tVar 0) (tVar 2)))) :
    Er2 P w K mg base x (He.ga K x) f1 f2 :=
  ⟨F.T, g, F.n1, F.n2, _, fd, ps, F.it, F.ty, D.ok (k := 0) S (fun vs H Q E ⟨a, y, z, e, _⟩ => by rw [e, hps]; rfl) fun cdv A outer s H vs Q E hr h => ⟨_, hbody cdv A outer s H E, read_init2 hN h⟩, D.bindsN b⟩
/-! ### kinds of errors, told -/
def Bx (w : Bool) : Str := if w then "BadWord" else "BadRow"
def Fx (w : Bool) : Str := if w then "word" else "row"
def kindNames : List Str := ["BadNumber", "BadRow", "BadWord", "BadPattern", "BadMachine", "BadTable", "BadKind", "BadBook", "BadName", "BadText", "NoPlace", "NoName", "TakenName", "Unlike", "NotThere", "TooMany", "NotKept", "NothingToUndo", "NothingToRedo"]
structure ExK (K : PySem.W.Frag) (mg : Str → Option Value) : Prop where
  f : ∀ w, ExF K (Bx w) "what" (Fx w) kindNames
  g : ∀ y ∈ kindNames, mg y = some (.ref (He.ga K y))
  ke : mg "KindsError" = some (.ref (He.ga K "KindsError"))
theorem ExK.c {K : PySem.W.Frag} {mg : Str → Option Value} (h : ExK K mg) (y : Str) (hy : y ∈ kindNames := by decide +kernel) : ∃ u, mg y = some u ∧ RelV (.ref (He.ga K y)) u := ⟨_, h.g y hy, rfl⟩
/-- the handled exception is one of ours -/
structure Ours (K : PySem.W.Frag) (q : Addr × Obj) (w : Bool) (dd : Addr) : Prop where
  c : q.2.cls = .ref (He.ga K (Bx w))
  d : q.2.dict = some dd
  f : ∃ us, q.2.data = .fields us
def spMore (K : PySem.W.Frag) : SpE := fun q vs H Q => ∃ (w : Bool) (dd : Addr) (fs : List (Str × V)), vs = [.ref q.1] ∧ Ours K q w dd ∧ H dd = some (.xd fs) ∧ ∀ l H', Same H H' → H' l = some (.lst []) → Q (.ref l) H'
def spKinds (K : PySem.W.Frag) : SpE := fun q vs H Q => ∃ (w : Bool) (dd : Addr) (v : V) (dt : PyData) (what : Str), vs = [.ref q.1] ∧ Ours K q w dd ∧ H dd = some (.xd [(Fx w, v), ("what", .str what)]) ∧ Vd K H v dt ∧ Shows dt ∧
  ∀ l t H', Same H H' → H' l = some (.lst [.ref t]) → H' t = some (.tup [.str (Fx w), .str what, .str dt.shown]) → Q (.ref l) H'
/-- one question of the many -/
theorem is_at {K : PySem.W.Frag} {mg : Str → Option Value} {q : Addr × Obj} {w : Bool} {dd : Addr} {fs : List (Str × V)} {H : Hp} {Q : VK} (X : ExK K mg) (o : Ours K q w dd) (hd : H dd = some (.xd fs)) (y : Str) (hy : y ∈ kindNames) (z : Q (.bl (decide (y = Bx w))) H) :
    rIsX K q.1 q.2.cls q.2.dict [.ref q.1, .ref (He.ga K y)] H Q :=
  ⟨_, dd, fs, _, .ref (He.ga K y), _, o.c, o.d, (X.f w).E, rfl, fun u r => r, (X.f w).tests y hy, hd, z⟩
theorem takes_len {X : Cx} {W : WX} (t : Takes X W) : Takes X (fun cls d σ H => σ.length = X.N.length → W cls d σ H) := fun u s' ⟨a, B, sI, pins, σ, H, cls, d, e, I, nb, up, sky, na, os, ag, w⟩ =>
  t u s' ⟨a, B, sI, pins, σ, H, cls, d, e, I, nb, up, sky, na, os, ag, w I.len⟩
section
variable {K : PySem.W.Frag} {mg : Str → Option Value} {q : Addr × Obj} {w : Bool} {dd : Addr} {fs : List (Str × V)} {H : Hp} {σ : Slots} {t v u : TS} {D : Ends}
theorem if_is (X : ExK K mg) (o : Ours K q w dd) (hd : H dd = some (.xd fs)) (y : Str) (hs : σ[0]? = some (some (.ref q.1))) (h1 : y = Bx w → t D σ H) (h2 : y ≠ Bx w → v D σ H) (hy : y ∈ kindNames := by decide +kernel) :
    tIfS (tB (tCB (rIsX K q.1 q.2.cls q.2.dict) (tCons (tVar 0) (tCons (tC (.ref (He.ga K y))) tNil)))) t v D σ H := by
  suffices z : if decide (y = Bx w) = true then t D σ H else v D σ H from
    ⟨_, hs, is_at (Q := fun x H1 => ∃ c, x = .bl c ∧ if c = true then t D σ H1 else v D σ H1) X o hd y hy ⟨_, rfl, z⟩⟩
  by_cases e : y = Bx w
  · rw [decide_eq_true e]
    exact iteT (h1 e)
  · rw [decide_eq_false e]
    exact iteF (h2 e)
theorem seq_no (X : ExK K mg) (o : Ours K q w dd) (hd : H dd = some (.xd fs)) (y : Str) (hs : σ[0]? = some (some (.ref q.1))) (h1 : y ≠ Bx w) (h2 : u D σ H) (hy : y ∈ kindNames := by decide +kernel) :
    tSeq (tIfS (tB (tCB (rIsX K q.1 q.2.cls q.2.dict) (tCons (tVar 0) (tCons (tC (.ref (He.ga K y))) tNil)))) t tNext) u D σ H := by
  show tIfS _ t tNext { D with nx := fun σ' H' => u D σ' H' } σ H
  exact if_is X o hd y hs (fun e => absurd e h1) (fun _ => h2) hy
theorem seq_yes (X : ExK K mg) (o : Ours K q w dd) (hd : H dd = some (.xd fs)) (y : Str) (hs : σ[0]? = some (some (.ref q.1))) (h1 : y = Bx w) (h2 : t { D with nx := fun σ' H' => u D σ' H' } σ H) (hy : y ∈ kindNames := by decide +kernel) :
    tSeq (tIfS (tB (tCB (rIsX K q.1 q.2.cls q.2.dict) (tCons (tVar 0) (tCons (tC (.ref (He.ga K y))) tNil)))) t tNext) u D σ H := by
  show tIfS _ t tNext { D with nx := fun σ' H' => u D σ' H' } σ H
  exact if_is X o hd y hs (fun _ => h2) (fun e => absurd h1 e) hy
end
theorem bx_ne {w : Bool} {y : Str} (h : (decide (y = "BadRow") || decide (y = "BadWord")) = false := by decide +kernel) : y ≠ Bx w := fun e => by
  rw [Bool.or_eq_false_iff] at h
  have h1 := of_decide_eq_false h.1
  have h2 := of_decide_eq_false h.2
  cases w
  · exact h1 e
  · exact h2 e
theorem look_what {w : Bool} {v x : V} : ([(Fx w, v), ("what", x)] : List (Str × V)).lookup ("what" : Str) = some x := by cases w <;> rfl
theorem look_fx {w : Bool} {v x : V} : ([(Fx w, v), ("what", x)] : List (Str × V)).lookup (Fx w) = some v := by
  show (match Fx w == Fx w with | true => some v | false => _) = some v
  rw [beq_self_eq_true]
end Qk

set_option Elab.async false
set_option linter.all false
set_option maxRecDepth 100000
set_option maxHeartbeats 4000000
namespace Qk
open PySem PySem.Spec PyProof.Rows L2 LamX
/-! ### the fault of a call -/
def tsR (K : PySem.W.Frag) (a : Addr) (cls : Value) (d : Option Addr) (oe : Obj) : TS := tSeq (tAsg (fun σ H Q => tCons (tVar 2) tNil σ H fun vs H1 => spKinds K (a, oe) vs H1 Q) (gName 1))
  (tAsg (tIf (tAnd (tTest (tOp rEq (tCB (rLenK K) (tCons (tVar 1) tNil)) (tC (.int 1)))) (tB (tCB (rIsX K a cls d) (tCons (tVar 2) (tCons (tC (.ty "ValueError")) tNil))))) (tOp (rIxL K) (tVar 1) (tC (.int 0)))
    (tTup (tCons (tC (.str "several")) (tCons (tCB (rLenK K) (tCons (tVar 1) tNil)) tNil)))) (gName 1))
def tsF (K : PySem.W.Frag) (a : Addr) (cls : Value) (d : Option Addr) : TS := fun D σ H => ∀ oe : Obj, Zc cls d oe → (∃ vs, oe.data = .fields vs) → tsR K a cls d oe D σ H
theorem ps_tsF {X : Cx} {K : PySem.W.Frag} {body : List Stmt} {a : Addr} {cls : Value} {d : Option Addr} {oe : Obj} (h : PSs X body (tsR K a cls d oe)) (hz : Zc cls d oe) (hf : ∃ vs, oe.data = .fields vs) : PSs X body (tsF K a cls d) :=
  ⟨fun pins s σ H D I hh => h.run pins s σ H D I (hh oe hz hf)⟩
def tbF (f c' : Addr) (q : Str) (tl : XK → Hp → VK → Prop) : WX → TS := fun W D σ H => ∃ Ech : XK, (∀ cls d σ' H', Ech cls d H' → σ'.length = 3 → W cls d σ' H') ∧ σ[0]? = some (some (.ref f)) ∧ H c' = some (CodeO c' q) ∧ tl Ech H fun _ H1 => D.nx σ H1
/-- a fault of ours goes on to Q, told; no fault: None -/
def EcF (K : PySem.W.Frag) (Q : VK) : XK := fun cls d H => ∃ (w : Bool) (dd : Addr) (v : V) (dt : PyData) (what : Str), cls = .ref (He.ga K (Bx w)) ∧ d = some dd ∧ H dd = some (.xd [(Fx w, v), ("what", .str what)]) ∧ Vd K H v dt ∧ Shows dt ∧
  ∀ t H', Same H H' → H' t = some (.tup [.str (Fx w), .str what, .str dt.shown]) → Q (.ref t) H'
def TTf (K : PySem.W.Frag) : (XK → Hp → VK → Prop) → Hp → VK → Prop := fun tl H Q => tl (EcF K Q) H fun _ H1 => ∃ v, (some (some V.non) : Option (Option V)) = some (some v) ∧ Q v H1
theorem rM {k : Nat} {A : Around} {h : Option Value} (r : L2H.RoomH k A) : L2H.RoomH k (A.mark h) := ⟨r.dp, r.un⟩
theorem read_fault {K : PySem.W.Frag} {mg : Str → Option Value} {Q : VK} {D : Ends} (EK : ExK K mg) (hD : ∀ (x y : Option V) (v : V) H, Q v H → D.nx [x, some v, y] H) :
    ∀ cls d (σ' : Slots) H', EcF K Q cls d H' → σ'.length = 3 → wAs K (.ref (He.ga K "KindsError")) 2 (tsF K) (fun _ _ _ _ => False) D cls d σ' H' := by
  intro cls d σ' H' h hl
  obtain ⟨w, dd, v, dt, what, rfl, rfl, hd, hv, sh, q⟩ := h
  match σ', hl with
  | [x0, x1, x2], _ =>
    refine ⟨true, (EK.f w).ke, fun _ a na oe hz hf => ?_, fun z => by cases z⟩
    refine ⟨_, rfl, w, dd, v, dt, what, rfl, ⟨hz.1, hz.2, hf⟩, hd, hv, sh, fun l t H2 s2 hl2 ht2 => ?_⟩
    refine ⟨_, rfl, l, _, rfl, .inl (SqL.of hl2), rfl, _, rfl, iteT ⟨_, rfl, ?_⟩⟩
    refine ⟨_, dd, _, .ty "ValueError", .type "ValueError", true, rfl, rfl, (EK.f w).E, rfl, fun u r => r, (EK.f w).ve, s2 _ _ hd, _, rfl, iteT ?_⟩
    exact ⟨_, rfl, l, _, _, _, rfl, rfl, SqL.of hl2, rfl, hD _ _ _ _ (q t H2 s2 ht2)⟩
end Qk
namespace Qk
open PySem PySem.Spec PyProof.Rows L2 LamX
/-- the fault of a row and a word -/
def spTk (K : PySem.W.Frag) (T : List (Addr × Str)) : Sp := fun vs H Q _ => ∃ (v u : V) (d e : PyData) (w : Bool), vs = [v, u] ∧ Vd K H v d ∧ Vd K H u e ∧ (itemsD d).length ≤ 1000 ∧ (itemsD e).length ≤ 1000 ∧ Tabs T H ∧
  (w = false → rowOk d = false ∧ Shows d) ∧ (w = true → rowOk d = true ∧ wordD e 3 = false ∧ Shows e) ∧
  ∀ t H', ExtN H H' → Tabs T H' → H' t = some (.tup [.str (Fx w), .str (Fx w), .str (if w = true then e else d).shown]) → Q (.ref t) H'
/-- the table of a def's code object, by the def's name -/
def tabT (K : PySem.W.Frag) (x : Str) (q : Str) : List (Addr × Str) := [((He.cT K (x, none)).2, q)]
theorem extN_sqT {K : PySem.W.Frag} {H H' : Hp} {a : Addr} {xs : List V} (s : ExtN H H') (h : SqT K H a xs) : SqT K H' a xs := by
  rcases h with (h | ⟨o, h⟩) | h
  · exact .inl (.inl (s _ _ h (fun _ z => by cases z)))
  · exact .inl (.inr ⟨o, s _ _ h (fun _ z => by cases z)⟩)
  · exact .inr h
theorem extN_sqL {K : PySem.W.Frag} {H H' : Hp} {a : Addr} {xs : List V} (s : ExtN H H') (h : SqL K H a xs) : SqL K H' a xs := by
  rcases h with (h | ⟨o, h⟩) | h
  · exact .inl (.inl (s _ _ h (fun _ z => by cases z)))
  · exact .inl (.inr ⟨o, s _ _ h (fun _ z => by cases z)⟩)
  · exact .inr h
theorem extN_vd {K : PySem.W.Frag} {H H' : Hp} {v : V} {d : PyData} (s : ExtN H H') (h : Vd K H v d) : Vd K H' v d := by
  cases h with
  | dp h => exact .dp (dp_mono (fun _ _ => extN_sqL s) (fun _ _ => extN_sqT s) d v h)
  | d0 h => exact .d0 (s _ _ h (fun _ z => by cases z))
theorem extN_pen {n : Pn} {H H' : Hp} (s : ExtN H H') (h : PenOk n H) : PenOk n H' := by
  obtain ⟨a, d, ct, f, e, e2, r⟩ := h
  exact ⟨a, d, ct, f, s _ _ e (fun _ z => by cases z), s _ _ e2 (fun _ z => by cases z), r⟩
theorem extN_of {H H' : Hp} (s : Same H H') : ExtN H H' := fun b o e _ => s b o e
theorem tabs_same {T : List (Addr × Str)} {H H' : Hp} (s : Same H H') (h : Tabs T H) : Tabs T H' := h.ext fun b o e => s b o e
theorem tabS_but {p : Addr} {H H' : Hp} {P : Addr} {q : Str} (b : But p H H') (i : IsDk H p) (t : TabS H P q) : TabS H' P q := by
  obtain ⟨ps, h1, h2, h3⟩ := t
  obtain ⟨kvs, ep⟩ := i
  refine ⟨ps, b _ _ (fun z => by rw [z, ep] at h1; cases h1) h1, h2, fun pos cv hc => ?_⟩
  obtain ⟨c, e1, e2⟩ := h3 pos cv hc
  refine ⟨c, e1, b _ _ (fun z => ?_) e2⟩
  rw [z, ep] at e2
  have e3 := Option.some.inj e2
  unfold CodeO at e3
  cases e3
theorem tabs_pen {n : Pn} {T : List (Addr × Str)} {H H' : Hp} (h : Pen n H H') (o : PenOk n H) (t : Tabs T H) : Tabs T H' := fun p hp => tabS_but h.but o.dk (t p hp)
/-- a law's turn: the pen stands, the tables too -/
def spTurn (T : List (Addr × Str)) : Sp := fun vs H Q _ => ∃ (n : Pn), vs = [.ref n.p] ∧ PenOk n H ∧ Tabs T H ∧ ∀ H', PenOk n H' → Tabs T H' → Q (.bl true) H'
end Qk

set_option Elab.async false
set_option linter.all false
set_option maxRecDepth 100000
set_option maxHeartbeats 4000000
namespace Qk
open PySem PySem.Spec PyProof.Rows L2 LamX
/-! ### good rows as data -/
def lotL (l : List Int) : PyData := .list (l.map .int)
def rowL (ls : List (List Int)) (ms : List Int) : PyData := .list [.list (ls.map lotL), .list (ms.map .int)]
theorem all_integer (l : List Int) : (l.map PyData.int).all integerD = true := by
  rw [List.all_eq_true]
  intro x hx
  obtain ⟨i, _, rfl⟩ := List.mem_map.mp hx
  rfl
theorem rowOk_D {ls : List (List Int)} {ms : List Int} (g : GoodRow ls ms) : rowOk (rowD ls ms) = true := by
  show rowOk (.tuple [.tuple (ls.map lotT), .tuple (ms.map .int)]) = true
  rw [rowOk_two, List.length_map, List.length_map, decide_eq_true (show ls.length ≤ 61 by have := g.few; omega), decide_eq_true (show ms.length ≤ 61 by have := g.few; have := g.len; omega)]
  have e1 : (ls.map lotT).all lotOk = true := by
    rw [List.all_eq_true]
    intro x hx
    obtain ⟨l, hl, rfl⟩ := List.mem_map.mp hx
    show (true && (decide ((l.map PyData.int).length ≤ 3) && (l.map PyData.int).all integerD)) = true
    rw [List.length_map, decide_eq_true (g.lots l hl).2.2, all_integer]
    rfl
  have e2 : (ls.map lotT).map (fun x => intsD (itemsD x)) = ls := by
    rw [List.map_map]
    conv => rhs; rw [← List.map_id ls]
    exact List.map_congr_left fun l _ => intsD_map l
  rw [e1, e2, g.isRow]
  rfl
theorem lots_D (ls : List (List Int)) (ms : List Int) : lotsD (partD (rowD ls ms) 0) = ls := by
  show (ls.map lotT).map (fun x => intsD (itemsD x)) = ls
  rw [List.map_map]
  conv => rhs; rw [← List.map_id ls]
  exact List.map_congr_left fun l _ => intsD_map l
theorem marks_D (ls : List (List Int)) (ms : List Int) : intsD (itemsD (partD (rowD ls ms) 1)) = ms := intsD_map ms
theorem lots_L (ls : List (List Int)) (ms : List Int) : lotsD (partD (rowL ls ms) 0) = ls := by
  show (ls.map lotL).map (fun x => intsD (itemsD x)) = ls
  rw [List.map_map]
  conv => rhs; rw [← List.map_id ls]
  exact List.map_congr_left fun l _ => intsD_map l
theorem marks_L (ls : List (List Int)) (ms : List Int) : intsD (itemsD (partD (rowL ls ms) 1)) = ms := intsD_map ms
theorem rowOk_L {ls : List (List Int)} {ms : List Int} (g : GoodRow ls ms) : rowOk (rowL ls ms) = true := by
  have e1 : (ls.map lotL).all lotOk = true := by
    rw [List.all_eq_true]
    intro x hx
    obtain ⟨l, hl, rfl⟩ := List.mem_map.mp hx
    show (true && (decide ((l.map PyData.int).length ≤ 3) && (l.map PyData.int).all integerD)) = true
    rw [List.length_map, decide_eq_true (g.lots l hl).2.2, all_integer]
    rfl
  have e2 := lots_L ls ms
  show (true && (true && (((true && decide ((ls.map lotL).length ≤ 61)) && ((true && decide ((ms.map PyData.int).length ≤ 61)) && true)) && ((ls.map lotL).all lotOk && isRowB (lotsD (partD (rowL ls ms) 0)) (ms.map .int) 3)))) = true
  rw [e1, e2, g.isRow, List.length_map, List.length_map, decide_eq_true (show ls.length ≤ 61 by have := g.few; omega), decide_eq_true (show ms.length ≤ 61 by have := g.few; have := g.len; omega)]
  rfl
/-- a word of small ints -/
def WordGood (ws : List Int) : Prop := (∀ x ∈ ws, 0 ≤ x ∧ x < 3) ∧ ws.length ≤ 100
theorem all_index {ws : List Int} (h : ∀ x ∈ ws, 0 ≤ x ∧ x < 3) : ((ws.map PyData.int).all fun x => indexD x 3) = true := by
  rw [List.all_eq_true]
  intro x hx
  obtain ⟨i, hi, rfl⟩ := List.mem_map.mp hx
  show (decide (0 ≤ i) && decide (i < 3)) = true
  rw [decide_eq_true (h i hi).1, decide_eq_true (h i hi).2]
  rfl
theorem wordD_T {ws : List Int} (h : WordGood ws) : wordD (.tuple (ws.map .int)) 3 = true := by
  show ((true && ((ws.map PyData.int).all fun x => indexD x 3)) && decide ((ws.map PyData.int).length ≤ 400)) = true
  rw [all_index h.1, List.length_map, decide_eq_true (show ws.length ≤ 400 by have := h.2; omega)]
  rfl
theorem wordD_L {ws : List Int} (h : WordGood ws) : wordD (.list (ws.map .int)) 3 = true := by
  show ((true && ((ws.map PyData.int).all fun x => indexD x 3)) && decide ((ws.map PyData.int).length ≤ 400)) = true
  rw [all_index h.1, List.length_map, decide_eq_true (show ws.length ≤ 400 by have := h.2; omega)]
  rfl
/-- the words that are tried -/
def WordsAt (K : PySem.W.Frag) (H : Hp) (xs : List V) : Prop := ∀ x ∈ xs, ∃ (b : Addr) (ws : List Int), x = .ref b ∧ SqT K H b (ws.map V.int) ∧ WordGood ws
theorem WordsAt.same {K : PySem.W.Frag} {H H' : Hp} {xs : List V} (h : WordsAt K H xs) (s : Same H H') : WordsAt K H' xs := fun x hx => let ⟨b, ws, e, h1, h2⟩ := h x hx; ⟨b, ws, e, sqT_same s h1, h2⟩
theorem told_eq (a : Str) (b : Str) (c : Str) {K : PySem.W.Frag} {H : Hp} {t p : Addr} {Q : VK} (h1 : H t = some (.tup [.str a, .str b, .str c])) (h2 : H p = some (.tup [.str a, .str b, .str c])) (q : Q (.bl true) H) : rEqP K (.ref t) (.ref p) H Q := by
  have pl : (PyData.tuple [.str a, .str b, .str c]).plain = true := by simp [PyData.plain, PyData.plainAll]
  refine ⟨.tuple [.str a, .str b, .str c], .tuple [.str a, .str b, .str c], .tup (SqT.of h1) (.cons (.str a) (.cons (.str b) (.cons (.str c) .nil))), .tup (SqT.of h2) (.cons (.str a) (.cons (.str b) (.cons (.str c) .nil))), pl, pl, by simp [PyData.depth, PyData.depthAll], ?_⟩
  rw [PySem.SeqAt.eqv_refl_plain _ pl]
  exact q
theorem seq_el {K : PySem.W.Frag} {te : TE} {σ : Slots} {H : Hp} {d : PyData} {i : Nat} {u : TS} {D : Ends} (e : El K te σ H d) (q : ∀ v H2, Same H H2 → Dp K H2 v d → u D (σ.set i (some v)) H2) : tSeq (tAsg te (gName i)) u D σ H := by
  show te σ H (fun x H1 => u D (σ.set i (some x)) H1)
  exact e H (Same.refl _) _ q
theorem cons_el {K : PySem.W.Frag} {te : TE} {σ : Slots} {H : Hp} {d : PyData} {R : List V → Hp → Prop} (e : El K te σ H d) (q : ∀ v H2, Same H H2 → Dp K H2 v d → R [v] H2) : tCons te tNil σ H R := e H (Same.refl _) _ q
end Qk

set_option Elab.async false
set_option linter.all false
set_option maxRecDepth 100000
set_option maxHeartbeats 4000000
namespace Qk
open PySem PySem.Spec PyProof.Rows L2 LamX
/-! ### the end: the law's call where nothing is being shown, one table -/
section
variable {P : Program} {w : World} {K : PySem.W.Frag} {mg mb : Str → Option Value} {fa a c T : Addr} {s₁ : Shared} {vs : List Value} {ns : List Int}
/-- the script, unless K tells it; the table -/
def H0 (K : PySem.W.Frag) (a T : Addr) (vs : List Value) (ns : List Int) : Hp := fun b => if b = T then some (.tbl #[]) else if b = a then (match K.lookup a with
  | some _ => none
  | none => some (.frz { cls := .type "list", data := .seq vs.toArray } (.lst (ns.map V.int)))) else none
theorem h0_tab : H0 K a T vs ns T = some (.tbl #[]) := if_pos rfl
theorem h0_cases {b : Addr} {u : HO} (h : H0 K a T vs ns b = some u) : (b = T ∧ u = .tbl #[]) ∨ (b ≠ T ∧ b = a ∧ K.lookup a = none ∧ u = .frz { cls := .type "list", data := .seq vs.toArray } (.lst (ns.map V.int))) := by
  unfold H0 at h
  by_cases h1 : b = T
  · rw [if_pos h1] at h
    exact .inl ⟨h1, (Option.some.inj h).symm⟩
  · rw [if_neg h1] at h
    by_cases h2 : b = a
    · rw [if_pos h2] at h
      cases e : K.lookup a with
      | some o => rw [e] at h; cases h
      | none => rw [e] at h; exact .inr ⟨h1, h2, rfl, (Option.some.inj h).symm⟩
    · rw [if_neg h2] at h; cases h
theorem h0_script {KX : K.In s₁.heap} (ha : s₁.heap.get? a = some { cls := .type "list", data := .seq vs.toArray }) (hi : IntsAre vs ns) (hl : ns.length ≤ sizeLine) (hne : a ≠ T) : SqL K (H0 K a T vs ns) a (ns.map V.int) := by
  cases e : K.lookup a with
  | some o =>
    have e2 := KX a o e
    rw [ha] at e2
    cases e2
    have rv := vals_ints hi
    exact .inr ⟨_, vs.toArray, _, e, rfl, rfl, rfl, by rw [List.size_toArray, hi.length]; exact hl, by simpa using rv⟩
  | none =>
    refine .inl (.inr ⟨{ cls := .type "list", data := .seq vs.toArray }, ?_⟩)
    unfold H0
    rw [if_neg hne, if_pos rfl, e]
theorem law_callG {k : Nat} {fd : FuncData} {x : Str} {sp : Sp} (KX : K.In s₁.heap) (hns : s₁.heap.Ns mainGlobals mg) (hb : s₁.heap.Ns builtinsNs mb) (hbb : ∀ x : Str, x ≠ "__name__" → mb x = bootBuiltins x) (hlim : s₁.heap.NoLimit) (hg : s₁.gens = #[])
    (hT : s₁.heap.get? T = some { cls := .none, data := .fields #[] }) (nT : K.lookup T = none) (C : PySem.W.CodeHd s₁.heap c T)
    (hbm : ∃ (bm : Addr) (ob : Obj), mg "__builtins__" = some (.ref bm) ∧ bm ≠ builtinsNs ∧ s₁.heap.get? bm = some ob ∧ ob.cls = .type "module" ∧ ob.dict = some builtinsNs ∧ ob.data = .plain)
    (ha : s₁.heap.get? a = some { cls := .type "list", data := .seq vs.toArray }) (hi : IntsAre vs ns) (hl : ns.length ≤ sizeLine) (hr : Room k callerA)
    (F : ∀ base : Heap, K.In base → base.Ns mainGlobals mg → TabB base mg c T → FnG P w K mg base k fa fd [x] sp) (hbind : ∀ (s : Shared) (u : Value), BindsTo s fd ⟨[u], []⟩ [(x, u)])
    (hsp : ∀ H : Hp, H T = some (.tbl #[]) → SqL K H a (ns.map V.int) → sp [.ref a] H (fun v _ => v = .bl true) fun _ _ _ => False) :
    codeAny (model P w) callerA (.call (.ref fa) ⟨[.ref a], []⟩) (fun r s' => r = .ok (.ret (.bool true)) ∧ OldK s₁.heap s'.heap ∧ s'.os = s₁.os ∧ AllBare s'.gens) s₁ := by
  have hne : a ≠ T := fun z => by
    rw [z, hT] at ha
    have z' : Data.fields #[] = Data.seq vs.toArray _ := congrArg Obj.data (Option.some.inj ha)
    cases z'
  have hS := h0_script (KX := KX) ha hi hl hne
  -- what H0 tells holds
  have hok : HOk P w (H0 K a T vs ns) s₁.heap := fun b u e => by
    rcases h0_cases e with ⟨rfl, rfl⟩ | ⟨_, rfl, _, rfl⟩
    · exact hT
    · exact ⟨ha, by rw [List.length_map]; exact hl, vs, _, vals_ints hi, ha⟩
  -- what H0 leaves out
  have out : ∀ {b : Addr} {o : Obj}, s₁.heap.get? b = some o → (∀ vs n, o.data ≠ .seq vs n) → o.data ≠ .fields #[] → H0 K a T vs ns b = none := fun {b o} e h1 h2 => by
    cases q : H0 K a T vs ns b with
    | none => rfl
    | some u =>
      rcases h0_cases q with ⟨rfl, _⟩ | ⟨_, rfl, _, _⟩
      · rw [hT] at e; cases e; exact (h2 rfl).elim
      · rw [ha] at e; cases e; exact (h1 _ _ rfl).elim
  have stay : ∀ {b : Addr} {o : Obj}, s₁.heap.get? b = some o → (∀ vs n, o.data ≠ .seq vs n) → o.data ≠ .fields #[] → (hidT s₁.heap (H0 K a T vs ns)).get? b = some o := fun e h1 h2 => hidT_get e (out e h1 h2)
  have nsB : ∀ {b : Addr} {m : Str → Option Value}, s₁.heap.Ns b m → (hidT s₁.heap (H0 K a T vs ns)).Ns b m := fun ⟨o, es, ep, e, d, r⟩ => ⟨o, es, ep, stay e (fun _ _ z => by rw [d] at z; cases z) (fun z => by rw [d] at z; cases z), d, r⟩
  have KB : K.In (hidT s₁.heap (H0 K a T vs ns)) := fun b o e => hidT_get (KX b o e) (by
    cases q : H0 K a T vs ns b with
    | none => rfl
    | some u =>
      rcases h0_cases q with ⟨rfl, _⟩ | ⟨_, rfl, n, _⟩
      · rw [nT] at e; cases e
      · rw [n] at e; cases e)
  have M : L2.Mod K mg (hidT s₁.heap (H0 K a T vs ns)) := ⟨KB, nsB hns, ⟨mb, nsB hb, hbb⟩, let ⟨mc, h1, h2⟩ := hlim; ⟨mc, nsB h1, h2⟩⟩
  have gT : mainGlobals ≠ T := fun z => by
    obtain ⟨o, es, ep, e, hd, _⟩ := hns
    rw [z, hT] at e
    cases e
    cases hd
  have TB : TabB (hidT s₁.heap (H0 K a T vs ns)) mg c T := by
    refine ⟨?_, ?_, gT⟩
    · obtain ⟨o, us, file, tf, flags, tg, inF, text, tt, e1, r1, r2, r3, r⟩ := C
      refine ⟨o, us, file, tf, flags, tg, inF, text, tt, stay e1 (fun _ _ z => by rw [r2] at z; cases z) (fun z => ?_), r1, r2, r3, r⟩
      rw [r2] at z
      cases z
      simp at r3
    · obtain ⟨bm, ob, b1, b2, b3, b4, b5, b6⟩ := hbm
      refine ⟨bm, ob, b1, b2, fun z => ?_, fun z => ?_, stay b3 (fun _ _ z => by rw [b6] at z; cases z) (fun z => by rw [b6] at z; cases z), b4, b5, b6⟩
      · obtain ⟨o, es, ep, e, hd, _⟩ := hns
        rw [z, e] at b3
        cases b3
        rw [hd] at b6
        cases b6
      · rw [z, hT] at b3
        cases b3
        cases b6
  have e0 : Env0 P w K mg (hidT s₁.heap (H0 K a T vs ns)) callerA [] s₁ (H0 K a T vs ns) := ⟨rfl, M, fun b o e => of_hidT e, Nat.le_of_eq (hidT_size _ _), trivial, fun b z => absurd (show b ∈ ([] : List Addr) from z) (by simp), hok, .of_eq hg⟩
  refine codeAny_mono ((F _ KB (nsB hns) TB).run callerA [] s₁ (H0 K a T vs ns) ⟨[.ref a], []⟩ [.ref a] [.ref a] _ _ rfl hr e0 (hbind s₁ (.ref a)) (.cons rfl .nil) (hsp _ h0_tab hS)) fun r s' h => ?_
  cases r with
  | error e =>
    obtain ⟨_, _, _, _, _, _, _, _, _, _, _, _, z⟩ := (show L2.CX P w [] (H0 K a T vs ns) s₁ (fun _ _ _ => False) e s' from h)
    exact z.elim
  | ok fl =>
    cases fl with
    | next => exact False.elim h
    | brk => exact False.elim h
    | cont => exact False.elim h
    | ret u =>
      obtain ⟨v, H', os, bare, un, hok', r', q⟩ := h
      have q' : v = .bl true := q
      subst q'
      obtain rfl : u = Value.bool true := r'
      have old : ∀ b o, b ≠ T → s₁.heap.get? b = some o → s'.heap.get? b = some o := fun b o nb e => by
        cases q : H0 K a T vs ns b with
        | none => exact un.keep b o e q (fun z => absurd (show b ∈ ([] : List Addr) from z) (by simp)) (by simp)
        | some u =>
          rcases h0_cases q with ⟨z, _⟩ | ⟨_, _, _, rfl⟩
          · exact absurd z nb
          · obtain ⟨e1, _⟩ := hok b _ q
            obtain ⟨e2, _⟩ := hok' b _ (un.frzs b _ _ q)
            rw [e] at e1; cases e1
            exact e2
      obtain ⟨more, hm⟩ := un.tbls T #[] h0_tab
      have hm' := hok' T _ hm
      refine ⟨rfl, ⟨fun b o e => ?_, fun b o e => ?_⟩, os, bare⟩
      · by_cases hb : b = T
        · subst hb
          rw [hT] at e
          cases e
          exact .inr (.inl ⟨(C.tab hT).isCodeTable, rfl, #[], more, rfl, by rw [Array.empty_append]; rw [Array.empty_append] at hm'; exact hm'⟩)
        · exact .inl (old b o hb e)
      · by_cases hb : b = T
        · subst hb
          exact ⟨_, hm'⟩
        · exact ⟨o, old b o hb e⟩
end
/-- what is known of the law's promise at the head's heap -/
structure LawG (l : PySem.W.OpenLaw) (w : World) (K : PySem.W.Frag) (k n : Nat) (x : Str) (mg : Str → Option Value) (fa : Addr) (h : Heap) : Prop where
  ex : ∃ (fd : FuncData) (c T : Addr) (sp : Sp), h.get? T = some { cls := .none, data := .fields #[] } ∧ K.lookup T = none ∧ PySem.W.CodeHd h c T ∧ (∀ (s : Shared) (u : Value), BindsTo s fd ⟨[u], []⟩ [(x, u)]) ∧
    (∀ (H : Hp) (a : Addr) (ns : List Int), ns.length ≤ n → H T = some (.tbl #[]) → SqL K H a (ns.map V.int) → sp [.ref a] H (fun v _ => v = .bl true) fun _ _ _ => False) ∧
    ∀ base : Heap, K.In base → base.Ns mainGlobals mg → TabB base mg c T → FnG l.prog w K mg base k fa fd [x] sp
theorem walk_ofG {l : PySem.W.OpenLaw} {n k : Nat} {q : Program} {loose : List Str} {XP : (Str → Option Value) → Heap → Prop} {YP : World → Heap → Prop} {d : DefRec} {x : Str} (hn : l.most = some n) (hn2 : n ≤ sizeLine) (hdf : d.params.defaults = []) (hr : Room k callerA)
    (F : ∀ (w : World) (mg : Str → Option Value) (fa : Addr) (h : Heap), YP w h → h.Ns mainGlobals mg → mg d.name = some (.ref fa) → ∃ K : PySem.W.Frag, K.In h ∧ LawG l w K k n x mg fa h) :
    PySem.W.WalkO q loose XP YP l.row.toRowW d [] (fun f vs => PySem.call f vs) := by
  refine Att.attach_callB hn hdf fun w s₀ s₁ mg mb fa o pm cd doc a vs ns G Y ho hd hcd hmg hobj hints hlen hbits hg => ?_
  obtain ⟨K, KX, ⟨fd, c, T, sp, hT, nT, C, hb, hsp, hF⟩⟩ := F w mg fa _ Y G.T.g hmg
  exact law_callG KX G.T.g G.T.b G.T.builtins G.T.nolimit hg hT nT C G.T.bmain hobj hints (Nat.le_trans hlen hn2) hr hF hb fun H hH hS => hsp H a ns hlen hH hS
theorem fnG_of {P : Program} {w : World} {K : PySem.W.Frag} {mg : Str → Option Value} {base : Heap} {x qual : Str} {f : Addr} {fd : FuncData} {N ps : List Str} {k : Nat} {params : Arguments} {body : List Stmt} {scope : Scope} {sp : Sp} (F : FunD K x qual params body scope [] [] f fd) (S : FnScope N ps scope)
    (len : ∀ vs H Q E, sp vs H Q E → vs.length = ps.length)
    (hbody : ∀ (cdv : Value) (A : Around) (outer : List Env) (s : Shared) (H : Hp) (vs : List V) (Q : VK) (E : XK), A.guards = some [] → Room k (A.deeper (envOfC qual scope s.heap.objs.size f cdv)) → sp vs H Q E →
      ∃ t, PSs (cxOf (L2.CX P w) P w K mg base N qual scope f cdv A outer s H E).nox body t ∧ t { nx := fun _ H' => Q .non H', rt := Q } (start N vs) H) : FnG P w K mg base (k + 1) f fd ps sp := by
  refine ⟨len, fun A outer s H args us vs Q E hG hr e0 hb r hsp => ?_⟩
  obtain ⟨oc, od, dV, kV, doc, pm, an, cdv, ct, osl, rfl, lk, hcd, _, _⟩ := F.ex
  refine LamX.run_ofS lk hcd S hr e0 hb r (len _ _ _ _ hsp) fun hr' => ?_
  obtain ⟨t, h1, h2⟩ := hbody cdv A outer s H vs Q E hG hr' hsp
  exact ⟨t, h1.nox, h2⟩
end Qk

set_option Elab.async false
set_option linter.all false
set_option maxRecDepth 100000
set_option maxHeartbeats 4000000
namespace K38
open PySem PySem.Spec PyProof.Rows L2 Qk
def top (i : Nat) : Stmt := PySem.Challenge.pw_sayingkinds_k38_whole_rows_and_words.main.body.getD i (.Pass ⟨0, 0, 0, 0⟩)
/-- what the names of the text stand for -/
structure Txt (K : PySem.W.Frag) (mg : Str → Option Value) : Prop where
  n_ValueError : mg "ValueError" = none
  n_all : mg "all" = none
  n_bool : mg "bool" = none
  n_enumerate : mg "enumerate" = none
  n_int : mg "int" = none
  n_isinstance : mg "isinstance" = none
  n_len : mg "len" = none
  n_list : mg "list" = none
  n_range : mg "range" = none
  n_repr : mg "repr" = none
  n_tuple : mg "tuple" = none
  n_zip : mg "zip" = none
  c_MOST_LONG : ∃ u, mg "MOST_LONG" = some u ∧ RelV (.int 400) u
  c_MOST_MARKS : ∃ u, mg "MOST_MARKS" = some u ∧ RelV (.int 60) u
def toldIndexesD (d : PyData) (m : Int) : Bool := tupD d && indexesD d m
def toldLotD (d : PyData) (m : Int) : Bool := tupD d && lotD d m
section
variable {P : Program} {w : World} {K : PySem.W.Frag} {mg : Str → Option Value} {base : Heap}
/-! ### plain values -/
theorem sc_is_list : FnScope ["value"] ["value"] (defScope (top 23)) := ⟨rfl, rfl, rfl, by decide +kernel, rfl, by decide +kernel, by decide +kernel⟩
theorem c_is_list (T : Txt K mg) (D : Df K mg "is_list" (defArgs (top 23)) (defBody (top 23)) (defScope (top 23))) : Cal P w K mg base 1 "is_list" (spD1 K listD) := by
  refine D.cal (ps := ["value"]) (fun _ _ _ _ _ _ us hl => match us, hl with | [_], _ => rfl) sc_is_list (fun vs H Q E ⟨v, d, e, _⟩ => by rw [e]; rfl) fun f cdv A outer s H vs Q E hr ⟨v, d, e, hv, q⟩ => ?_
  subst e
  refine ⟨_, (pss_one (ps_ret (pe_callB (k_isiT K) (by rfl) T.n_isinstance (by decide +kernel) (pa_cons (pv 0) (pa_cons (pe_tup (pa_cons (pe_bltn (v := .ty "list") (u := .type "list") (by rfl) T.n_list (by decide +kernel) rfl) (pa_cons (pe_bltn (v := .ty "tuple") (u := .type "tuple") (by rfl) T.n_tuple (by decide +kernel) rfl) pa_nil))) pa_nil))))), ?_⟩
  refine ⟨v, rfl, by show 2 ≤ sizeLine; decide, fun p np => ?_⟩
  exact ⟨v, p, _, _, _, _, rfl, upd_same, .cons (.ty _) (.cons (.ty _) .nil), tyx_vd (vd_same (same_new np) hv), kit_listD K d, q _ (same_new np)⟩
theorem sc_is_integer : FnScope ["value"] ["value"] (defScope (top 24)) := ⟨rfl, rfl, rfl, by decide +kernel, rfl, by decide +kernel, by decide +kernel⟩
theorem c_is_integer (T : Txt K mg) (D : Df K mg "is_integer" (defArgs (top 24)) (defBody (top 24)) (defScope (top 24))) : Cal P w K mg base 1 "is_integer" (spD1 K integerD) := by
  refine D.cal (ps := ["value"]) (fun _ _ _ _ _ _ us hl => match us, hl with | [_], _ => rfl) sc_is_integer (fun vs H Q E ⟨v, d, e, _⟩ => by rw [e]; rfl) fun f cdv A outer s H vs Q E hr ⟨v, d, e, hv, q⟩ => ?_
  subst e
  refine ⟨_, (pss_one (ps_ret (pe_and (pe_callB (k_isi K) (by rfl) T.n_isinstance (by decide +kernel) (pa_cons (pv 0) (pa_cons (pe_bltn (v := .ty "int") (u := .type "int") (by rfl) T.n_int (by decide +kernel) rfl) pa_nil))) (pe_one (pe_not (pe_callB (k_isi K) (by rfl) T.n_isinstance (by decide +kernel) (pa_cons (pv 0) (pa_cons (pe_bltn (v := .ty "bool") (u := .type "bool") (by rfl) T.n_bool (by decide +kernel) rfl) pa_nil)))))))), ?_⟩
  refine ⟨v, rfl, v, _, _, _, _, rfl, .ty _, tyx_vd hv, kit_intbD K d, _, rfl, ?_⟩
  have q' := q H (Same.refl H)
  unfold integerD at q'
  cases e : intbD d with
  | false =>
    rw [e] at q'
    exact iteF q'
  | true =>
    rw [e] at q'
    exact iteT ⟨v, rfl, v, _, _, _, _, rfl, .ty _, tyx_vd hv, kit_boolD K d, _, rfl, q'⟩
theorem sc_is_index : FnScope ["value", "many"] ["value", "many"] (defScope (top 25)) := ⟨rfl, rfl, rfl, by decide +kernel, rfl, by decide +kernel, by decide +kernel⟩
theorem c_is_index (T : Txt K mg) (c_is_integer : Cal P w K mg base 1 "is_integer" (spD1 K integerD)) (D : Df K mg "is_index" (defArgs (top 25)) (defBody (top 25)) (defScope (top 25))) : Cal P w K mg base 2 "is_index" (spD2 K indexD) := by
  refine D.cal (ps := ["value", "many"]) (fun _ _ _ _ _ _ us hl => match us, hl with | [_, _], _ => rfl) sc_is_index (fun vs H Q E ⟨v, d, m, e, _⟩ => by rw [e]; rfl) fun f cdv A outer s H vs Q E hr ⟨v, d, m, e, hv, q⟩ => ?_
  subst e
  refine ⟨_, (pss_one (ps_ret (pe_and (pe_k c_is_integer hr (by decide) (pa_cons (pv 0) pa_nil)) (pe_one (pe_chain op_le op_lt pe_int (pv 0) (pv 1)))))), ?_⟩
  refine ⟨v, rfl, v, d, rfl, hv, fun H1 s1 => ⟨_, rfl, ?_⟩⟩
  have q' := q H1 s1
  cases e : integerD d with
  | false =>
    refine iteF ?_
    have z : indexD d m = false := by
      cases d <;> first | rfl | cases e
    rw [z] at q'
    exact q'
  | true =>
    obtain ⟨i, rfl⟩ := (integerD_int d).mp e
    cases hv with
    | dp hv =>
      cases hv
      refine iteT ⟨.int i, rfl, 0, i, rfl, rfl, _, rfl, ?_⟩
      have q' : Q (.bl (decide (0 ≤ i) && decide (i < m))) H1 := q'
      by_cases h : 0 ≤ i
      · rw [decide_eq_true h] at q' ⊢
        exact iteT ⟨.int m, rfl, i, m, rfl, rfl, q'⟩
      · rw [decide_eq_false h] at q' ⊢
        exact iteF q'
theorem sc_is_indexes : FnScope ["value", "many", "one"] ["value", "many"] (defScope (top 26)) := ⟨rfl, rfl, rfl, by decide +kernel, rfl, by decide +kernel, by decide +kernel⟩
theorem c_is_indexes (T : Txt K mg) (c_is_list : Cal P w K mg base 1 "is_list" (spD1 K listD)) (c_is_index : Cal P w K mg base 2 "is_index" (spD2 K indexD)) (D : Df K mg "is_indexes" (defArgs (top 26)) (defBody (top 26)) (defScope (top 26))) : Cal P w K mg base 3 "is_indexes" (spD2s K indexesD) := by
  refine D.cal (ps := ["value", "many"]) (fun _ _ _ _ _ _ us hl => match us, hl with | [_, _], _ => rfl) sc_is_indexes (fun vs H Q E ⟨v, d, m, e, _⟩ => by rw [e]; rfl) fun f cdv A outer s H vs Q E hr ⟨v, d, m, e, hv, hz, q⟩ => ?_
  subst e
  refine ⟨_, (pss_one (ps_ret (pe_and (pe_k c_is_list hr (by decide) (pa_cons (pv 0) pa_nil)) (pe_one (pe_callB (k_all K rfl) (by rfl) T.n_all (by decide +kernel) (pa_cons (pe_lc (own := [("one", 2)]) rfl sc_is_indexes.nd (k_piseq K (pv 0)) (blkOk_by (N := ["value", "many", "one"]) (sc := defScope (top 26)) (by decide +kernel)) (fun _ _ _ _ _ => (pg_name (i := 2) sc_is_indexes.nd rfl (Or.inl rfl))) (fun _ _ _ _ _ => pts_nil) (fun _ _ _ _ _ => (pe_k c_is_index hr (by decide) (pa_cons (pv 2) (pa_cons (pv 1) pa_nil))))) pa_nil)))))), ?_⟩
  refine ⟨v, rfl, v, d, rfl, hv, fun H1 s1 => ⟨_, rfl, ?_⟩⟩
  cases l : listD d with
  | false =>
    have q' := q H1 s1
    unfold indexesD at q'
    rw [l] at q'
    exact iteF q'
  | true =>
    obtain ⟨a, xs, rfl, hx, hsq⟩ := vd_seq (vd_same s1 hv) l
    have hlen := dpAll_len hx
    refine iteT ?_
    have go : ∀ (J : It) (yl : Yl J xs.length (Same H1) (YOne xs)), ∀ D, H1 D = none → _ := fun J yl D nD =>
      lcg (D := D) (H1 := H1) (g := gName 2) (tt := tYes) (te := tK (spD2 K indexD) (tCons (tVar 2) (tCons (tVar 1) tNil))) (vs := [2]) (σ := [some (.ref a), some (.int m), none])
        (Qd := fun H' => rAll K [.ref D] H' Q) yl (by omega) (fun i acc => acc = ((itemsD d).take i).map fun x => V.bl (indexD x m)) (Same.refl _) rfl (fun H' o s => same_upd_new nD s)
        (fun i x acc H2 H3 T' N hi hrel hR hD hy cont _ => by
          obtain ⟨rfl, hxi⟩ := hy
          obtain ⟨dx, hdx, hvx⟩ := dpAll_get hx hxi
          refine ⟨rfl, x, rfl, .int m, rfl, x, dx, m, rfl, .dp (dp_same hR hvx), fun H4 s4 => cont _ _ (same_trans hR s4) (s4 _ _ hD) ?_⟩
          rw [hrel, take_snoc hdx, List.map_append]
          rfl)
        (fun H' acc hR hD hrel => by
          refine ⟨D, (itemsD d).map fun x => indexD x m, rfl, ?_, ?_⟩
          · rw [hrel, hlen, List.take_length] at hD
            rw [List.map_map]
            exact SqL.of hD
          · have q' := q H' (same_trans s1 hR)
            unfold indexesD at q'
            rw [l] at q'
            rw [List.all_map]
            exact q')
    rcases hsq with h | h
    · exact .inl ⟨_, rfl, a, rfl, ⟨xs, h⟩, go _ (yl_list fun H' s => sqL_same s h)⟩
    · exact .inr ⟨_, rfl, a, rfl, ⟨xs, h⟩, go _ (yl_tup fun H' s => sqT_same s h)⟩
theorem sc_is_told_indexes : FnScope ["value", "many"] ["value", "many"] (defScope (top 27)) := ⟨rfl, rfl, rfl, by decide +kernel, rfl, by decide +kernel, by decide +kernel⟩
theorem c_is_told_indexes (T : Txt K mg) (c_is_indexes : Cal P w K mg base 3 "is_indexes" (spD2s K indexesD)) (D : Df K mg "is_told_indexes" (defArgs (top 27)) (defBody (top 27)) (defScope (top 27))) : Cal P w K mg base 4 "is_told_indexes" (spD2s K toldIndexesD) := by
  refine D.cal (ps := ["value", "many"]) (fun _ _ _ _ _ _ us hl => match us, hl with | [_, _], _ => rfl) sc_is_told_indexes (fun vs H Q E ⟨v, d, m, e, _⟩ => by rw [e]; rfl) fun f cdv A outer s H vs Q E hr ⟨v, d, m, e, hv, hz, q⟩ => ?_
  subst e
  refine ⟨_, (pss_one (ps_ret (pe_and (pe_callB (k_isi K) (by rfl) T.n_isinstance (by decide +kernel) (pa_cons (pv 0) (pa_cons (pe_bltn (v := .ty "tuple") (u := .type "tuple") (by rfl) T.n_tuple (by decide +kernel) rfl) pa_nil))) (pe_one (pe_k c_is_indexes hr (by decide) (pa_cons (pv 0) (pa_cons (pv 1) pa_nil))))))), ?_⟩
  refine ⟨v, rfl, v, _, _, _, _, rfl, .ty _, tyx_vd hv, kit_tupD K d, _, rfl, ?_⟩
  cases e : tupD d with
  | false =>
    have q' := q H (Same.refl H)
    unfold toldIndexesD at q'
    rw [e] at q'
    exact iteF q'
  | true =>
    refine iteT ⟨v, rfl, .int m, rfl, v, d, m, rfl, hv, hz, fun H' s' => ?_⟩
    have q' := q H' s'
    unfold toldIndexesD at q'
    rw [e] at q'
    exact q'
theorem sc_is_lot : FnScope ["value", "many", "at"] ["value", "many"] (defScope (top 28)) := ⟨rfl, rfl, rfl, by decide +kernel, rfl, by decide +kernel, by decide +kernel⟩
theorem c_is_lot (T : Txt K mg) (c_is_indexes : Cal P w K mg base 3 "is_indexes" (spD2s K indexesD)) (D : Df K mg "is_lot" (defArgs (top 28)) (defBody (top 28)) (defScope (top 28))) : Cal P w K mg base 4 "is_lot" (spD2s K lotD) := by
  refine D.cal (ps := ["value", "many"]) (fun _ _ _ _ _ _ us hl => match us, hl with | [_, _], _ => rfl) sc_is_lot (fun vs H Q E ⟨v, d, m, e, _⟩ => by rw [e]; rfl) fun f cdv A outer s H vs Q E hr ⟨v, d, m, e, hv, hz, q⟩ => ?_
  subst e
  refine ⟨_, (pss_one (ps_ret (pe_and (pe_k c_is_indexes hr (by decide) (pa_cons (pv 0) (pa_cons (pv 1) pa_nil))) (pe_one (pe_callB (k_all K rfl) (by rfl) T.n_all (by decide +kernel) (pa_cons (pe_lc (own := [("at", 2)]) rfl sc_is_lot.nd (pi_range1 rfl T.n_range (pa_cons (pe_op op_sub (pe_callB (k_len K) (by rfl) T.n_len (by decide +kernel) (pa_cons (pv 0) pa_nil)) pe_int) pa_nil)) (blkOk_by (N := ["value", "many", "at"]) (sc := defScope (top 28)) (by decide +kernel)) (fun _ _ _ _ _ => (pg_name (i := 2) sc_is_lot.nd rfl (Or.inl rfl))) (fun _ _ _ _ _ => pts_nil) (fun _ _ _ _ _ => (pe_cmpR op_lt (pe_ix (k_ixseq K) (pv 0) (pv 2) (fun _ _ => rfl)) (pe_ix (k_ixseq K) (pv 0) (pe_op op_add (pv 2) pe_int) (fun _ _ => rfl)) (by first | exact nomark _ | rfl)))) pa_nil)))))), ?_⟩
  refine ⟨v, rfl, .int m, rfl, v, d, m, rfl, hv, hz, fun H1 s1 => ⟨_, rfl, ?_⟩⟩
  cases e : indexesD d m with
  | false =>
    have q' := q H1 s1
    unfold lotD at q'
    rw [e] at q'
    exact iteF q'
  | true =>
    obtain ⟨l, ns, hns, hb⟩ := indexes_ints e
    obtain ⟨a, xs, rfl, hx, hsq⟩ := vd_seq (vd_same s1 hv) l
    rw [hns] at hx hz
    have ex := ints_of hx
    subst ex
    rw [List.length_map] at hz
    refine iteT ⟨.ref a, rfl, a, _, rfl, hsq, _, _, rfl, rfl, _, rfl, ?_, ?_, fun D nD =>
      lcg (D := D) (H1 := H1) (yl_range (R := Same H1)) (by rw [List.length_map]; omega) (fun i acc => acc = (List.range i).map fun k => V.bl (decide (ns.getD k 0 < ns.getD (k + 1) 0))) (Same.refl _) rfl (fun H' o s => same_upd_new nD s) ?_ ?_⟩
    · rw [List.length_map]; omega
    · rw [List.length_map]; omega
    · intro i x acc H2 H3 T' N hi hrel hR hD ⟨eH, ex⟩ cont _
      subst eH ex
      rw [List.length_map] at hi
      have g : ∀ k : Nat, k < ns.length → atI (ns.map V.int) (k : Nat) = some (.int (ns.getD k 0)) := fun k hk => atI_nat (by rw [List.getElem?_map, List.getElem?_eq_getElem hk, List.getD_eq_getElem?_getD, List.getElem?_eq_getElem hk]; rfl)
      have g1 := g i (by omega)
      have g2 := g (i + 1) (by omega)
      have e1 : (0 : Int) + (i : Nat) = ((i : Nat) : Int) := by omega
      have e2 : (0 : Int) + (i : Nat) + 1 = ((i + 1 : Nat) : Int) := by omega
      have hsq' : SqL K H3 a (ns.map V.int) ∨ SqT K H3 a (ns.map V.int) := hsq.elim (fun h => .inl (sqL_same hR h)) (fun h => .inr (sqT_same hR h))
      have fin : T' (.bl (decide (ns.getD i 0 < ns.getD (i + 1) 0))) H3 := cont _ _ hR hD (by rw [hrel, List.range_succ, List.map_append]; rfl)
      rw [← e1] at g1
      rw [← e2] at g2
      rcases hsq' with h | h
      · exact ⟨rfl, .ref a, rfl, _, rfl, .inl ⟨a, _, _, _, rfl, rfl, h, g1, .ref a, rfl, _, rfl, _, _, rfl, rfl, .inl ⟨a, _, _, _, rfl, rfl, h, g2, _, _, rfl, rfl, fin⟩⟩⟩
      · exact ⟨rfl, .ref a, rfl, _, rfl, .inr (.inl ⟨a, _, _, _, rfl, rfl, h, g1, .ref a, rfl, _, rfl, _, _, rfl, rfl, .inr (.inl ⟨a, _, _, _, rfl, rfl, h, g2, _, _, rfl, rfl, fin⟩)⟩)⟩
    · intro H' acc hR hD hrel
      refine ⟨D, (List.range (ns.length - 1)).map fun k => decide (ns.getD k 0 < ns.getD (k + 1) 0), rfl, ?_, ?_⟩
      · rw [hrel] at hD
        rw [List.map_map]
        have en : (((ns.map V.int).length : Int) - 1).toNat = ns.length - 1 := by rw [List.length_map]; omega
        rw [en] at hD
        exact SqL.of hD
      · have q' := q H' (same_trans s1 hR)
        unfold lotD at q'
        rw [e, hns, intsD_map, rising_eq] at q'
        rw [List.all_map]
        exact q'
theorem sc_is_told_lot : FnScope ["value", "many"] ["value", "many"] (defScope (top 29)) := ⟨rfl, rfl, rfl, by decide +kernel, rfl, by decide +kernel, by decide +kernel⟩
theorem c_is_told_lot (T : Txt K mg) (c_is_lot : Cal P w K mg base 4 "is_lot" (spD2s K lotD)) (D : Df K mg "is_told_lot" (defArgs (top 29)) (defBody (top 29)) (defScope (top 29))) : Cal P w K mg base 5 "is_told_lot" (spD2s K toldLotD) := by
  refine D.cal (ps := ["value", "many"]) (fun _ _ _ _ _ _ us hl => match us, hl with | [_, _], _ => rfl) sc_is_told_lot (fun vs H Q E ⟨v, d, m, e, _⟩ => by rw [e]; rfl) fun f cdv A outer s H vs Q E hr ⟨v, d, m, e, hv, hz, q⟩ => ?_
  subst e
  refine ⟨_, (pss_one (ps_ret (pe_and (pe_callB (k_isi K) (by rfl) T.n_isinstance (by decide +kernel) (pa_cons (pv 0) (pa_cons (pe_bltn (v := .ty "tuple") (u := .type "tuple") (by rfl) T.n_tuple (by decide +kernel) rfl) pa_nil))) (pe_one (pe_k c_is_lot hr (by decide) (pa_cons (pv 0) (pa_cons (pv 1) pa_nil))))))), ?_⟩
  refine ⟨v, rfl, v, _, _, _, _, rfl, .ty _, tyx_vd hv, kit_tupD K d, _, rfl, ?_⟩
  cases e : tupD d with
  | false =>
    have q' := q H (Same.refl H)
    unfold toldLotD at q'
    rw [e] at q'
    exact iteF q'
  | true =>
    refine iteT ⟨v, rfl, .int m, rfl, v, d, m, rfl, hv, hz, fun H' s' => ?_⟩
    have q' := q H' s'
    unfold toldLotD at q'
    rw [e] at q'
    exact q'
theorem sc_is_word : FnScope ["value", "letters"] ["value", "letters"] (defScope (top 30)) := ⟨rfl, rfl, rfl, by decide +kernel, rfl, by decide +kernel, by decide +kernel⟩
theorem c_is_word (T : Txt K mg) (c_is_indexes : Cal P w K mg base 3 "is_indexes" (spD2s K indexesD)) (D : Df K mg "is_word" (defArgs (top 30)) (defBody (top 30)) (defScope (top 30))) : Cal P w K mg base 4 "is_word" (spD2s K wordD) := by
  refine D.cal (ps := ["value", "letters"]) (fun _ _ _ _ _ _ us hl => match us, hl with | [_, _], _ => rfl) sc_is_word (fun vs H Q E ⟨v, d, m, e, _⟩ => by rw [e]; rfl) fun f cdv A outer s H vs Q E hr ⟨v, d, m, e, hv, hz, q⟩ => ?_
  subst e
  refine ⟨_, (pss_one (ps_ret (pe_and (pe_k c_is_indexes hr (by decide) (pa_cons (pv 0) (pa_cons (pv 1) pa_nil))) (pe_one (pe_cmpR op_le (pe_callB (k_len K) (by rfl) T.n_len (by decide +kernel) (pa_cons (pv 0) pa_nil)) (C8.pe_gc rfl T.c_MOST_LONG) (by first | exact nomark _ | rfl)))))), ?_⟩
  refine ⟨v, rfl, .int m, rfl, v, d, m, rfl, hv, hz, fun H1 s1 => ⟨_, rfl, ?_⟩⟩
  have q' := q H1 s1
  unfold wordD at q'
  cases e : indexesD d m with
  | false =>
    rw [e] at q'
    exact iteF q'
  | true =>
    rw [e] at q'
    obtain ⟨l, _⟩ := indexes_ints e
    obtain ⟨a, xs, rfl, hx, hsq⟩ := vd_seq (vd_same s1 hv) l
    refine iteT ⟨.ref a, rfl, a, xs, rfl, hsq, _, _, rfl, rfl, ?_⟩
    rw [dpAll_len hx]
    rw [Bool.true_and] at q'
    have e2 : decide (((itemsD d).length : Int) ≤ 400) = decide ((itemsD d).length ≤ 400) := by
      rw [decide_eq_decide]; omega
    show Q (.bl (decide (((itemsD d).length : Int) ≤ 400))) H1
    rw [e2]
    exact q'
end
end K38

set_option Elab.async false
set_option linter.all false
set_option maxRecDepth 100000
set_option maxHeartbeats 4000000
namespace K38
open PySem PySem.Spec PyProof.Rows L2 Qk
section
variable {P : Program} {w : World} {K : PySem.W.Frag} {mg : Str → Option Value} {base : Heap}
/-! ### the pen -/
theorem sc_law_draw : FnScope ["pen", "many", "blend", "cell", "digit"] ["pen", "many"] (defScope (top 41)) := ⟨rfl, rfl, rfl, by decide +kernel, rfl, by decide +kernel, by decide +kernel⟩
theorem c_law_draw (T : Txt K mg) (D : Df K mg "_law_draw" (defArgs (top 41)) (defBody (top 41)) (defScope (top 41))) : Cal P w K mg base 1 "_law_draw" spDraw := by
  refine D.cal (ps := ["pen", "many"]) (fun _ _ _ _ _ _ us hl => match us, hl with | [_, _], _ => rfl) sc_law_draw (fun vs H Q E ⟨n, m, e, _⟩ => by rw [e]; rfl) fun f cdv A outer s H vs Q E hr ⟨n, m, e, hp, m0, m1, q⟩ => ?_
  subst e
  refine ⟨_, (pss_cons (ps_dput (hu_of hr) (pv 0) pe_str (pe_op op_add (pe_dget (hu_of hr) (pv 0) pe_str (fun _ _ => rfl)) pe_int) rfl)
    (C8.pss_cut (ps_if (PW.pt (pw_and (pt_cmpR op_eq (pe_dget (hu_of hr) (pv 0) pe_str (fun _ _ => rfl)) pe_int (by first | exact nomark _ | rfl)) (pw_and1 (pt_cmpR op_lt (pe_dget (hu_of hr) (pv 0) pe_str (fun _ _ => rfl)) (pe_callB (k_len K) (by rfl) T.n_len (by decide +kernel) (pa_cons (pe_dget (hu_of hr) (pv 0) pe_str (fun _ _ => rfl)) pa_nil)) (by first | exact nomark _ | rfl))))) (pss_cons (ps_set (i := 3) sc_law_draw.nd rfl (Or.inl rfl) (pe_ix (k_ixlist K) (pe_dget (hu_of hr) (pv 0) pe_str (fun _ _ => rfl)) (pe_dget (hu_of hr) (pv 0) pe_str (fun _ _ => rfl)) (fun _ _ => rfl)))
    (pss_cons (ps_dput (hu_of hr) (pv 0) pe_str (pe_op op_add (pe_dget (hu_of hr) (pv 0) pe_str (fun _ _ => rfl)) pe_int) rfl)
    (pss_one (ps_if (pt_cmpR op_ge (pv 3) (pe_op op_pow pe_int pe_int) (by first | exact nomark _ | rfl)) (pss_one (ps_dput (hu_of hr) (pv 0) pe_str (pe_op op_sub (pv 3) (pe_op op_pow pe_int pe_int)) rfl)) (pss_one (ps_dput (hu_of hr) (pv 0) pe_str (pe_op op_mod (pe_callTy call_int1 (by rfl) T.n_int (by decide +kernel) (pa_cons (pe_op op_add (pe_op op_mul (pe_dget (hu_of hr) (pv 0) pe_str (fun _ _ => rfl)) pe_int) (pv 3)) pa_nil)) pe_int) rfl)))))) pss_nil)
    (pss_cons (ps_if (pt_cmpR op_gt (pe_dget (hu_of hr) (pv 0) pe_str (fun _ _ => rfl)) pe_int (by first | exact nomark _ | rfl)) (pss_cons (ps_set (i := 4) sc_law_draw.nd rfl (Or.inl rfl) (pe_op op_mod (pe_callTy call_int1 (by rfl) T.n_int (by decide +kernel) (pa_cons (pe_dget (hu_of hr) (pv 0) pe_str (fun _ _ => rfl)) pa_nil)) (pv 1)))
    (pss_cons (ps_dput (hu_of hr) (pv 0) pe_str (pe_op op_fdiv (pe_dget (hu_of hr) (pv 0) pe_str (fun _ _ => rfl)) (pv 1)) rfl)
    (pss_one (ps_ret (pv 4))))) pss_nil)
    (pss_cons (ps_set (i := 2) sc_law_draw.nd rfl (Or.inl rfl) (pe_op op_mod (pe_callTy call_int1 (by rfl) T.n_int (by decide +kernel) (pa_cons (pe_op op_add (pe_op op_add (pe_op op_mul (pe_dget (hu_of hr) (pv 0) pe_str (fun _ _ => rfl)) pe_int) (pe_op op_mul (pe_dget (hu_of hr) (pv 0) pe_str (fun _ _ => rfl)) pe_int)) pe_int) pa_nil)) pe_int))
    (pss_cons (ps_set (i := 2) sc_law_draw.nd rfl (Or.inl rfl) (pe_op op_mod (pe_callTy call_int1 (by rfl) T.n_int (by decide +kernel) (pa_cons (pe_op op_add (pe_op op_add (pe_op op_mul (pv 2) (pv 2)) (pe_op op_mul pe_int (pv 2))) (pe_dget (hu_of hr) (pv 0) pe_str (fun _ _ => rfl))) pa_nil)) pe_int))
    (pss_cons (ps_dput (hu_of hr) (pv 0) pe_str (pe_op op_mod (pe_callTy call_int1 (by rfl) T.n_int (by decide +kernel) (pa_cons (pe_op op_add (pe_op op_mul (pv 2) pe_int) pe_int) pa_nil)) pe_int) rfl)
    (pss_one (ps_ret (pe_op op_mod (pe_callTy call_int1 (by rfl) T.n_int (by decide +kernel) (pa_cons (pe_op op_fdiv (pv 2) pe_int) pa_nil)) (pv 1)))))))))), ?_⟩
  obtain ⟨at_, dg, ct, fo, e, ec, r1, r2, r3, r4⟩ := hp
  have npc : n.c ≠ n.p := fun z => by rw [z, e] at ec; cases ec
  -- the count
  refine ⟨.ref n.p, rfl, n.p, _, rfl, pen_ct e, _, _, rfl, rfl, .ref n.p, rfl, n.p, _, rfl, put_ct e, ?_⟩
  have b1 : But n.p H (upd H n.p (.dK (penL n.c at_ dg (ct + 1) fo))) := But.put
  generalize hH1 : upd H n.p (.dK (penL n.c at_ dg (ct + 1) fo)) = H1 at b1
  have e1 : H1 n.p = some (.dK (penL n.c at_ dg (ct + 1) fo)) := by rw [← hH1]; exact upd_same
  have ec1 : H1 n.c = some (.lst (n.cells.map V.int)) := b1 _ _ npc ec
  -- behind the first if
  refine ⟨fun σ2 H2 => Pen n H H2 ∧ ∃ x, σ2 = [some (.ref n.p), some (.int m), none, x, none], ?_, ?_⟩
  · refine ⟨.ref n.p, rfl, n.p, _, rfl, pen_dg e1, rfl, _, rfl, ?_⟩
    by_cases h0 : dg = 0
    · rw [decide_eq_true (show V.int dg = V.int 0 by rw [h0])]
      refine iteT ⟨.ref n.p, rfl, n.p, _, rfl, pen_at e1, .ref n.p, rfl, n.p, _, rfl, pen_cells e1, n.c, _, rfl, .inl (SqL.of ec1), _, _, rfl, rfl, _, rfl, ?_⟩
      by_cases h2 : at_ < ((n.cells.map V.int).length : Int)
      · rw [decide_eq_true h2]
        rw [List.length_map] at h2
        have hlt : at_.toNat < n.cells.length := by omega
        have hg : atI (n.cells.map V.int) at_ = some (.int (n.cells[at_.toNat])) := by
          have z := atI_nat (xs := n.cells.map V.int) (j := at_.toNat) (v := .int (n.cells[at_.toNat])) (by rw [List.getElem?_map, List.getElem?_eq_getElem hlt]; rfl)
          rw [show ((at_.toNat : Nat) : Int) = at_ by omega] at z
          exact z
        refine iteT ⟨.ref n.p, rfl, n.p, _, rfl, pen_cells e1, .ref n.p, rfl, n.p, _, rfl, pen_at e1, n.c, _, _, _, rfl, rfl, SqL.of ec1, hg, ?_⟩
        refine ⟨.ref n.p, rfl, n.p, _, rfl, pen_at e1, _, _, rfl, rfl, .ref n.p, rfl, n.p, _, rfl, put_at e1, ?_⟩
        have b2 : But n.p H (upd H1 n.p (.dK (penL n.c (at_ + 1) dg (ct + 1) fo))) := b1.trans But.put
        generalize hH2 : upd H1 n.p (.dK (penL n.c (at_ + 1) dg (ct + 1) fo)) = H2 at b2
        have e2 : H2 n.p = some (.dK (penL n.c (at_ + 1) dg (ct + 1) fo)) := by rw [← hH2]; exact upd_same
        have ec2 : H2 n.c = some (.lst (n.cells.map V.int)) := b2 _ _ npc ec
        refine ⟨_, rfl, _, _, rfl, rfl, ⟨by decide, by decide, by decide⟩, _, _, rfl, rfl, _, rfl, ?_⟩
        have e10 : (10 : Int) ^ (18 : Int).toNat = 1000000000000000000 := by decide
        rw [e10]
        by_cases h3 : (1000000000000000000 : Int) ≤ n.cells[at_.toNat]
        · rw [decide_eq_true h3]
          refine iteT ⟨_, rfl, _, _, rfl, rfl, ⟨by decide, by decide, by decide⟩, _, _, rfl, rfl, .ref n.p, rfl, n.p, _, rfl, put_dg e2, ?_⟩
          refine ⟨⟨b2.trans But.put, _, _, _, _, upd_same, ?_, by omega, ?_, r3, r4⟩, _, rfl⟩
          · rw [upd_ne npc]; exact ec2
          · rw [e10]; omega
        · rw [decide_eq_false h3]
          refine iteF ⟨.ref n.p, rfl, n.p, _, rfl, pen_fo e2, _, _, rfl, rfl, .inr ⟨by decide, by decide⟩, _, rfl, _, _, rfl, rfl, .inl ⟨_, rfl, _, _, rfl, rfl, (show (0 : Int) < 2147483587 by decide), .ref n.p, rfl, n.p, _, rfl, put_fo e2, ?_⟩⟩
          refine ⟨⟨b2.trans But.put, _, _, _, _, upd_same, ?_, by omega, r2, Int.emod_nonneg _ (by decide), Int.lt_of_lt_of_le (Int.emod_lt_of_pos _ (by decide)) (by decide)⟩, _, rfl⟩
          rw [upd_ne npc]; exact ec2
      · rw [decide_eq_false h2]
        exact iteF ⟨⟨b1, _, _, _, _, e1, ec1, r1, r2, r3, r4⟩, none, rfl⟩
    · rw [decide_eq_false (show ¬ V.int dg = V.int 0 from fun z => h0 (V.int.inj z))]
      exact iteF ⟨⟨b1, _, _, _, _, e1, ec1, r1, r2, r3, r4⟩, none, rfl⟩
  · intro σ2 H2 ⟨hP, x, es⟩
    subst es
    clear e ec r1 r2 r3 r4 b1 hH1 e1 ec1
    obtain ⟨b2, at2, dg2, ct2, fo2, e2, ec2, r1, r2, r3, r4⟩ := hP
    refine ⟨.ref n.p, rfl, n.p, _, rfl, pen_dg e2, _, _, rfl, rfl, _, rfl, ?_⟩
    by_cases h0 : (0 : Int) < dg2
    · rw [decide_eq_true h0]
      refine iteT ⟨.ref n.p, rfl, n.p, _, rfl, pen_dg e2, .inl ⟨_, rfl, _, rfl, _, _, rfl, rfl, m0, ?_⟩⟩
      refine ⟨.ref n.p, rfl, n.p, _, rfl, pen_dg e2, _, rfl, _, _, rfl, rfl, ⟨m0, m1⟩, .ref n.p, rfl, n.p, _, rfl, put_dg e2, _, rfl, ?_⟩
      refine q _ _ (Int.emod_nonneg _ (by omega)) (Int.emod_lt_of_pos _ m0) ⟨b2.trans But.put, _, _, _, _, upd_same, ?_, r1, Int.ediv_nonneg r2 (by omega), r3, r4⟩
      rw [upd_ne npc]; exact ec2
    · rw [decide_eq_false h0]
      refine iteF ⟨.ref n.p, rfl, n.p, _, rfl, pen_fo e2, _, _, rfl, rfl, .inr ⟨by decide, by decide⟩, .ref n.p, rfl, n.p, _, rfl, pen_ct e2, _, _, rfl, rfl, .inr ⟨by decide, by decide⟩, _, _, rfl, rfl, _, _, rfl, rfl, .inl ⟨_, rfl, _, _, rfl, rfl, (show (0 : Int) < 2147483647 by decide), ?_⟩⟩
      dsimp only
      generalize hbl : (fo2 * 48271 + ct2 * 7919 + 13) % 2147483647 = bl
      have hb0 : 0 ≤ bl := by rw [← hbl]; exact Int.emod_nonneg _ (by decide)
      have hb1 : bl < 2147483647 := by rw [← hbl]; exact Int.emod_lt_of_pos _ (by decide)
      refine ⟨_, rfl, _, rfl, bl, bl, rfl, rfl, .inl ⟨by omega, by omega⟩, _, rfl, 31, bl, rfl, rfl, .inl ⟨by decide, by decide⟩, _, _, rfl, rfl, .ref n.p, rfl, n.p, _, rfl, pen_ct e2, _, _, rfl, rfl, .inl ⟨_, rfl, _, _, rfl, rfl, (show (0 : Int) < 2147483629 by decide), ?_⟩⟩
      dsimp only
      generalize hbm : (bl * bl + 31 * bl + ct2) % 2147483629 = bm
      have hc0 : 0 ≤ bm := by rw [← hbm]; exact Int.emod_nonneg _ (by decide)
      refine ⟨_, rfl, _, _, rfl, rfl, .inr ⟨by decide, by decide⟩, _, _, rfl, rfl, .inl ⟨_, rfl, _, _, rfl, rfl, (show (0 : Int) < 2147483647 by decide), .ref n.p, rfl, n.p, _, rfl, put_fo e2, ?_⟩⟩
      refine ⟨_, rfl, _, _, rfl, rfl, ⟨by decide, by decide⟩, .inl ⟨_, rfl, _, rfl, _, _, rfl, rfl, m0, ?_⟩⟩
      refine q _ _ (Int.emod_nonneg _ (by omega)) (Int.emod_lt_of_pos _ m0) ⟨b2.trans But.put, _, _, _, _, upd_same, ?_, r1, r2, Int.emod_nonneg _ (by decide), Int.lt_of_lt_of_le (Int.emod_lt_of_pos _ (by decide)) (by decide)⟩
      rw [upd_ne npc]; exact ec2
theorem sc_law_pick : FnScope ["pen", "some"] ["pen", "some"] (defScope (top 42)) := ⟨rfl, rfl, rfl, by decide +kernel, rfl, by decide +kernel, by decide +kernel⟩
theorem c_law_pick (T : Txt K mg) (c_law_draw : Cal P w K mg base 1 "_law_draw" spDraw) (D : Df K mg "_law_pick" (defArgs (top 42)) (defBody (top 42)) (defScope (top 42))) : Cal P w K mg base 2 "_law_pick" (spPick K) := by
  refine D.cal (ps := ["pen", "some"]) (fun _ _ _ _ _ _ us hl => match us, hl with | [_, _], _ => rfl) sc_law_pick (fun vs H Q E ⟨n, a, xs, e, _⟩ => by rw [e]; rfl) fun f cdv A outer s H vs Q E hr ⟨n, a, xs, e, hp, hs, l0, l1, q⟩ => ?_
  subst e
  refine ⟨_, (pss_one (ps_ret (pe_ix (k_ixseq K) (pv 1) (pe_k c_law_draw hr (by decide) (pa_cons (pv 0) (pa_cons (pe_callB (k_len K) (by rfl) T.n_len (by decide +kernel) (pa_cons (pv 1) pa_nil)) pa_nil))) (fun _ _ => rfl)))), ?_⟩
  refine ⟨.ref a, rfl, .ref n.p, rfl, .ref a, rfl, a, xs, rfl, hs, n, _, rfl, hp, by omega, by omega, fun r H' r0 r1 hP => ?_⟩
  have hlt : r.toNat < xs.length := by omega
  have hg : atI xs r = some xs[r.toNat] := by
    have z := atI_nat (xs := xs) (j := r.toNat) (v := xs[r.toNat]) (List.getElem?_eq_getElem hlt)
    rw [show ((r.toNat : Nat) : Int) = r by omega] at z
    exact z
  have fin := q _ _ H' (List.getElem?_eq_getElem hlt) hP
  rcases hs with h | h
  · exact .inl ⟨a, xs, _, _, rfl, rfl, hP.seqL hp h, hg, fin⟩
  · exact .inr (.inl ⟨a, xs, _, _, rfl, rfl, hP.seqT hp h, hg, fin⟩)
end
end K38

set_option Elab.async false
set_option linter.all false
set_option maxRecDepth 100000
set_option maxHeartbeats 4000000
namespace K38
open PySem PySem.Spec PyProof.Rows L2 Qk
section
variable {P : Program} {w : World} {K : PySem.W.Frag} {mg : Str → Option Value} {base : Heap}
theorem sc_law_pen : FnScope ["script", "fold", "cell"] ["script"] (defScope (top 40)) := ⟨rfl, rfl, rfl, by decide +kernel, rfl, by decide +kernel, by decide +kernel⟩
theorem c_law_pen (T : Txt K mg) (D : Df K mg "_law_pen" (defArgs (top 40)) (defBody (top 40)) (defScope (top 40))) : Cal P w K mg base 1 "_law_pen" (spPen K) := by
  refine D.cal (ps := ["script"]) (fun _ _ _ _ _ _ us hl => match us, hl with | [_], _ => rfl) sc_law_pen (fun vs H Q E ⟨a, ns, e, _⟩ => by rw [e]; rfl) fun f cdv A outer s H vs Q E hr ⟨a, ns, e, hS, q⟩ => ?_
  subst e
  refine ⟨_, (pss_cons (ps_set (i := 1) sc_law_pen.nd rfl (Or.inl rfl) pe_int)
    (pss_cons (ps_for PassesOwn.never rfl (k_pilist K (pv 0)) (pg_name (i := 2) sc_law_pen.nd rfl (Or.inl rfl)) (pss_one (ps_set (i := 1) sc_law_pen.nd rfl (Or.inl rfl) (pe_op op_mod (pe_callTy call_int1 (by rfl) T.n_int (by decide +kernel) (pa_cons (pe_op op_add (pe_op op_mul (pv 1) pe_int) (pv 2)) pa_nil)) pe_int))))
    (pss_one (ps_ret (pe_disp (pps_cons pe_str (pe_callTy (k_list K) (by rfl) T.n_list (by decide +kernel) (pa_cons (pv 0) pa_nil)) (pps_cons pe_str pe_int (pps_cons pe_str pe_int (pps_cons pe_str pe_int (pps_cons pe_str (pv 1) pps_nil))))) (by rfl) (by rfl) (fun z => by cases z) (by decide)))))), ?_⟩
  refine ⟨_, rfl, a, rfl, ⟨_, hS⟩, forg (yl_list (R := fun H' => H' = H) (fun H' e => by rw [e]; exact hS)) (fun i σ H' => H' = H ∧ ∃ (fo : Int) (x : Option V), σ = [some (.ref a), some (.int fo), x] ∧ 0 ≤ fo ∧ fo < 2147483648) ⟨rfl, 0, none, rfl, by omega, by omega⟩ (fun i σ H' h => h.1) ?_ ?_⟩
  · intro i x σ H2 H3 N hi ⟨eH, fo, x0, es, f0, f1⟩ ⟨e3, hx⟩ next
    subst e3 eH es
    obtain ⟨z, rfl⟩ : ∃ z, x = V.int z := by
      rw [List.getElem?_map] at hx
      cases e : ns[i]? with
      | none => rw [e] at hx; cases hx
      | some z => rw [e] at hx; exact ⟨z, (Option.some.inj hx).symm⟩
    refine ⟨_, rfl, _, _, rfl, rfl, .inr ⟨by decide, by decide⟩, _, rfl, _, _, rfl, rfl, .inl ⟨_, rfl, _, _, rfl, rfl, (show (0 : Int) < 1000000007 by decide), ?_⟩⟩
    exact next _ _ ⟨rfl, _, _, rfl, Int.emod_nonneg _ (by decide), Int.lt_trans (Int.emod_lt_of_pos _ (by decide)) (by decide)⟩
  · intro σ H' ⟨eH, fo, x, es, f0, f1⟩
    subst eH es
    refine fun p np => ⟨_, rfl, a, _, rfl, .inl (sqL_same (same_new np) hS), fun l nl => ⟨_, rfl, ?_⟩⟩
    have npl : p ≠ l := fun z => by rw [← z, upd_same] at nl; cases nl
    have nHl : H' l = none := by rw [upd_ne npl.symm] at nl; exact nl
    refine ⟨by rw [upd_ne npl]; exact upd_same, penL l 0 0 0 fo, rfl, (show 5 ≤ 15 by decide), ?_⟩
    refine q ⟨p, l, ns⟩ _ (fun b o e => ?_) ⟨0, 0, 0, fo, upd_same, ?_, by omega, by omega, f0, f1⟩
    · rw [upd_ne (ne_of_none e np), upd_ne (ne_of_none e nHl), upd_ne (ne_of_none e np)]
      exact e
    · show upd _ p _ l = _
      rw [upd_ne npl.symm]
      exact upd_same
theorem sc_law_says : FnScope ["told", "due"] ["told", "due"] (defScope (top 43)) := ⟨rfl, rfl, rfl, by decide +kernel, rfl, by decide +kernel, by decide +kernel⟩
theorem c_law_says (T : Txt K mg) (D : Df K mg "_law_says" (defArgs (top 43)) (defBody (top 43)) (defScope (top 43))) : Cal P w K mg base 1 "_law_says" spSays := by
  refine D.cal (ps := ["told", "due"]) (fun _ _ _ _ _ _ us hl => match us, hl with | [_, _], _ => rfl) sc_law_says (fun vs H Q E ⟨a, ns, e, _⟩ => by rw [e]; rfl) fun f cdv A outer s H vs Q E hr ⟨told, due, e, q⟩ => ?_
  subst e
  refine ⟨_, (pss_one (ps_ret (pe_ifExp (pt_val (pv 1)) (pe_cmpR op_is_bl (pv 0) pe_bl (by first | exact nomark _ | rfl)) (pe_cmpR op_is_bl (pv 0) pe_bl (by first | exact nomark _ | rfl))))), ?_⟩
  refine ⟨_, rfl, due, rfl, ?_⟩
  cases due with
  | true =>
    refine iteT ⟨_, rfl, told, true, rfl, rfl, ?_⟩
    have e : decide (told = true) = (told == true) := by cases told <;> rfl
    rw [e]
    exact q
  | false =>
    refine iteF ⟨_, rfl, told, false, rfl, rfl, ?_⟩
    have e : decide (told = false) = (told == false) := by cases told <;> rfl
    rw [e]
    exact q
theorem sc_law_word : FnScope ["pen", "letters", "most", "lap"] ["pen", "letters", "most"] (defScope (top 48)) := ⟨rfl, rfl, rfl, by decide +kernel, rfl, by decide +kernel, by decide +kernel⟩
theorem c_law_word (T : Txt K mg) (c_law_draw : Cal P w K mg base 1 "_law_draw" spDraw) (D : Df K mg "_law_word" (defArgs (top 48)) (defBody (top 48)) (defScope (top 48))) : Cal P w K mg base 2 "_law_word" (spDrawWord K) := by
  refine D.cal (ps := ["pen", "letters", "most"]) (fun _ _ _ _ _ _ us hl => match us, hl with | [_, _, _], _ => rfl) sc_law_word (fun vs H Q E ⟨n, m, most, e, _⟩ => by rw [e]; rfl) fun f cdv A outer s H vs Q E hr ⟨n, m, most, e, hp, m0, m1, o0, o1, q⟩ => ?_
  subst e
  refine ⟨_, (pss_one (ps_ret (pe_callTy (k_tuple K) (by rfl) T.n_tuple (by decide +kernel) (pa_cons (pe_lc (own := [("lap", 3)]) rfl sc_law_word.nd (pi_range1 rfl T.n_range (pa_cons (pe_k c_law_draw hr (by decide) (pa_cons (pv 0) (pa_cons (pe_op op_add (pv 2) pe_int) pa_nil))) pa_nil)) (blkOk_by (N := ["pen", "letters", "most", "lap"]) (sc := defScope (top 48)) (by decide +kernel)) (fun _ _ _ _ _ => (pg_name (i := 3) sc_law_word.nd rfl (Or.inl rfl))) (fun _ _ _ _ _ => pts_nil) (fun _ _ _ _ _ => (pe_k c_law_draw hr (by decide) (pa_cons (pv 0) (pa_cons (pv 1) pa_nil))))) pa_nil)))), ?_⟩
  refine ⟨_, rfl, _, rfl, _, _, rfl, rfl, n, _, rfl, hp, by omega, by omega, fun r H1 r0 r1 hP => ⟨r, rfl, by omega, by omega, fun D nD => ?_⟩⟩
  refine lcg (D := D) (H1 := H1) (yl_range (R := Pen n H1)) (by omega) (fun i acc => ∃ ws : List Int, acc = ws.map V.int ∧ ws.length = i ∧ ∀ x ∈ ws, 0 ≤ x ∧ x < m) (Pen.rfl' hP.ok) ⟨[], rfl, rfl, fun _ h => nomatch h⟩ (fun H' o h => h.put hP.ok nD) ?_ ?_
  · intro i x acc H2 H3 T' N hi ⟨ws, ea, ew, hw⟩ hR hD ⟨eH, ex⟩ cont _
    subst eH ex
    refine ⟨rfl, _, rfl, _, rfl, n, m, rfl, hR.ok, m0, by omega, fun r' H4 q0 q1 hP' => cont _ _ (hR.trans hP') (hP'.lst hR.ok hD) ⟨ws ++ [r'], ?_, ?_, ?_⟩⟩
    · rw [ea, List.map_append]; rfl
    · rw [List.length_append, ew]; rfl
    · exact forall_snoc hw ⟨q0, q1⟩
  · intro H' acc hR hD ⟨ws, ea, ew, hw⟩
    subst ea
    refine ⟨D, _, rfl, .inl ⟨SqL.of hD, fun t nt => ?_⟩⟩
    refine q ws t _ hw (by omega) ((hP.trans hR).same (same_new nt)) upd_same
end
end K38

set_option Elab.async false
set_option linter.all false
set_option maxRecDepth 100000
set_option maxHeartbeats 4000000
namespace K38
open PySem PySem.Spec PyProof.Rows L2 Qk
section
variable {P : Program} {w : World} {K : PySem.W.Frag} {mg : Str → Option Value} {base : Heap}
/-! ### rows -/
theorem sc_led_row : FnScope ["row", "place", "a", "lots", "marks"] ["row", "place", "a"] (defScope (top 35)) := ⟨rfl, rfl, rfl, by decide +kernel, rfl, by decide +kernel, by decide +kernel⟩
theorem c_led_row (T : Txt K mg) (D : Df K mg "led_row" (defArgs (top 35)) (defBody (top 35)) (defScope (top 35))) : Cal P w K mg base 1 "led_row" (spLed K) := by
  refine D.cal (ps := ["row", "place", "a"]) (fun _ _ _ _ _ _ us hl => match us, hl with | [_, _, _], _ => rfl) sc_led_row (fun vs H Q E ⟨v, ls, ms, p, a, e, _⟩ => by rw [e]; rfl) fun f cdv A outer s H vs Q E hr ⟨v, ls, ms, p, a, e, hd, hp, q⟩ => ?_
  subst e
  refine ⟨_, (pss_cons (ps_asg (pv 0) (k_pgtup K rfl (pgs_cons (pg_name (i := 3) sc_led_row.nd rfl (Or.inl rfl)) (pgs_cons (pg_name (i := 4) sc_led_row.nd rfl (Or.inl rfl)) pgs_nil))))
    (pss_cons (ps_if (pt_cmpR (k_in K) (pv 2) (pe_ix (k_ixtup K) (pv 3) (pv 1) (fun _ _ => rfl)) (by first | exact nomark _ | rfl)) (pss_one (ps_ret (pv 1))) pss_nil)
    (pss_one (ps_ret (pe_ifExp (PW.pt (pw_and (pt_cmpR op_lt (pv 1) (pe_callB (k_len K) (by rfl) T.n_len (by decide +kernel) (pa_cons (pv 4) pa_nil)) (by first | exact nomark _ | rfl)) (pw_and1 (pt_cmpR op_eq (pe_ix (k_ixtup K) (pv 4) (pv 1) (fun _ _ => rfl)) (pv 2) (by first | exact nomark _ | rfl))))) (pe_op op_add (pv 1) pe_int) pe_non))))), ?_⟩
  obtain ⟨r, l, m, rs, xs, rfl, h1, h2, h3, h4, h5⟩ := row_at hd
  have h6 := ints_of h5
  subst h6
  have hl := dpAll_len h3
  rw [List.length_map] at hl
  refine ⟨_, rfl, r, _, rfl, h1, rfl, _, _, rfl, _, _, rfl, rfl, ?_⟩
  obtain ⟨b, lot, eb, elot, hlot⟩ := lot_at h3 (List.getElem?_eq_getElem (show p < rs.length by omega))
  have gl : ls.getD p [] = lot := by rw [List.getD_eq_getElem?_getD, elot]; rfl
  have at1 : atI rs (p : Nat) = some (.ref b) := by rw [← eb]; exact atI_nat (List.getElem?_eq_getElem (show p < rs.length by omega))
  refine ⟨_, rfl, _, rfl, _, rfl, l, _, _, _, rfl, rfl, h2, at1, b, _, rfl, .inr hlot, rfl, flat_ints lot, _, rfl, ?_⟩
  show if inV (.int a) (lot.map V.int) = true then _ else _
  rw [inV_ints]
  unfold led at q
  rw [gl] at q
  by_cases ha : a ∈ lot
  · rw [if_pos ha] at q
    rw [decide_eq_true ha]
    exact iteT ⟨_, rfl, q⟩
  · rw [if_neg ha] at q
    rw [decide_eq_false ha]
    refine iteF ⟨_, rfl, _, rfl, m, _, rfl, .inr h4, _, _, rfl, rfl, _, rfl, ?_⟩
    by_cases hlt : p < ms.length
    · have hlt' : ((p : Nat) : Int) < ((ms.map V.int).length : Int) := by rw [List.length_map]; omega
      rw [decide_eq_true hlt']
      have gm : ms.getD p 0 = ms[p] := by rw [List.getD_eq_getElem?_getD, List.getElem?_eq_getElem hlt]; rfl
      have at2 : atI (ms.map V.int) (p : Nat) = some (.int ms[p]) := atI_nat (by rw [List.getElem?_map, List.getElem?_eq_getElem hlt]; rfl)
      refine iteT ⟨_, rfl, _, rfl, m, _, _, _, rfl, rfl, h4, at2, _, rfl, rfl, _, rfl, ?_⟩
      rw [gm] at q
      by_cases he : ms[p] = a
      · rw [if_pos ⟨hlt, he⟩] at q
        rw [decide_eq_true (show V.int ms[p] = V.int a by rw [he])]
        exact iteT ⟨_, rfl, _, _, rfl, rfl, q⟩
      · rw [if_neg (fun z => he z.2)] at q
        rw [decide_eq_false (show ¬ V.int ms[p] = V.int a from fun z => he (V.int.inj z))]
        exact iteF q
    · have hlt' : ¬ ((p : Nat) : Int) < ((ms.map V.int).length : Int) := by rw [List.length_map]; omega
      rw [decide_eq_false hlt']
      rw [if_neg (fun z => hlt z.1)] at q
      exact iteF (iteF q)
theorem sc_takes_row : FnScope ["row", "word", "place", "a"] ["row", "word"] (defScope (top 36)) := ⟨rfl, rfl, rfl, by decide +kernel, rfl, by decide +kernel, by decide +kernel⟩
theorem c_takes_row (T : Txt K mg) (c_led_row : Cal P w K mg base 1 "led_row" (spLed K)) (D : Df K mg "takes_row" (defArgs (top 36)) (defBody (top 36)) (defScope (top 36))) : Cal P w K mg base 2 "takes_row" (spTakes K) := by
  refine D.cal (ps := ["row", "word"]) (fun _ _ _ _ _ _ us hl => match us, hl with | [_, _], _ => rfl) sc_takes_row (fun vs H Q E ⟨v, b, ls, ms, ws, e, _⟩ => by rw [e]; rfl) fun f cdv A outer s H vs Q E hr ⟨v, b, ls, ms, ws, e, hd, hlen, hw, q⟩ => ?_
  subst e
  refine ⟨_, (pss_cons (ps_set (i := 2) sc_takes_row.nd rfl (Or.inl rfl) pe_int)
    (pss_cons (ps_for PassesOwn.never rfl (k_pitup K (pv 1)) (pg_name (i := 3) sc_takes_row.nd rfl (Or.inl rfl)) (pss_one (ps_set (i := 2) sc_takes_row.nd rfl (Or.inl rfl) (pe_ifExp (pt_cmpR op_notN (pv 2) pe_non (by first | exact nomark _ | rfl)) (pe_k c_led_row hr (by decide) (pa_cons (pv 0) (pa_cons (pv 2) (pa_cons (pv 3) pa_nil)))) pe_non))))
    (pss_one (ps_ret (pe_and (pe_cmpR op_notN (pv 2) pe_non (by first | exact nomark _ | rfl)) (pe_one (pe_cmpR op_eq (pv 2) (pe_callB (k_len K) (by rfl) T.n_len (by decide +kernel) (pa_cons (pe_ix (k_ixtup K) (pv 0) pe_int (fun _ _ => rfl)) pa_nil)) (by first | exact nomark _ | rfl)))))))), ?_⟩
  refine ⟨_, rfl, b, rfl, ⟨_, hw⟩, forg (yl_tup (R := fun H' => H' = H) (fun H' e => by rw [e]; exact hw)) (fun i σ H' => H' = H ∧ ∃ x, σ = [some v, some (.ref b), some (optV (ledAll ls ms (ws.take i))), x]) ⟨rfl, none, rfl⟩ (fun i σ H' h => h.1) ?_ ?_⟩
  · intro i x σ H2 H3 N hi ⟨eH, x0, es⟩ ⟨e3, hx⟩ next
    subst e3 eH es
    obtain ⟨z, hz, rfl⟩ : ∃ z, ws[i]? = some z ∧ x = V.int z := by
      rw [List.getElem?_map] at hx
      cases e : ws[i]? with
      | none => rw [e] at hx; cases hx
      | some z => rw [e] at hx; exact ⟨z, rfl, (Option.some.inj hx).symm⟩
    have nx : ∀ u, u = optV (ledAll ls ms (ws.take (i + 1))) → N [some v, some (.ref b), some u, some (.int z)] H3 := fun u eu => next _ _ ⟨rfl, some (.int z), by rw [eu]⟩
    have e1 : ledAll ls ms (ws.take (i + 1)) = (ledAll ls ms (ws.take i)).bind fun p => led ls ms p z := by rw [take_snoc hz, ledAll_snoc]
    refine ⟨_, rfl, rfl, _, rfl, ?_⟩
    cases e : ledAll ls ms (ws.take i) with
    | none =>
      rw [e] at e1
      exact iteF (nx _ (by rw [e1]; rfl))
    | some p =>
      rw [e] at e1
      have hp : p ≤ ms.length := ledAll_le (ws.take i) (Nat.zero_le _) e
      refine iteT ⟨_, rfl, _, rfl, _, rfl, v, ls, ms, p, z, rfl, hd, by omega, nx _ ?_⟩
      rw [e1]; rfl
  · intro σ H' ⟨eH, x, es⟩
    subst eH es
    rw [List.length_map, List.take_length]
    refine ⟨_, rfl, rfl, _, rfl, ?_⟩
    unfold takesB at q
    cases e : ledAll ls ms ws with
    | none =>
      rw [e] at q
      exact iteF q
    | some p =>
      rw [e] at q
      obtain ⟨r, l, m, rs, xs, rfl, h1, h2, h3, h4, h5⟩ := row_at hd
      have h6 := ints_of h5
      subst h6
      refine iteT ⟨_, rfl, _, rfl, r, _, _, _, rfl, rfl, h1, atI_nat (j := 1) rfl, m, _, rfl, .inr h4, rfl, ?_⟩
      have e2 : decide (V.int ((p : Nat) : Int) = V.int ((ms.map V.int).length : Int)) = decide (some p = some ms.length) := by
        rw [decide_eq_decide, List.length_map]
        constructor
        · intro z
          have z' := V.int.inj z
          rw [show p = ms.length by omega]
        · intro z
          rw [Option.some.inj z]
      show Q (.bl (decide (V.int ((p : Nat) : Int) = V.int ((ms.map V.int).length : Int)))) H'
      rw [e2]
      exact q
theorem sc_need_word : FnScope ["word", "letters", "what"] ["word", "letters", "what"] (defScope (top 31)) := ⟨rfl, rfl, rfl, by decide +kernel, rfl, by decide +kernel, by decide +kernel⟩
theorem c_need_word {C : Addr} (T : Txt K mg) (r_BadWord : Er2 P w K mg base "BadWord" C "what" "word") (c_is_word : Cal P w K mg base 4 "is_word" (spD2s K wordD)) (D : Df K mg "need_word" (defArgs (top 31)) (defBody (top 31)) (defScope (top 31))) : Cal P w K mg base 5 "need_word" (spNeedWord K C) := by
  refine D.calX (ps := ["word", "letters", "what"]) (fun _ _ _ _ _ _ us hl => match us, hl with | [_, _, _], _ => rfl) sc_need_word (fun vs H Q E ⟨v, d, m, what, e, _⟩ => by rw [e]; rfl) fun f cdv A outer s H vs Q E hr ⟨v, d, m, what, e, hv, hz, q1, q2⟩ => ?_
  subst e
  refine ⟨_, (pss_cons (ps_if (pt_not (pt_val (pe_k c_is_word hr (by decide) (pa_cons (pv 0) (pa_cons (pv 1) pa_nil))))) (pss_one (ps_raise2 rfl (takes_of rfl rfl rfl rfl) r_BadWord (hr.mono (by decide)) (pa_cons (pv 2) (pa_cons (pv 0) pa_nil)))) pss_nil)
    (pss_one (ps_ret (pe_callTy (k_tuple K) (by rfl) T.n_tuple (by decide +kernel) (pa_cons (pv 0) pa_nil))))), ?_⟩
  refine ⟨_, rfl, _, rfl, v, d, m, rfl, hv, hz, fun H1 s1 => ⟨_, rfl, ?_⟩⟩
  cases e : wordD d m with
  | true =>
    have e2 : indexesD d m = true := by
      unfold wordD at e
      rw [Bool.and_eq_true] at e
      exact e.1
    obtain ⟨l, ns, en, hn⟩ := indexes_ints e2
    obtain ⟨a, xs, rfl, hx, hsq⟩ := vd_seq (vd_same s1 hv) l
    have q' := q1 e
    rw [en] at hx q'
    rw [intsD_map] at q'
    have ex := ints_of hx
    subst ex
    refine iteF ⟨_, rfl, a, ns.map V.int, rfl, ?_⟩
    rcases hsq with h | h
    · exact .inl ⟨h, fun t nt => q' t _ (same_trans s1 (same_new nt)) (SqT.of upd_same)⟩
    · exact .inr ⟨h, q' a _ s1 h⟩
  | false => exact iteT ⟨_, rfl, _, rfl, _, _, rfl, fun dd nd => q2 e dd _ (same_trans s1 (same_new nd)) upd_same⟩
end
end K38

set_option Elab.async false
set_option linter.all false
set_option maxRecDepth 100000
set_option maxHeartbeats 4000000
namespace K38
open PySem PySem.Spec PyProof.Rows L2 Qk
section
variable {P : Program} {w : World} {K : PySem.W.Frag} {mg : Str → Option Value} {base : Heap}
theorem sc_is_row : FnScope ["value", "letters", "lots", "marks", "lot", "a", "one"] ["value", "letters"] (defScope (top 34)) := ⟨rfl, rfl, rfl, by decide +kernel, rfl, by decide +kernel, by decide +kernel⟩
theorem c_is_row (T : Txt K mg) (c_is_told_indexes : Cal P w K mg base 4 "is_told_indexes" (spD2s K toldIndexesD)) (c_is_told_lot : Cal P w K mg base 5 "is_told_lot" (spD2s K toldLotD)) (D : Df K mg "is_row" (defArgs (top 34)) (defBody (top 34)) (defScope (top 34))) : Cal P w K mg base 6 "is_row" (spIsRow K) := by
  refine D.cal (ps := ["value", "letters"]) (fun _ _ _ _ _ _ us hl => match us, hl with | [_, _], _ => rfl) sc_is_row (fun vs H Q E ⟨v, ls, ms, m, e, _⟩ => by rw [e]; rfl) fun f cdv A outer s H vs Q E hr ⟨v, ls, ms, M, e, hd, z1, z2, z3, q⟩ => ?_
  subst e
  refine ⟨_, (pss_cons (ps_if (PW.pt (pw_or (pt_not (pt_val (pe_callB (k_isi K) (by rfl) T.n_isinstance (by decide +kernel) (pa_cons (pv 0) (pa_cons (pe_bltn (v := .ty "tuple") (u := .type "tuple") (by rfl) T.n_tuple (by decide +kernel) rfl) pa_nil))))) (pw_or (pt_cmpR op_ne (pe_callB (k_len K) (by rfl) T.n_len (by decide +kernel) (pa_cons (pv 0) pa_nil)) pe_int (by first | exact nomark _ | rfl)) (pw_or1 (pt_not (pt_val (pe_callB (k_isi K) (by rfl) T.n_isinstance (by decide +kernel) (pa_cons (pe_ix (k_ixtup K) (pv 0) pe_int (fun _ _ => rfl)) (pa_cons (pe_bltn (v := .ty "tuple") (u := .type "tuple") (by rfl) T.n_tuple (by decide +kernel) rfl) pa_nil))))))))) (pss_one (ps_ret pe_bl)) pss_nil)
    (pss_cons (ps_asg (pv 0) (k_pgtup K (n := 2) rfl (pgs_cons (pg_name (i := 2) sc_is_row.nd rfl (Or.inl rfl)) (pgs_cons (pg_name (i := 3) sc_is_row.nd rfl (Or.inl rfl)) pgs_nil))))
    (pss_cons (ps_if (PW.pt (pw_or (pt_not (pt_val (pe_k c_is_told_indexes hr (by decide) (pa_cons (pv 3) (pa_cons (pv 1) pa_nil))))) (pw_or (pt_cmpR op_gt (pe_callB (k_len K) (by rfl) T.n_len (by decide +kernel) (pa_cons (pv 3) pa_nil)) (C8.pe_gc rfl T.c_MOST_MARKS) (by first | exact nomark _ | rfl)) (pw_or1 (pt_cmpR op_ne (pe_callB (k_len K) (by rfl) T.n_len (by decide +kernel) (pa_cons (pv 2) pa_nil)) (pe_op op_add (pe_callB (k_len K) (by rfl) T.n_len (by decide +kernel) (pa_cons (pv 3) pa_nil)) pe_int) (by first | exact nomark _ | rfl)))))) (pss_one (ps_ret pe_bl)) pss_nil)
    (pss_cons (ps_if (pt_not (pt_val (pe_callB (k_all K rfl) (by rfl) T.n_all (by decide +kernel) (pa_cons (pe_lc (own := [("one", 6)]) rfl sc_is_row.nd (k_pitup K (pv 2)) (blkOk_by (N := ["value", "letters", "lots", "marks", "lot", "a", "one"]) (sc := defScope (top 34)) (by decide +kernel)) (fun _ _ _ _ _ => (pg_name (i := 6) sc_is_row.nd rfl (Or.inl rfl))) (fun _ _ _ _ _ => pts_nil) (fun _ _ _ _ _ => (pe_k c_is_told_lot hr (by decide) (pa_cons (pv 6) (pa_cons (pv 1) pa_nil))))) pa_nil)))) (pss_one (ps_ret pe_bl)) pss_nil)
    (pss_one (ps_ret (pe_callB (k_all K rfl) (by rfl) T.n_all (by decide +kernel) (pa_cons (pe_lc (own := [("lot", 4), ("a", 5)]) rfl sc_is_row.nd (k_pizip K (by rfl) T.n_zip (pa_cons (pv 2) (pa_cons (pv 3) pa_nil))) (blkOk_by (N := ["value", "letters", "lots", "marks", "lot", "a", "one"]) (sc := defScope (top 34)) (by decide +kernel)) (fun _ _ _ _ _ => (k_pgtup K (n := 2) rfl (pgs_cons (pg_name (i := 4) sc_is_row.nd rfl (Or.inl rfl)) (pgs_cons (pg_name (i := 5) sc_is_row.nd rfl (Or.inl rfl)) pgs_nil)))) (fun _ _ _ _ _ => pts_nil) (fun _ _ _ _ _ => (pe_cmpR (k_notin K) (pv 5) (pv 4) (by first | exact nomark _ | rfl)))) pa_nil)))))))), ?_⟩
  obtain ⟨r, l, m, rs, xs, rfl, h1, h2, h3, h4, h5⟩ := row_at hd
  have hl := dpAll_len h3
  rw [List.length_map] at hl
  have hm := dpAll_len h5
  have tt : PySem.W.kitOne K (.type "tuple") (.type "tuple") = some true := kit_ty (by decide +kernel)
  refine ⟨_, rfl, _, _, _, _, true, rfl, .ty _, tyx_sqT h1, tt, true, rfl, iteF ?_⟩
  refine ⟨_, rfl, r, _, rfl, .inr h1, rfl, _, rfl, iteNS rfl ?_⟩
  refine ⟨_, rfl, r, _, _, _, rfl, rfl, h1, atI_nat (j := 0) rfl, _, _, _, _, true, rfl, .ty _, tyx_sqT h2, tt, true, rfl, iteF ?_⟩
  refine ⟨_, rfl, r, _, rfl, h1, rfl, _, _, rfl, _, _, rfl, rfl, ?_⟩
  refine ⟨_, rfl, _, rfl, .ref m, .tuple ms, M, rfl, .dp (.tup h4 h5), by show ms.length ≤ 1000; omega, fun H1 s1 => ⟨_, rfl, ?_⟩⟩
  have eT : toldIndexesD (.tuple ms) M = ms.all fun x => indexD x M := by
    show (true && (true && ms.all fun x => indexD x M)) = _
    rw [Bool.true_and, Bool.true_and]
  rw [eT]
  unfold isRowB at q
  cases e1 : ms.all fun x => indexD x M with
  | false =>
    have q' := q H1 s1
    rw [e1] at q'
    exact iteT (iteT q')
  | true =>
    rw [e1, Bool.true_and] at q
    obtain ⟨ns, en, hn⟩ := all_ints e1
    subst en
    have ex := ints_of h5
    subst ex
    rw [List.length_map] at z2 hm q
    rw [intsD_map] at q
    refine iteF ⟨_, rfl, m, _, rfl, .inr (sqT_same s1 h4), _, _, rfl, rfl, _, rfl, ?_⟩
    have el : (((ns.map V.int).length : Int)) = (ns.length : Int) := by rw [List.length_map]
    rw [el]
    by_cases h60 : ns.length ≤ 60
    · rw [decide_eq_false (show ¬ (60 : Int) < (ns.length : Int) by omega)]
      rw [decide_eq_true h60, Bool.true_and] at q
      refine iteF ⟨_, rfl, l, _, rfl, .inr (sqT_same s1 h2), _, rfl, m, _, rfl, .inr (sqT_same s1 h4), _, _, rfl, rfl, rfl, _, rfl, ?_⟩
      have el2 : decide (V.int (rs.length : Int) = V.int ((((ns.map V.int).length : Nat) : Int) + 1)) = decide (ls.length = ns.length + 1) := by
        rw [decide_eq_decide, el, hl]
        constructor
        · intro z
          have z' := V.int.inj z
          omega
        · intro z
          rw [z]; rfl
      show if (!decide (V.int (rs.length : Int) = V.int ((((ns.map V.int).length : Nat) : Int) + 1))) = true then _ else _
      rw [el2]
      by_cases hlen : ls.length = ns.length + 1
      · rw [decide_eq_true hlen, Bool.true_and] at q
        rw [decide_eq_true hlen]
        refine iteF ?_
        -- each lot
        have h2' := sqT_same s1 h2
        refine ⟨_, rfl, l, rfl, ⟨rs, h2'⟩, fun D nD => ?_⟩
        refine lcg (D := D) (H1 := H1) (yl_tup (R := Same H1) (xs := rs) (fun H' s => sqT_same s h2')) (by omega) (fun i acc => acc = (ls.take i).map fun x => V.bl (toldLotD (lotT x) M)) (Same.refl _) rfl (fun H' o s => same_upd_new nD s) ?_ ?_
        · intro i x acc H2 H3 T' N hi hrel hR hD ⟨eH, hxi⟩ cont _
          subst eH
          obtain ⟨d, ed, hvx⟩ := dpAll_get h3 hxi
          rw [List.getElem?_map] at ed
          cases elot : ls[i]? with
          | none => rw [elot] at ed; cases ed
          | some lot =>
            rw [elot] at ed
            cases ed
            refine ⟨rfl, _, rfl, _, rfl, x, lotT lot, M, rfl, .dp (dp_same (same_trans s1 hR) hvx), ?_, fun H4 s4 => cont _ _ (same_trans hR s4) (s4 _ _ hD) ?_⟩
            · have := z3 lot (List.mem_of_getElem? elot)
              show (lot.map PyData.int).length ≤ 1000
              rw [List.length_map]; omega
            · rw [hrel, take_snoc elot, List.map_append]; rfl
        · intro H2 acc hR hD hrel
          rw [hrel, hl, List.take_length] at hD
          refine ⟨D, ls.map fun x => toldLotD (lotT x) M, rfl, ?_, _, rfl, ?_⟩
          · rw [List.map_map]; exact SqL.of hD
          · have eL : (ls.map fun x => toldLotD (lotT x) M).all id = ls.all fun x => (x.all fun y => decide (0 ≤ y) && decide (y < M)) && risingB x := by
              rw [List.all_map]
              congr 1
              funext x
              show (true && lotD (lotT x) M) = _
              rw [lotD_lotT, Bool.true_and]
            rw [eL]
            cases e2 : ls.all fun x => (x.all fun y => decide (0 ≤ y) && decide (y < M)) && risingB x with
            | false =>
              have q' := q H2 (same_trans s1 hR)
              rw [e2] at q'
              exact iteT q'
            | true =>
              rw [e2, Bool.true_and] at q
              have s2 := same_trans s1 hR
              have h2'' := sqT_same s2 h2
              have h4'' := sqT_same s2 h4
              refine iteF ⟨_, rfl, _, rfl, l, m, rs, ns.map V.int, rfl, .inr ⟨h2'', h4'', fun D2 nD2 => ?_⟩⟩
              have hmin : min rs.length (ns.map V.int).length = ns.length := by rw [List.length_map]; omega
              refine lcg (D := D2) (H1 := H2) (yl_zipT (R := Same H2) (xs := rs) (ys := ns.map V.int) (fun H' s => sqT_same s h2'') (fun H' s => sqT_same s h4'')) (by omega) (fun i acc => acc = ((ls.zip ns).take i).map fun p => V.bl (!decide (p.2 ∈ p.1))) (Same.refl _) rfl (fun H' o s => same_upd_new nD2 s) ?_ ?_
              · intro i x acc H3 H4 T' N hi hrel hR3 hD3 ⟨Tt, x1, y1, ex1, nT, eH, gx, gy⟩ cont _
                subst ex1 eH
                obtain ⟨b, lot, eb, elot, hlot⟩ := lot_at h3 gx
                subst eb
                rw [List.getElem?_map] at gy
                cases ez : ns[i]? with
                | none => rw [ez] at gy; cases gy
                | some z =>
                  rw [ez] at gy
                  cases gy
                  have s3 : Same H (upd H3 Tt (.tup [.ref b, .int z])) := same_trans (same_trans s2 hR3) (same_new nT)
                  refine ⟨Tt, _, rfl, SqT.of upd_same, rfl, _, _, rfl, _, _, rfl, rfl, rfl, _, rfl, _, rfl, b, _, rfl, .inr (sqT_same s3 hlot), rfl, flat_ints lot, ?_⟩
                  refine cont _ _ (same_trans hR3 (same_new nT)) ?_ ?_
                  · rw [upd_ne (ne_of_none hD3 nT)]; exact hD3
                  · have ezip : (ls.zip ns)[i]? = some (lot, z) := by rw [List.getElem?_zip_eq_some]; exact ⟨elot, ez⟩
                    rw [hrel, take_snoc ezip, List.map_append]
                    show _ ++ [V.bl (!inV (.int z) (lot.map V.int))] = _
                    rw [inV_ints]; rfl
              · intro H3 acc hR3 hD3 hrel
                rw [hrel, hmin] at hD3
                have eln : (ls.zip ns).length = ns.length := by rw [List.length_zip]; omega
                rw [← eln, List.take_length] at hD3
                refine ⟨D2, (ls.zip ns).map fun p => !decide (p.2 ∈ p.1), rfl, ?_, ?_⟩
                · rw [List.map_map]; exact SqL.of hD3
                · rw [List.all_map]
                  exact q H3 (same_trans s2 hR3)
      · have q' := q H1 s1
        rw [decide_eq_false hlen] at q' ⊢
        exact iteT q'
    · have q' := q H1 s1
      rw [decide_eq_false h60] at q'
      rw [decide_eq_true (show (60 : Int) < (ns.length : Int) by omega)]
      exact iteT (iteT q')
end
end K38

set_option Elab.async false
set_option linter.all false
set_option maxRecDepth 100000
set_option maxHeartbeats 4000000
namespace K38
open PySem PySem.Spec PyProof.Rows L2 Qk
section
variable {P : Program} {w : World} {K : PySem.W.Frag} {mg : Str → Option Value} {base : Heap}
theorem sc_need_row : FnScope ["row", "told", "one", "a"] ["row"] (defScope (top 37)) := ⟨rfl, rfl, rfl, by decide +kernel, rfl, by decide +kernel, by decide +kernel⟩
theorem c_need_row {C : Addr} (T : Txt K mg) (r_BadRow : Er2 P w K mg base "BadRow" C "what" "row") (c_is_list : Cal P w K mg base 1 "is_list" (spD1 K listD)) (c_is_integer : Cal P w K mg base 1 "is_integer" (spD1 K integerD)) (c_is_row : Cal P w K mg base 6 "is_row" (spIsRow K)) (D : Df K mg "need_row" (defArgs (top 37)) (defBody (top 37)) (defScope (top 37))) : Cal P w K mg base 7 "need_row" (spNeedRow K C) := by
  refine D.calX (ps := ["row"]) (fun _ _ _ _ _ _ us hl => match us, hl with | [_], _ => rfl) sc_need_row (fun vs H Q E ⟨v, d, e, _⟩ => by rw [e]; rfl) fun f cdv A outer s H vs Q E hr ⟨v, d, e, hv, hz, q1, q2⟩ => ?_
  subst e
  refine ⟨_, (pss_cons (ps_if (PW.pt (pw_or (pt_not (pt_val (pe_k c_is_list hr (by decide) (pa_cons (pv 0) pa_nil)))) (pw_or (pt_cmpR op_ne (pe_callB (k_len K) (by rfl) T.n_len (by decide +kernel) (pa_cons (pv 0) pa_nil)) pe_int (by first | exact nomark _ | rfl)) (pw_or1 (pt_not (pt_val (pe_callB (k_all K rfl) (by rfl) T.n_all (by decide +kernel) (pa_cons (pe_lc (own := [("one", 2)]) rfl sc_need_row.nd (k_piseq K (pv 0)) (blkOk_by (N := ["row", "told", "one", "a"]) (sc := defScope (top 37)) (by decide +kernel)) (fun _ _ _ _ _ => (pg_name (i := 2) sc_need_row.nd rfl (Or.inl rfl))) (fun _ _ _ _ _ => pts_nil) (fun _ _ _ _ _ => (pe_and (pe_k c_is_list hr (by decide) (pa_cons (pv 2) pa_nil)) (pe_one (pe_cmpR op_le (pe_callB (k_len K) (by rfl) T.n_len (by decide +kernel) (pa_cons (pv 2) pa_nil)) (pe_op op_add (C8.pe_gc rfl T.c_MOST_MARKS) pe_int) (by first | exact nomark _ | rfl)))))) pa_nil)))))))) (pss_one (ps_raise2 rfl (takes_of rfl rfl rfl rfl) r_BadRow (hr.mono (by decide)) (pa_cons pe_str (pa_cons (pv 0) pa_nil)))) pss_nil)
    (pss_cons (ps_if (pt_not (pt_val (pe_callB (k_all K rfl) (by rfl) T.n_all (by decide +kernel) (pa_cons (pe_lc (own := [("one", 2)]) rfl sc_need_row.nd (k_piseq K (pe_ix (k_ixseq K) (pv 0) pe_int (fun _ _ => rfl))) (blkOk_by (N := ["row", "told", "one", "a"]) (sc := defScope (top 37)) (by decide +kernel)) (fun _ _ _ _ _ => (pg_name (i := 2) sc_need_row.nd rfl (Or.inl rfl))) (fun _ _ _ _ _ => pts_nil) (fun _ _ _ _ _ => (pe_and (pe_k c_is_list hr (by decide) (pa_cons (pv 2) pa_nil)) (pe_and (pe_cmpR op_le (pe_callB (k_len K) (by rfl) T.n_len (by decide +kernel) (pa_cons (pv 2) pa_nil)) pe_int (by first | exact nomark _ | rfl)) (pe_one (pe_callB (k_all K rfl) (by rfl) T.n_all (by decide +kernel) (pa_cons (pe_lc (own := [("a", 3)]) rfl sc_need_row.nd (k_piseq K (pv 2)) (blkOk_by (N := ["row", "told", "one", "a"]) (sc := relS (_) (defScope (top 37))) (by decide +kernel)) (fun _ _ _ _ _ => (pg_name (i := 3) sc_need_row.nd rfl (Or.inl rfl))) (fun _ _ _ _ _ => pts_nil) (fun _ _ _ _ _ => (pe_k c_is_integer hr (by decide) (pa_cons (pv 3) pa_nil)))) pa_nil))))))) pa_nil)))) (pss_one (ps_raise2 rfl (takes_of rfl rfl rfl rfl) r_BadRow (hr.mono (by decide)) (pa_cons pe_str (pa_cons (pv 0) pa_nil)))) pss_nil)
    (pss_cons (ps_set (i := 1) sc_need_row.nd rfl (Or.inl rfl) (pe_tup (pa_cons (pe_callTy (k_tuple K) (by rfl) T.n_tuple (by decide +kernel) (pa_cons (pe_lc (own := [("one", 2)]) rfl sc_need_row.nd (k_piseq K (pe_ix (k_ixseq K) (pv 0) pe_int (fun _ _ => rfl))) (blkOk_by (N := ["row", "told", "one", "a"]) (sc := defScope (top 37)) (by decide +kernel)) (fun _ _ _ _ _ => (pg_name (i := 2) sc_need_row.nd rfl (Or.inl rfl))) (fun _ _ _ _ _ => pts_nil) (fun _ _ _ _ _ => (pe_callTy (k_tuple K) (by rfl) T.n_tuple (by decide +kernel) (pa_cons (pv 2) pa_nil)))) pa_nil)) (pa_cons (pe_callTy (k_tuple K) (by rfl) T.n_tuple (by decide +kernel) (pa_cons (pe_ix (k_ixseq K) (pv 0) pe_int (fun _ _ => rfl)) pa_nil)) pa_nil))))
    (pss_cons (ps_if (pt_not (pt_val (pe_k c_is_row hr (by decide) (pa_cons (pv 1) (pa_cons pe_int pa_nil))))) (pss_one (ps_raise2 rfl (takes_of rfl rfl rfl rfl) r_BadRow (hr.mono (by decide)) (pa_cons pe_str (pa_cons (pv 0) pa_nil)))) pss_nil)
    (pss_one (ps_ret (pv 1))))))), ?_⟩
  have bad : ∀ (σ : Slots) (H' : Hp) (D : Ends), rowOk d = false → Same H H' → σ[0]? = some (some v) → tMk2 C "what" "row" (tCons (tC (.str "row")) (tCons (tVar 0) tNil)) σ H' (fun cls d H' => E cls d H') := fun σ H' D e s' h0 =>
    ⟨v, h0, _, _, rfl, fun dd nd => q2 e dd _ (same_trans s' (same_new nd)) upd_same⟩
  refine ⟨_, rfl, v, d, rfl, hv, fun H1 s1 => ⟨_, rfl, ?_⟩⟩
  cases l : listD d with
  | false =>
    have e0 : rowOk d = false := by unfold rowOk; rw [l]; rfl
    exact iteT (iteT (bad _ _ { nx := fun _ _ => False, rt := Q } e0 s1 rfl))
  | true =>
    obtain ⟨a, xs, rfl, hx, hsq⟩ := vd_seq (vd_same s1 hv) l
    have hlen := dpAll_len hx
    refine iteF ⟨_, rfl, a, xs, rfl, hsq, rfl, _, rfl, ?_⟩
    have e2 : decide (V.int (xs.length : Int) = V.int 2) = decide ((itemsD d).length = 2) := by
      rw [decide_eq_decide, hlen]
      constructor
      · intro z
        have z' := V.int.inj z
        omega
      · intro z
        rw [z]; rfl
    rw [e2]
    by_cases h2 : (itemsD d).length = 2
    · rw [decide_eq_true h2]
      refine iteF ?_
      have d0 : ∃ x y, itemsD d = [x, y] := by
        match itemsD d, h2 with
        | [x, y], _ => exact ⟨x, y, rfl⟩
      obtain ⟨dx, dy, ed⟩ := d0
      rw [ed] at hx
      obtain ⟨vx, vy, rfl, hvx, hvy⟩ := dpAll_two hx
      have p0 : partD d 0 = dx := by unfold partD; rw [ed]; rfl
      have p1 : partD d 1 = dy := by unfold partD; rw [ed]; rfl
      have eR : rowOk d = ([dx, dy].all partOk && ((itemsD dx).all lotOk && isRowB (lotsD dx) (itemsD dy) 3)) := by
        unfold rowOk
        rw [l, p0, p1, ed]
        rfl
      rw [p0, p1] at q1
      obtain ⟨u60, g60, r60⟩ := T.c_MOST_MARKS
      refine read_all_seq partOk (fun R h => ⟨_, rfl, h⟩) hsq hx (show 2 ≤ 1000 by decide) (fun x dx' H' hm sH hd Tq hT => ?_) (fun _ => rfl) (fun H2 s2 => ?_)
      · refine ⟨_, rfl, x, dx', rfl, .dp hd, fun H4 s4 => ⟨_, rfl, ?_⟩⟩
        unfold partOk at hT
        cases l2 : listD dx' with
        | false =>
          rw [l2] at hT
          exact iteF (hT _ s4)
        | true =>
          rw [l2] at hT
          obtain ⟨a2, xs2, rfl, hx2, hsq2⟩ := vd_seq (.dp (dp_same s4 hd)) l2
          refine iteT ⟨_, rfl, a2, xs2, rfl, hsq2, _, _, rfl, rfl, _, _, rfl, rfl, ?_⟩
          have e61 : decide ((xs2.length : Int) ≤ 60 + 1) = decide ((itemsD dx').length ≤ 61) := by
            rw [decide_eq_decide, dpAll_len hx2]
            omega
          show Tq (.bl (decide ((xs2.length : Int) ≤ 60 + 1))) H4
          rw [e61]
          exact hT _ s4
      · have s12 := same_trans s1 s2
        refine ⟨_, rfl, ?_⟩
        cases e3 : [dx, dy].all partOk with
        | false =>
          rw [e3] at eR
          exact (iteT (bad _ _ { nx := fun _ _ => False, rt := Q } eR s12 rfl))
        | true =>
          rw [e3, Bool.true_and] at eR
          refine iteF ?_
          have hp : partOk dx = true ∧ partOk dy = true := by
            rw [List.all_cons, List.all_cons, List.all_nil, Bool.and_true, Bool.and_eq_true] at e3
            exact e3
          have hpx : listD dx = true ∧ (itemsD dx).length ≤ 61 := by
            have z := hp.1
            unfold partOk at z
            rw [Bool.and_eq_true, decide_eq_true_eq] at z
            exact z
          have hpy : listD dy = true ∧ (itemsD dy).length ≤ 61 := by
            have z := hp.2
            unfold partOk at z
            rw [Bool.and_eq_true, decide_eq_true_eq] at z
            exact z
          have hsq2 := seq_same s2 hsq
          obtain ⟨ax, zx, rfl, hzx, hsx⟩ := vd_seq (.dp (dp_same s2 hvx)) hpx.1
          obtain ⟨ay, zy, rfl, hzy, hsy⟩ := vd_seq (.dp (dp_same s2 hvy)) hpy.1
          -- the lots
          refine read_all_seq lotOk (fun R h => ⟨_, rfl, read_ix (i := 0) hsq2 rfl h⟩) hsx hzx (by rw [dpAll_len hzx]; omega) (fun x dx' H' hm sH hd Tq hT => ?_) (fun _ => rfl) (fun H3 s3 => ?_)
          · refine ⟨_, rfl, x, dx', rfl, .dp hd, fun H4 s4 => ⟨_, rfl, ?_⟩⟩
            unfold lotOk at hT
            cases l2 : listD dx' with
            | false =>
              rw [l2] at hT
              exact iteF (hT _ s4)
            | true =>
              rw [l2] at hT
              obtain ⟨a2, xs2, rfl, hx2, hsq2⟩ := vd_seq (.dp (dp_same s4 hd)) l2
              refine iteT ⟨_, rfl, a2, xs2, rfl, hsq2, _, _, rfl, rfl, _, rfl, ?_⟩
              have e61 : decide ((xs2.length : Int) ≤ 3) = decide ((itemsD dx').length ≤ 3) := by
                rw [decide_eq_decide, dpAll_len hx2]
                omega
              show if decide ((xs2.length : Int) ≤ 3) = true then _ else _
              rw [e61]
              by_cases h3 : (itemsD dx').length ≤ 3
              · rw [decide_eq_true h3] at hT ⊢
                refine iteT (read_all_seq integerD (fun R h => ⟨_, rfl, h⟩) hsq2 hx2 (by rw [dpAll_len hx2]; omega) (fun y dy' H5 hm5 s5 hd5 T5 hT5 => ⟨_, rfl, y, dy', rfl, .dp hd5, fun H6 s6 => hT5 _ s6⟩) (fun _ => rfl) (fun H5 s5 => hT _ (same_trans s4 s5)))
              · rw [decide_eq_false h3] at hT ⊢
                exact iteF (hT _ s4)
          · have s13 := same_trans s12 s3
            refine ⟨_, rfl, ?_⟩
            cases e4 : (itemsD dx).all lotOk with
            | false =>
              rw [e4] at eR
              exact iteT (bad _ _ { nx := fun _ _ => False, rt := Q } eR s13 rfl)
            | true =>
              rw [e4, Bool.true_and] at eR
              refine iteF ?_
              have hsq3 := seq_same s3 hsq2
              have hsx3 := seq_same s3 hsx
              have hzx3 := dpAll_same s3 hzx
              have hsy3 := seq_same s3 hsy
              have hzy3 := dpAll_same s3 hzy
              have hlot : ∀ x ∈ itemsD dx, listD x = true ∧ (itemsD x).length ≤ 3 ∧ itemsD x = (intsD (itemsD x)).map PyData.int := fun x hm => by
                have z := List.all_eq_true.mp e4 x hm
                unfold lotOk at z
                rw [Bool.and_eq_true, Bool.and_eq_true, decide_eq_true_eq] at z
                exact ⟨z.1, z.2.1, integers_ints z.2.2⟩
              -- told
              dsimp only [tNext, tSeq, tAsg, tTup, tCons, tCB]
              refine read_map_seq (fun x => lotT (intsD (itemsD x))) (fun R h => ⟨_, rfl, read_ix (i := 0) hsq3 rfl h⟩) hsx3 hzx3 (by rw [dpAll_len hzx3]; omega) (fun x dx' H' hm sH hd Tq hT => ?_) (fun _ => rfl) (fun D acc H4 s4 nD hD hacc => ?_)
              · obtain ⟨hl1, _, hl3⟩ := hlot dx' hm
                obtain ⟨a2, xs2, rfl, hx2, hsq2⟩ := vd_seq (.dp hd) hl1
                rw [hl3] at hx2
                have ex := ints_of hx2
                subst ex
                exact ⟨_, rfl, read_tuple_ints hsq2 fun y H'' s'' hy => hT y H'' s'' fun D h1 h2 _ => hy D h1 h2⟩
              · refine ⟨D, acc, rfl, .inl ⟨SqL.of hD, fun t nt => ?_⟩⟩
                have st := same_new (o := .tup acc) nt
                have hacc' : DpAll K (upd H4 t (.tup acc)) acc ((itemsD dx).map fun x => lotT (intsD (itemsD x))) := dpAll_same st (dpAll_same same_del hacc)
                have s34 := same_trans s4 st
                refine ⟨_, rfl, read_ix (i := 1) (seq_same s34 hsq3) rfl ?_⟩
                dsimp only [tNil]
                refine read_tuple_data (seq_same s34 hsy3) (dpAll_same s34 hzy3) fun y H5 s5 hy => ?_
                obtain ⟨ty, zz, rfl, _, _⟩ := dp_tup hy
                refine ⟨(show 2 ≤ sizeLine by decide), fun p np => ?_⟩
                have sp := same_new (o := .tup [.ref t, .ref ty]) np
                have s15 := same_trans s13 (same_trans s34 (same_trans s5 sp))
                have hrow : Dp K (upd H5 p (.tup [.ref t, .ref ty])) (.ref p) (rowT (lotsD dx) (itemsD dy)) := by
                  refine .tup (SqT.of upd_same) (.cons (.tup (xs := acc) (sqT_same (same_trans s5 sp) (SqT.of upd_same)) ?_) (.cons (dp_same sp hy) .nil))
                  have z := dpAll_same (same_trans s5 sp) hacc'
                  have e : (lotsD dx).map lotT = (itemsD dx).map fun x => lotT (intsD (itemsD x)) := by
                    unfold lotsD
                    rw [List.map_map]
                    rfl
                  rw [e]
                  exact z
                refine ⟨_, rfl, .ref p, lotsD dx, itemsD dy, 3, rfl, hrow, ?_, ?_, ?_, fun H6 s6 => ⟨_, rfl, ?_⟩⟩
                · unfold lotsD
                  rw [List.length_map]; omega
                · omega
                · intro lt hm
                  unfold lotsD at hm
                  obtain ⟨x, hx, rfl⟩ := List.mem_map.mp hm
                  obtain ⟨_, h3, e3⟩ := hlot x hx
                  have : (intsD (itemsD x)).length = (itemsD x).length := by
                    have := congrArg List.length e3
                    rw [List.length_map] at this
                    exact this.symm
                  omega
                · have s16 := same_trans s15 s6
                  rw [← eR]
                  cases e6 : rowOk d with
                  | false => exact iteT (bad _ _ { nx := fun _ _ => False, rt := Q } e6 s16 rfl)
                  | true => exact iteF ⟨_, rfl, q1 e6 _ _ s16 (dp_same s6 hrow)⟩
    · have e0 : rowOk d = false := by unfold rowOk; rw [l, decide_eq_false h2]; rfl
      rw [decide_eq_false h2]
      exact iteT (iteT (bad _ _ { nx := fun _ _ => False, rt := Q } e0 s1 rfl))
end
end K38

set_option Elab.async false
set_option linter.all false
set_option maxRecDepth 100000
set_option maxHeartbeats 4000000
namespace K38
open PySem PySem.Spec PyProof.Rows L2 Qk
section
variable {P : Program} {w : World} {K : PySem.W.Frag} {mg : Str → Option Value} {base : Heap}
theorem sc_row_takes : FnScope ["row", "word", "told"] ["row", "word"] (defScope (top 38)) := ⟨rfl, rfl, rfl, by decide +kernel, rfl, by decide +kernel, by decide +kernel⟩
theorem c_row_takes {CR CW : Addr} (T : Txt K mg) (c_need_row : Cal P w K mg base 7 "need_row" (spNeedRow K CR)) (c_need_word : Cal P w K mg base 5 "need_word" (spNeedWord K CW)) (c_takes_row : Cal P w K mg base 2 "takes_row" (spTakes K)) (D : Df K mg "row_takes" (defArgs (top 38)) (defBody (top 38)) (defScope (top 38))) : Cal P w K mg base 8 "row_takes" (spRowTakes K CR CW) := by
  refine D.calX (ps := ["row", "word"]) (fun _ _ _ _ _ _ us hl => match us, hl with | [_, _], _ => rfl) sc_row_takes (fun vs H Q E ⟨v, u, d, e, e', _⟩ => by rw [e']; rfl) fun f cdv A outer s H vs Q E hr ⟨v, u, d, e, e', hv, hu, hz, hz2, q1, q2, q3⟩ => ?_
  subst e'
  refine ⟨_, (pss_cons (ps_set (i := 2) sc_row_takes.nd rfl (Or.inl rfl) (pe_kx c_need_row (takes_of rfl rfl rfl rfl) hr (by decide) (pa_cons (pv 0) pa_nil)))
    (pss_one (ps_ret (pe_k c_takes_row hr (by decide) (pa_cons (pv 2) (pa_cons (pe_kx c_need_word (takes_of rfl rfl rfl rfl) hr (by decide) (pa_cons (pv 1) (pa_cons pe_int (pa_cons pe_str pa_nil)))) pa_nil)))))), ?_⟩
  refine ⟨_, rfl, v, d, rfl, hv, hz, fun h t H1 s1 ht => ?_, fun h dd H' s' e => q3 h dd H' s' e⟩
  have hi : isRowB (lotsD (partD d 0)) (itemsD (partD d 1)) 3 = true := by
    have h' := h
    unfold rowOk at h'
    simp only [Bool.and_eq_true] at h'
    exact h'.2.2.2.2
  obtain ⟨em, el⟩ := isRow_marks hi
  refine ⟨_, rfl, _, rfl, u, e, 3, "word", rfl, vd_same s1 hu, hz2, fun h2 a H2 s2 hs => ?_, fun h2 dd H' s' e => q2 h h2 dd H' (same_trans s1 s') e⟩
  refine ⟨t, a, lotsD (partD d 0), intsD (itemsD (partD d 1)), _, rfl, ?_, ?_, hs, q1 h h2 _ (same_trans s1 s2)⟩
  · unfold rowD
    rw [← em]
    exact dp_same s2 ht
  · have := congrArg List.length em
    rw [List.length_map] at this
    omega
end
end K38

set_option Elab.async false
set_option linter.all false
set_option maxRecDepth 100000
set_option maxHeartbeats 4000000
namespace K38
open PySem PySem.Spec PyProof.Rows L2 Qk
section
variable {P : Program} {w : World} {K : PySem.W.Frag} {mg : Str → Option Value} {base : Heap}
/-- what stands between two laps -/
def MarksAt (n : Pn) (H : Hp) (L M : Addr) (i : Nat) (H' : Hp) : Prop := Pen n H H' ∧ ∃ (rs : List V) (ls : List (List Int)) (ms : List Int), H' L = some (.lst rs) ∧ H' M = some (.lst (ms.map V.int)) ∧ Lots H' rs ls ∧ ls.length = i ∧ ms.length = i ∧
  (∀ l ∈ ls, LotGood l) ∧ (∀ x ∈ ms, 0 ≤ x ∧ x < 3) ∧ ∀ p ∈ ls.zip ms, p.2 ∉ p.1
theorem sc_law_marks : FnScope ["pen", "letters", "lap", "lots", "marks", "lot", "free", "a"] ["pen", "letters"] (defScope (top 49)) := ⟨rfl, rfl, rfl, by decide +kernel, rfl, by decide +kernel, by decide +kernel⟩
theorem c_law_marks (T : Txt K mg) (c_law_draw : Cal P w K mg base 1 "_law_draw" spDraw) (c_law_pick : Cal P w K mg base 2 "_law_pick" (spPick K)) (D : Df K mg "_law_marks" (defArgs (top 49)) (defBody (top 49)) (defScope (top 49))) : Cal P w K mg base 3 "_law_marks" (spMarks K) := by
  refine D.cal (ps := ["pen", "letters"]) (fun _ _ _ _ _ _ us hl => match us, hl with | [_, _], _ => rfl) sc_law_marks (fun vs H Q E ⟨n, e, _⟩ => by rw [e]; rfl) fun f cdv A outer s H vs Q E hr ⟨n, e, hp, q⟩ => ?_
  subst e
  refine ⟨_, (pss_cons (ps_par (i := 3) (j := 4) rfl sc_law_marks.nd rfl rfl (by decide) rfl rfl (pa_cons (pe_lst pa_nil) (pa_cons (pe_lst pa_nil) pa_nil)) (by rfl))
    (pss_cons (ps_for PassesOwn.never rfl (pi_range1 rfl T.n_range (pa_cons (pe_op op_add (pe_k c_law_draw hr (by decide) (pa_cons (pv 0) (pa_cons pe_int pa_nil))) pe_int) pa_nil)) (pg_name (i := 2) sc_law_marks.nd rfl (Or.inl rfl)) (pss_cons (ps_set (i := 5) sc_law_marks.nd rfl (Or.inr rfl) (pe_callTy (k_tuple K) (by rfl) T.n_tuple (by decide +kernel) (pa_cons (pe_lc (own := [("a", 7)]) rfl sc_law_marks.nd (pi_range1 rfl T.n_range (pa_cons (pv 1) pa_nil)) (blkOk_by (N := ["pen", "letters", "lap", "lots", "marks", "lot", "free", "a"]) (sc := defScope (top 49)) (by decide +kernel)) (fun _ _ _ _ _ => (pg_name (i := 7) sc_law_marks.nd rfl (Or.inl rfl))) (fun _ _ _ _ _ => (pts_one (pt_cmpR op_eq (pe_k c_law_draw hr (by decide) (pa_cons (pv 0) (pa_cons pe_int pa_nil))) pe_int (by first | exact nomark _ | rfl)))) (fun _ _ _ _ _ => (pv 7))) pa_nil)))
    (pss_cons (ps_setLc (i := 6) (own := [("a", 7)]) rfl sc_law_marks.nd rfl rfl (sw_true rfl rfl rfl (by decide +kernel)) (pi_range1 rfl T.n_range (pa_cons (pv 1) pa_nil)) (blkOk_by (N := ["pen", "letters", "lap", "lots", "marks", "lot", "free", "a"]) (sc := defScope (top 49)) (by decide +kernel)) (fun _ _ _ _ _ => (pg_name (i := 7) sc_law_marks.nd rfl (Or.inl rfl))) (fun _ _ _ _ _ => (pts_one (pt_cmpR (k_notin K) (pv 7) (pv 5) (by first | exact nomark _ | rfl)))) (fun _ _ _ _ _ => (pv 7)))
    (pss_cons (ps_expr (pe_append (pv 3) (pv 5)))
    (pss_cons (ps_if (pt_cmpR (k_eqD K hr.units) (pv 6) (pe_lst pa_nil) (by first | exact nomark _ | rfl)) (pss_one (ps_ret (pe_tup (pa_cons (pe_callTy (k_tuple K) (by rfl) T.n_tuple (by decide +kernel) (pa_cons (pv 3) pa_nil)) (pa_cons (pe_callTy (k_tuple K) (by rfl) T.n_tuple (by decide +kernel) (pa_cons (pv 4) pa_nil)) pa_nil))))) pss_nil)
    (pss_one (ps_expr (pe_append (pv 4) (pe_k c_law_pick hr (by decide) (pa_cons (pv 0) (pa_cons (pv 6) pa_nil)))))))))))
    (pss_one (ps_ret (pe_tup (pa_cons (pe_callTy (k_tuple K) (by rfl) T.n_tuple (by decide +kernel) (pa_cons (pv 3) pa_nil)) (pa_cons (pe_ifExp (pt_cmpR op_eq (pe_callB (k_len K) (by rfl) T.n_len (by decide +kernel) (pa_cons (pv 4) pa_nil)) (pe_callB (k_len K) (by rfl) T.n_len (by decide +kernel) (pa_cons (pv 3) pa_nil)) (by first | exact nomark _ | rfl)) (pe_callTy (k_tuple K) (by rfl) T.n_tuple (by decide +kernel) (pa_cons (pe_slice (k_sllist K) (pv 4) po_none (po_some (pe_un un_neg pe_int))) pa_nil)) (pe_callTy (k_tuple K) (by rfl) T.n_tuple (by decide +kernel) (pa_cons (pv 4) pa_nil))) pa_nil))))))), ?_⟩
  refine ⟨(by decide : 0 ≤ sizeLine), fun L nL => ⟨(by decide : 0 ≤ sizeLine), fun M nM => ⟨_, _, rfl, ?_⟩⟩⟩
  have nML : M ≠ L := fun z => by rw [z, upd_same] at nM; cases nM
  have nM' : H M = none := by rw [upd_ne nML] at nM; exact nM
  have s0 : Same H (upd (upd H L (.lst [])) M (.lst [])) := same_trans (same_new nL) (same_new nM)
  have hL0 : (upd (upd H L (.lst [])) M (.lst [])) L = some (.lst []) := by rw [upd_ne nML.symm]; exact upd_same
  have hM0 : (upd (upd H L (.lst [])) M (.lst [])) M = some (.lst []) := upd_same
  generalize upd (upd H L (.lst [])) M (.lst []) = H0 at s0 hL0 hM0
  refine ⟨_, rfl, n, 4, rfl, hp.same s0, by decide, by decide, fun r H1 r0 r1 hP1 => ⟨_, _, rfl, rfl, _, rfl, by omega, by omega, ?_⟩⟩
  have hP01 : Pen n H H1 := (Pen.of hp s0).trans hP1
  have hok0 := hp.same s0
  have out : ∀ (H2 : Hp) (rs : List V) (ls : List (List Int)) (ms : List Int), Pen n H H2 → H2 L = some (.lst rs) → H2 M = some (.lst (ms.map V.int)) → Lots H2 rs ls → GoodRow ls ms →
      ∀ t1, H2 t1 = none → ∀ t2, upd H2 t1 (.tup rs) t2 = none → ∀ p, upd (upd H2 t1 (.tup rs)) t2 (.tup (ms.map V.int)) p = none → Q (.ref p) (upd (upd (upd H2 t1 (.tup rs)) t2 (.tup (ms.map V.int))) p (.tup [.ref t1, .ref t2])) :=
    fun H2 rs ls ms hP hL hM hl g t1 n1 t2 n2 p n3 => by
      have s1 := same_new (o := .tup rs) n1
      have s2 := same_new (o := .tup (ms.map V.int)) n2
      have s3 := same_new (o := .tup [.ref t1, .ref t2]) n3
      refine q ls ms p _ g (((hP.same s1).same s2).same s3) ?_
      refine .tup (SqT.of upd_same) (.cons (.tup (xs := rs) (SqT.of (s3 _ _ (s2 _ _ upd_same))) ?_) (.cons (.tup (xs := ms.map V.int) (SqT.of (s3 _ _ upd_same)) (dpAll_ints ms)) .nil))
      exact (hl.mono fun b xs e => s3 _ _ (s2 _ _ (s1 _ _ e))).dp
  refine forg (yl_range (R := fun _ => True)) (fun i σ H' => (∃ lap lot free, σ = [some (.ref n.p), some (.int 3), lap, some (.ref L), some (.ref M), lot, free, none]) ∧ MarksAt n H L M i H')
    ⟨⟨none, none, none, rfl⟩, hP01, [], [], [], hP1.lst hok0 hL0, hP1.lst hok0 hM0, True.intro, rfl, rfl, fun _ h => (nomatch h), fun _ h => (nomatch h), fun _ h => (nomatch h)⟩ (fun _ _ _ _ => True.intro) ?_ ?_
  · intro i x σ H2 H3 N hi ⟨⟨lap, lot0, free0, es⟩, hP2, rs, ls, ms, hL2, hM2, hl2, el, em, g1, g2, g3⟩ ⟨eH, ex⟩ next
    subst eH ex es
    have hok2 := hP2.ok
    -- lot
    refine ⟨_, rfl, _, rfl, by decide, by decide, fun D nD => ?_⟩
    refine lcg (D := D) (H1 := H3) (yl_range (R := Pen n H3)) (by decide) (fun i acc => ∃ l : List Int, acc = l.map V.int ∧ (∀ x ∈ l, 0 ≤ x ∧ x < (i : Nat)) ∧ risingB l = true ∧ l.length ≤ i) (Pen.rfl' hok2) ⟨[], rfl, fun _ h => (nomatch h), rfl, Nat.le_refl _⟩ (fun H' o h => h.put hok2 nD) ?_ ?_
    · intro j x acc H4 H5 T' N' hj ⟨l, ea, hl, hri, hle⟩ hR hD ⟨eH, ex⟩ cont skip
      subst eH ex
      refine ⟨rfl, _, rfl, n, 2, rfl, hR.ok, by decide, by decide, fun r' H6 q0 q1 hP' => ⟨rfl, _, rfl, ?_⟩⟩
      rw [int_eq_dec]
      by_cases h0 : r' = 0
      · rw [decide_eq_true h0]
        refine iteT ⟨_, rfl, cont _ _ (hR.trans hP') (hP'.lst hR.ok hD) ⟨l ++ [((j : Nat) : Int)], ?_, ?_, rising_snoc l _ (fun y hy => (hl y hy).2) hri, ?_⟩⟩
        · rw [ea, List.map_append]
          show _ ++ [V.int (0 + (j : Int))] = _ ++ [V.int (j : Int)]
          rw [Int.zero_add]
        · refine forall_snoc (fun y hy => ⟨(hl y hy).1, ?_⟩) ⟨by omega, by omega⟩
          have := (hl y hy).2
          omega
        · rw [List.length_append]
          exact Nat.succ_le_succ hle
      · rw [decide_eq_false h0]
        exact iteF (skip _ (hR.trans hP') (hP'.lst hR.ok hD) ⟨l, ea, fun y hy => ⟨(hl y hy).1, by have := (hl y hy).2; omega⟩, hri, Nat.le_succ_of_le hle⟩)
    · intro H4 acc hR hD ⟨l, ea, hl, hri, hle⟩
      subst ea
      have hl3 : ∀ x ∈ l, 0 ≤ x ∧ x < 3 := fun x hx => ⟨(hl x hx).1, by have := (hl x hx).2; exact this⟩
      refine ⟨D, _, rfl, .inl ⟨SqL.of hD, fun t nt => ?_⟩⟩
      have sT := same_new (o := .tup (l.map V.int)) nt
      have hPT : Pen n H3 (upd H4 t (.tup (l.map V.int))) := hR.same sT
      have hT5 : (upd H4 t (.tup (l.map V.int))) t = some (.tup (l.map V.int)) := upd_same
      generalize upd H4 t (.tup (l.map V.int)) = H5 at hPT hT5
      -- free
      refine ⟨_, rfl, _, rfl, by decide, by decide, fun D2 nD2 => ?_⟩
      refine lcg (D := D2) (H1 := H5) (yl_range (R := Same H5)) (by decide) (fun i acc => ∃ fr : List Int, acc = fr.map V.int ∧ (∀ x ∈ fr, (0 ≤ x ∧ x < (i : Nat)) ∧ x ∉ l) ∧ fr.length ≤ i) (Same.refl _) ⟨[], rfl, fun _ h => (nomatch h), Nat.le_refl _⟩ (fun H' o h => same_upd_new nD2 h) ?_ ?_
      · intro j x acc H6 H7 T' N' hj ⟨fr, ea, hfr, hle2⟩ hR2 hD2 ⟨eH, ex⟩ cont skip
        subst eH ex
        refine ⟨rfl, _, rfl, _, rfl, t, _, rfl, .inr (SqT.of (hR2 _ _ hT5)), rfl, flat_ints l, _, rfl, ?_⟩
        show if (!inV (.int (0 + (j : Int))) (l.map V.int)) = true then _ else _
        rw [inV_ints, Int.zero_add]
        by_cases hm : ((j : Nat) : Int) ∈ l
        · rw [decide_eq_true hm]
          exact iteF (skip _ hR2 hD2 ⟨fr, ea, fun y hy => ⟨⟨(hfr y hy).1.1, by have := (hfr y hy).1.2; omega⟩, (hfr y hy).2⟩, Nat.le_succ_of_le hle2⟩)
        · rw [decide_eq_false hm]
          refine iteT ⟨_, rfl, cont _ _ hR2 hD2 ⟨fr ++ [((j : Nat) : Int)], ?_, ?_, ?_⟩⟩
          · rw [ea, List.map_append]
            rfl
          · exact forall_snoc (fun y hy => ⟨⟨(hfr y hy).1.1, by have := (hfr y hy).1.2; omega⟩, (hfr y hy).2⟩) ⟨⟨by omega, by omega⟩, hm⟩
          · rw [List.length_append]
            exact Nat.succ_le_succ hle2
      · intro H6 acc hR2 hD2 ⟨fr, ea, hfr, hle2⟩
        subst ea
        have hP6 : Pen n H3 H6 := hPT.same hR2
        have hL6 := hP6.lst hok2 hL2
        have hM6 := hP6.lst hok2 hM2
        have ht6 : H6 t = some (.tup (l.map V.int)) := hR2 _ _ hT5
        have hl6 : Lots H6 rs ls := hl2.mono fun b xs e => hP6.tup hok2 e
        have hrs := hl2.len
        -- lots.append(lot)
        refine ⟨_, rfl, L, _, rfl, hL6, _, rfl, rs, hL6, len_lt_line (by omega), ?_⟩
        have nLD : D2 ≠ L := fun z => by
          have := hP2.but
          rw [z] at nD2
          have h5 := hPT.lst hok2 hL2
          rw [h5] at nD2
          cases nD2
        have hP7 : Pen n H (upd H6 L (.lst (rs ++ [.ref t]))) := (hP2.trans hP6).put hp nL
        have hL7 : (upd H6 L (.lst (rs ++ [.ref t]))) L = some (.lst (rs ++ [.ref t])) := upd_same
        have hM7 : (upd H6 L (.lst (rs ++ [.ref t]))) M = some (.lst (ms.map V.int)) := by rw [upd_ne nML]; exact hM6
        have hD7 : (upd H6 L (.lst (rs ++ [.ref t]))) D2 = some (.lst (fr.map V.int)) := by rw [upd_ne nLD]; exact hD2
        have hl7 : Lots (upd H6 L (.lst (rs ++ [.ref t]))) (rs ++ [.ref t]) (ls ++ [l]) := Lots.snoc (tups_upd hL6 _ _ ht6) (hl6.mono (tups_upd hL6))
        generalize upd H6 L (.lst (rs ++ [.ref t])) = H7 at hP7 hL7 hM7 hD7 hl7
        have gl : ∀ z ∈ ls ++ [l], LotGood z := forall_snoc g1 ⟨hl3, hri, hle⟩
        -- if free == []
        refine ⟨_, rfl, (by decide : 0 ≤ sizeLine), fun p np => ⟨.list (fr.map .int), .list [], ?_, .lst (SqL.of upd_same) .nil, shaped_lst fr, shaped_lst [], _, rfl, ?_⟩⟩
        · have np2 : D2 ≠ p := ne_lst_none hD7 np
          exact .lst (xs := fr.map V.int) (SqL.of (by rw [upd_ne np2]; exact hD7)) (dpAll_ints fr)
        rw [eqv_lst_nil]
        have s8 := same_new (o := .lst []) np
        have hP8 := hP7.same s8
        have hL8 := s8 _ _ hL7
        have hM8 := s8 _ _ hM7
        have hD8 := s8 _ _ hD7
        have hl8 := hl7.mono fun b xs e => s8 _ _ e
        generalize upd H7 p (.lst []) = H8 at hP8 hL8 hM8 hD8 hl8
        cases fr with
        | nil =>
          refine iteT ⟨_, rfl, L, _, rfl, .inl ⟨SqL.of hL8, fun t1 n1 => ⟨_, rfl, M, _, rfl, .inl ⟨SqL.of ((same_new n1) _ _ hM8), fun t2 n2 => ⟨(by decide : 2 ≤ sizeLine), fun p3 n3 => ?_⟩⟩⟩⟩⟩
          refine out H8 _ (ls ++ [l]) ms hP8 hL8 hM8 hl8 ⟨gl, g2, ?_, ?_, ?_⟩ t1 n1 t2 n2 p3 n3
          · rw [zip_snoc_left (by omega)]
            exact g3
          · rw [List.length_append, el, em]; rfl
          · rw [List.length_append, el]
            show i + 1 ≤ 4
            omega
        | cons f0 fr =>
          refine iteF ⟨_, rfl, M, _, rfl, hM8, _, rfl, _, rfl, n, D2, _, rfl, hP8.ok, .inl (SqL.of hD8), by simp, ?_, fun k x H9 hk hP9 => ?_⟩
          · rw [List.length_map]
            have : (f0 :: fr).length ≤ 3 := hle2
            omega
          · obtain ⟨z, hz, rfl⟩ : ∃ z, z ∈ f0 :: fr ∧ x = V.int z := by
              rw [List.getElem?_map] at hk
              cases e : (f0 :: fr)[k]? with
              | none => rw [e] at hk; cases hk
              | some z => rw [e] at hk; exact ⟨z, List.mem_of_getElem? e, (Option.some.inj hk).symm⟩
            have hM9 := hP9.lst hP8.ok hM8
            have hL9 := hP9.lst hP8.ok hL8
            refine ⟨_, hM9, len_lt_line (by rw [List.length_map]; omega), next _ _ ⟨⟨_, _, _, rfl⟩, (hP8.trans hP9).put hp nM', rs ++ [.ref t], ls ++ [l], ms ++ [z], ?_, ?_, ?_, ?_, ?_, gl, ?_, ?_⟩⟩
            · rw [upd_ne nML.symm]; exact hL9
            · rw [List.map_append]; exact upd_same
            · exact (hl8.mono fun b xs e => hP9.tup hP8.ok e).mono (tups_upd hM9)
            · rw [List.length_append, el]; rfl
            · rw [List.length_append, em]; rfl
            · exact forall_snoc g2 ⟨(hfr z hz).1.1, by have := (hfr z hz).1.2; exact this⟩
            · rw [List.zip_append (by omega)]
              exact forall_snoc g3 (hfr z hz).2
  · intro σ H2 ⟨⟨lap, lot0, free0, es⟩, hP2, rs, ls, ms, hL2, hM2, hl2, el, em, g1, g2, g3⟩
    subst es
    refine ⟨_, rfl, L, _, rfl, .inl ⟨SqL.of hL2, fun t1 n1 => ?_⟩⟩
    have s1 := same_new (o := .tup rs) n1
    have hrs := hl2.len
    refine ⟨_, rfl, M, _, rfl, .inl (SqL.of (s1 _ _ hM2)), _, rfl, L, _, rfl, .inl (SqL.of (s1 _ _ hL2)), rfl, _, rfl, ?_⟩
    rw [int_eq_dec, decide_eq_true (show (((ms.map V.int).length : Nat) : Int) = (rs.length : Nat) by rw [List.length_map]; omega)]
    refine iteT ⟨_, rfl, _, rfl, _, rfl, M, _, rfl, SqL.of (s1 _ _ hM2), fun c nc => ⟨c, _, rfl, .inl ⟨SqL.of upd_same, fun t2 n2 => ⟨(by decide : 2 ≤ sizeLine), fun p3 n3 => ?_⟩⟩⟩⟩
    have hcut : cutV (ms.map V.int) none (some (-1)) = ms.dropLast.map V.int := by rw [cut_init, List.map_dropLast]
    have sc := same_new (o := .lst (cutV (ms.map V.int) none (some (-1)))) nc
    have s2 := same_new (o := .tup (cutV (ms.map V.int) none (some (-1)))) n2
    have s3 := same_new (o := .tup [.ref t1, .ref t2]) n3
    have hlen : ms.length ≤ 4 ∧ 1 ≤ ms.length := by omega
    refine q ls ms.dropLast p3 _ ⟨g1, fun x hx => g2 x (List.dropLast_subset _ hx), fun p hp => g3 p (zip_dropLast hp), ?_, by omega⟩ ((((hP2.same s1).same sc).same s2).same s3) ?_
    · rw [List.length_dropLast]; omega
    · refine .tup (SqT.of upd_same) (.cons (.tup (xs := rs) (SqT.of (s3 _ _ (s2 _ _ (sc _ _ upd_same)))) ?_) (.cons (.tup (xs := ms.dropLast.map V.int) (SqT.of (s3 _ _ (by rw [hcut]; exact upd_same))) (dpAll_ints ms.dropLast)) .nil))
      exact (hl2.mono fun b xs e => s3 _ _ (s2 _ _ (sc _ _ (s1 _ _ e)))).dp
end
end K38

set_option Elab.async false
set_option linter.all false
set_option maxRecDepth 100000
set_option maxHeartbeats 4000000
namespace K38
open PySem PySem.Spec PyProof.Rows L2 Qk
section
variable {P : Program} {w : World} {K : PySem.W.Frag} {mg : Str → Option Value} {base : Heap}
theorem sc_law_places : FnScope ["row", "word", "places", "letter", "lots", "marks", "more", "place"] ["row", "word"] (defScope (top 50)) := ⟨rfl, rfl, rfl, by decide +kernel, rfl, by decide +kernel, by decide +kernel⟩
theorem c_law_places (T : Txt K mg) (D : Df K mg "_law_places" (defArgs (top 50)) (defBody (top 50)) (defScope (top 50))) : Cal P w K mg base 1 "_law_places" (spPlaces K) := by
  refine D.cal (ps := ["row", "word"]) (fun _ _ _ _ _ _ us hl => match us, hl with | [_, _], _ => rfl) sc_law_places (fun vs H Q E ⟨v, b, ls, ms, ws, e, _⟩ => by rw [e]; rfl) fun f cdv A outer s H vs Q E hr ⟨v, b, ls, ms, ws, e, hd, g, hw, q⟩ => ?_
  subst e
  refine ⟨_, (pss_cons (ps_asg (pv 0) (k_pgtup K (n := 2) rfl (pgs_cons (pg_name (i := 4) sc_law_places.nd rfl (Or.inr rfl)) (pgs_cons (pg_name (i := 5) sc_law_places.nd rfl (Or.inr rfl)) pgs_nil))))
    (pss_cons (ps_set (i := 2) sc_law_places.nd rfl (Or.inl rfl) (pe_lst (pa_cons pe_int pa_nil)))
    (pss_cons (ps_for PassesOwn.never rfl (k_pitup K (pv 1)) (pg_name (i := 3) sc_law_places.nd rfl (Or.inr rfl)) (pss_cons (ps_setLc (i := 6) (own := [("place", 7)]) rfl sc_law_places.nd rfl rfl (sw_true rfl rfl rfl (by decide +kernel)) (k_pilist K (pv 2)) (blkOk_by (N := ["row", "word", "places", "letter", "lots", "marks", "more", "place"]) (sc := defScope (top 50)) (by decide +kernel)) (fun _ _ _ _ _ => (pg_name (i := 7) sc_law_places.nd rfl (Or.inl rfl))) (fun _ _ _ _ _ => (pts_one (pt_cmpR (k_in K) (pv 3) (pe_ix (k_ixtup K) (pv 4) (pv 7) (fun _ _ => rfl)) (by first | exact nomark _ | rfl)))) (fun _ _ _ _ _ => (pv 7)))
    (pss_one (ps_set (i := 2) sc_law_places.nd rfl (Or.inl rfl) (pe_op op_cat (pv 6) (pe_lc (own := [("place", 7)]) rfl sc_law_places.nd (k_pilist K (pv 2)) (blkOk_by (N := ["row", "word", "places", "letter", "lots", "marks", "more", "place"]) (sc := defScope (top 50)) (by decide +kernel)) (fun _ _ _ _ _ => (pg_name (i := 7) sc_law_places.nd rfl (Or.inl rfl))) (fun _ _ _ _ _ => (pts_one (PW.pt (pw_and (pt_cmpR op_lt (pv 7) (pe_callB (k_len K) (by rfl) T.n_len (by decide +kernel) (pa_cons (pv 5) pa_nil)) (by first | exact nomark _ | rfl)) (pw_and1 (pt_cmpR op_eq (pe_ix (k_ixtup K) (pv 5) (pv 7) (fun _ _ => rfl)) (pv 3) (by first | exact nomark _ | rfl))))))) (fun _ _ _ _ _ => (pe_op op_add (pv 7) pe_int))))))))
    (pss_one (ps_ret (pv 2)))))), ?_⟩
  obtain ⟨r, l, m, rs, xs, rfl, h1, h2, h3, h4, h5⟩ := row_at hd
  have h6 := ints_of h5
  subst h6
  refine ⟨_, rfl, r, _, rfl, h1, rfl, _, _, rfl, _, _, rfl, rfl, (by decide : 1 ≤ sizeLine), fun D nD => ?_⟩
  have sD := same_new (o := .lst [.int 0]) nD
  have hDl : (upd H D (.lst [.int 0])) D = some (.lst ((placesV ls ms (ws.take 0)).map V.int)) := upd_same
  generalize upd H D (.lst [.int 0]) = H0 at sD hDl
  have hrl := dpAll_len h3
  rw [List.length_map] at hrl
  refine ⟨_, rfl, b, rfl, ⟨_, sqT_same sD hw⟩, forg (yl_tup (R := Same H) (fun H' s => sqT_same s hw)) (fun i σ H' => Same H H' ∧ ∃ (a : Addr) (x y : Option V), σ = [some (.ref r), some (.ref b), some (.ref a), x, some (.ref l), some (.ref m), y, none] ∧ H' a = some (.lst ((placesV ls ms (ws.take i)).map V.int))) ⟨sD, D, none, none, rfl, hDl⟩ (fun i σ H' h => h.1) ?_ ?_⟩
  · intro i x σ H2 H3 N hi ⟨hS, a, x0, y0, es, ha⟩ ⟨e3, hx⟩ next
    subst e3 es
    obtain ⟨z, hz, rfl⟩ := map_at hx
    have e1 := places_step g (ws.take i) z
    rw [← take_snoc hz] at e1
    have hnat := places_nat (ls := ls) (ms := ms) (ws := ws.take i)
    have hle := places_len (ls := ls) (ms := ms) (ws := ws.take i)
    generalize placesV ls ms (ws.take i) = cur at ha e1 hnat hle
    refine ⟨_, rfl, a, rfl, ⟨_, SqL.of ha⟩, fun D2 nD2 => ?_⟩
    refine lcg (D := D2) (H1 := H3) (yl_list (R := Same H3) (fun H' s => s.seq (SqL.of ha))) (by rw [List.length_map]; omega) (fun i acc => acc = ((cur.take i).filter (inLot ls z)).map V.int) (Same.refl _) rfl (fun H' o h => same_upd_new nD2 h) ?_ ?_
    · intro j x acc H4 H5 T' N' hj ea hR hD ⟨eH, ex⟩ cont skip
      subst eH ea
      obtain ⟨pz, hp, rfl⟩ := map_at ex
      obtain ⟨p, rfl, hple⟩ := hnat pz (List.mem_of_getElem? hp)
      obtain ⟨c, lot, ec, elot, hlot⟩ := lot_at (dpAll_same (same_trans hS hR) h3) (List.getElem?_eq_getElem (show p < rs.length by have := g.len; omega))
      have gl : ls.getD p [] = lot := by rw [List.getD_eq_getElem?_getD, elot]; rfl
      have at1 : atI rs (p : Nat) = some (.ref c) := by rw [← ec]; exact atI_nat (List.getElem?_eq_getElem (show p < rs.length by have := g.len; omega))
      have hfs := filter_snoc hp (inLot ls z)
      rw [inLot_nat, gl] at hfs
      refine ⟨rfl, _, rfl, _, rfl, _, rfl, l, _, _, _, rfl, rfl, sqT_same (same_trans hS hR) h2, at1, c, _, rfl, .inr hlot, rfl, flat_ints lot, _, rfl, ?_⟩
      show if inV (.int z) (lot.map V.int) = true then _ else _
      rw [inV_ints]
      by_cases hm : z ∈ lot
      · rw [decide_eq_true hm] at hfs ⊢
        refine iteT ⟨_, rfl, cont _ _ hR hD ?_⟩
        rw [hfs, List.map_append]
        rfl
      · rw [decide_eq_false hm] at hfs ⊢
        refine iteF (skip _ hR hD ?_)
        rw [hfs, List.map_append]
        exact (List.append_nil _).symm
    · intro H4 acc hR hD ea
      subst ea
      rw [List.length_map, List.take_length] at hD
      have hcur : H4 a = some (.lst (cur.map V.int)) := hR _ _ ha
      refine ⟨_, rfl, _, rfl, a, rfl, ⟨_, SqL.of hcur⟩, fun D3 nD3 => ?_⟩
      have hS4 : Same H H4 := same_trans hS hR
      refine lcg (D := D3) (H1 := H4) (yl_list (R := Same H4) (fun H' s => s.seq (SqL.of hcur))) (by rw [List.length_map]; omega) (fun i acc => acc = (((cur.take i).filter (atMark ms z)).map (· + 1)).map V.int) (Same.refl _) rfl (fun H' o h => same_upd_new nD3 h) ?_ ?_
      · intro j x acc H5 H6 T' N' hj ea hR5 hD5 ⟨eH, ex⟩ cont skip
        subst eH ea
        obtain ⟨pz, hp, rfl⟩ := map_at ex
        obtain ⟨p, rfl, hple⟩ := hnat pz (List.mem_of_getElem? hp)
        have hfs := filter_snoc hp (atMark ms z)
        have hm5 := sqT_same (same_trans hS4 hR5) h4
        rw [atMark_nat, Bool.decide_and] at hfs
        refine ⟨rfl, _, rfl, _, rfl, m, _, rfl, .inr hm5, _, _, rfl, rfl, _, rfl, ?_⟩
        rw [List.length_map]
        by_cases hlt : ((p : Nat) : Int) < (ms.length : Nat)
        · have hlt' : p < ms.length := by omega
          rw [decide_eq_true hlt', Bool.true_and] at hfs
          rw [decide_eq_true hlt]
          have gm : ms.getD p 0 = ms[p] := by rw [List.getD_eq_getElem?_getD, List.getElem?_eq_getElem hlt']; rfl
          have at2 : atI (ms.map V.int) (p : Nat) = some (.int ms[p]) := atI_nat (by rw [List.getElem?_map, List.getElem?_eq_getElem hlt']; rfl)
          refine iteT ⟨_, rfl, _, rfl, m, _, _, _, rfl, rfl, hm5, at2, _, rfl, rfl, _, rfl, ?_⟩
          rw [gm] at hfs
          rw [int_eq_dec]
          by_cases he : ms[p] = z
          · rw [decide_eq_true he] at hfs ⊢
            refine iteT ⟨_, rfl, _, _, rfl, rfl, cont _ _ hR5 hD5 ?_⟩
            rw [hfs, List.map_append, List.map_append]
            rfl
          · rw [decide_eq_false he] at hfs ⊢
            refine iteF (skip _ hR5 hD5 ?_)
            rw [hfs, List.map_append, List.map_append]
            exact (List.append_nil _).symm
        · rw [decide_eq_false (show ¬ p < ms.length by omega), Bool.false_and] at hfs
          rw [decide_eq_false hlt]
          refine iteF (iteF (skip _ hR5 hD5 ?_))
          rw [hfs, List.map_append, List.map_append]
          exact (List.append_nil _).symm
      · intro H5 acc hR5 hD5 ea
        subst ea
        rw [List.length_map, List.take_length] at hD5
        have hD4 := hR5 _ _ hD
        refine ⟨_, _, _, _, rfl, rfl, hD4, hD5, ?_, fun p np => ?_⟩
        · have h1 := List.length_filter_le (inLot ls z) cur
          have h2 := List.length_filter_le (atMark ms z) cur
          simp only [List.length_map]
          exact Nat.le_trans (Nat.add_le_add (Nat.le_trans h1 hle) (Nat.le_trans h2 hle)) (by decide)
        · refine next _ _ ⟨same_trans (same_trans hS4 hR5) (same_new np), p, _, _, rfl, ?_⟩
          rw [e1, List.map_append]
          exact upd_same
  · intro σ H2 ⟨hS, a, x, y, es, ha⟩
    subst es
    rw [List.length_map, List.take_length] at ha
    exact ⟨_, rfl, q a _ hS ha⟩
end
end K38

set_option Elab.async false
set_option linter.all false
set_option maxRecDepth 100000
set_option maxHeartbeats 4000000
namespace K38
open PySem PySem.Spec PyProof.Rows L2 Qk
section
variable {P : Program} {w : World} {K : PySem.W.Frag} {mg : Str → Option Value} {base : Heap}
theorem sc_law_read : FnScope ["pen", "row", "found", "lots", "marks", "at", "lot", "lap"] ["pen", "row"] (defScope (top 51)) := ⟨rfl, rfl, rfl, by decide +kernel, rfl, by decide +kernel, by decide +kernel⟩
theorem c_law_read (T : Txt K mg) (c_law_draw : Cal P w K mg base 1 "_law_draw" spDraw) (c_law_pick : Cal P w K mg base 2 "_law_pick" (spPick K)) (D : Df K mg "_law_read" (defArgs (top 51)) (defBody (top 51)) (defScope (top 51))) : Cal P w K mg base 3 "_law_read" (spRead K) := by
  refine D.cal (ps := ["pen", "row"]) (fun _ _ _ _ _ _ us hl => match us, hl with | [_, _], _ => rfl) sc_law_read (fun vs H Q E ⟨n, v, ls, ms, e, _⟩ => by rw [e]; rfl) fun f cdv A outer s H vs Q E hr ⟨n, v, ls, ms, e, hp, hd, g, q⟩ => ?_
  subst e
  refine ⟨_, (pss_cons (ps_asg (pv 1) (k_pgtup K (n := 2) rfl (pgs_cons (pg_name (i := 3) sc_law_read.nd rfl (Or.inl rfl)) (pgs_cons (pg_name (i := 4) sc_law_read.nd rfl (Or.inl rfl)) pgs_nil))))
    (pss_cons (ps_set (i := 2) sc_law_read.nd rfl (Or.inl rfl) (pe_tup pa_nil))
    (pss_cons (ps_for PassesOwn.never rfl (k_pienumT K (by rfl) T.n_enumerate (pa_cons (pv 3) pa_nil)) (k_pgtup K (n := 2) rfl (pgs_cons (pg_name (i := 5) sc_law_read.nd rfl (Or.inl rfl)) (pgs_cons (pg_name (i := 6) sc_law_read.nd rfl (Or.inr rfl)) pgs_nil))) (pss_cons (ps_set (i := 2) sc_law_read.nd rfl (Or.inl rfl) (pe_op (k_catA K) (pv 2) (pe_callTy (k_tuple K) (by rfl) T.n_tuple (by decide +kernel) (pa_cons (pe_lc (own := [("lap", 7)]) rfl sc_law_read.nd (pi_range1 rfl T.n_range (pa_cons (pe_k c_law_draw hr (by decide) (pa_cons (pv 0) (pa_cons pe_int pa_nil))) pa_nil)) (blkOk_by (N := ["pen", "row", "found", "lots", "marks", "at", "lot", "lap"]) (sc := defScope (top 51)) (by decide +kernel)) (fun _ _ _ _ _ => (pg_name (i := 7) sc_law_read.nd rfl (Or.inl rfl))) (fun _ _ _ _ _ => (pts_one (pt_cmpR (k_neD K hr.units) (pv 6) (pe_tup pa_nil) (by first | exact nomark _ | rfl)))) (fun _ _ _ _ _ => (pe_k c_law_pick hr (by decide) (pa_cons (pv 0) (pa_cons (pv 6) pa_nil))))) pa_nil))))
    (pss_one (ps_set (i := 2) sc_law_read.nd rfl (Or.inl rfl) (pe_op (k_catA K) (pv 2) (pe_slice (k_sltup K) (pv 4) (po_some (pv 5)) (po_some (pe_op op_add (pv 5) pe_int))))))))
    (pss_one (ps_ret (pv 2)))))), ?_⟩
  obtain ⟨r, l, m, rs, xs, rfl, h1, h2, h3, h4, h5⟩ := row_at hd
  have h6 := ints_of h5
  subst h6
  have hrl := dpAll_len h3
  rw [List.length_map] at hrl
  have glen := g.len
  have gfew := g.few
  refine ⟨_, rfl, r, _, rfl, h1, rfl, _, _, rfl, _, _, rfl, rfl, (by decide : 0 ≤ sizeLine), fun F nF => ?_⟩
  have sF := same_new (o := .tup []) nF
  have hF : SqT K (upd H F (.tup [])) F (([] : List Int).map V.int) := SqT.of upd_same
  generalize upd H F (.tup []) = H0 at sF hF
  have hP0 := Pen.of hp sF
  refine ⟨_, rfl, l, _, rfl, sqT_same sF h2, forg (yl_enumT (R := Pen n H) (fun H' h => h.seqT hp h2)) (fun i σ H' => Pen n H H' ∧ ∃ (F : Addr) (ws : List Int) (x y : Option V), σ = [some (.ref n.p), some (.ref r), some (.ref F), some (.ref l), some (.ref m), x, y, none] ∧ SqT K H' F (ws.map V.int) ∧ (∀ x ∈ ws, 0 ≤ x ∧ x < 3) ∧ ws.length ≤ 4 * i) ⟨hP0, F, [], none, none, rfl, hF, fun _ h => (nomatch h), Nat.le_refl _⟩ (fun i σ H' h => h.1) ?_ ?_⟩
  · intro i x σ H2 H3 N hi ⟨hP2, F2, ws, x0, y0, es, hF2, hw, hwl⟩ ⟨T2, y, ex, nT, eH, hy⟩ next
    subst es ex eH
    obtain ⟨c, lot, rfl, elot, hlot⟩ := lot_at h3 hy
    have glot := g.lots lot (List.mem_of_getElem? elot)
    have s3 := same_new (o := .tup [.int (i : Nat), .ref c]) nT
    refine ⟨T2, _, rfl, SqT.of upd_same, rfl, _, _, rfl, _, _, rfl, rfl, ?_⟩
    have hP3 := hP2.same s3
    have hF3 := sqT_same s3 hF2
    generalize upd H2 T2 (.tup [.int (i : Nat), .ref c]) = H3 at s3 hP3 hF3
    refine ⟨_, rfl, _, rfl, n, 3, rfl, hP3.ok, by decide, by decide, fun r' H4 q0 q1 hP4 => ⟨r', rfl, by omega, by omega, fun D nD => ?_⟩⟩
    have hP4' := hP3.trans hP4
    refine lcg (D := D) (H1 := H4) (yl_range (R := Pen n H4)) (by omega) (fun j acc => ∃ ns : List Int, acc = ns.map V.int ∧ ns.length ≤ j ∧ ∀ x ∈ ns, 0 ≤ x ∧ x < 3) (Pen.rfl' hP4.ok) ⟨[], rfl, Nat.le_refl _, fun _ h => (nomatch h)⟩ (fun H' o h => h.put hP4.ok nD) ?_ ?_
    · intro j x acc H5 H6 T' N' hj ⟨ns, ea, ew, hns⟩ hR hD ⟨eH, ex⟩ cont skip
      subst eH ex
      have hc := (hP4'.trans hR).seqT hp hlot
      refine ⟨rfl, _, rfl, (by decide : 0 ≤ sizeLine), fun p np => ⟨.tuple (lot.map .int), .tuple [], ?_, .tup (SqT.of upd_same) .nil, shaped_tup lot, shaped_tup [], _, rfl, ?_⟩⟩
      · exact .tup (sqT_same (same_new np) hc) (dpAll_ints lot)
      rw [eqv_tup_nil]
      have s7 := same_new (o := .tup []) np
      have hP7 := hR.same s7
      have hc7 := sqT_same s7 hc
      have hD7 := s7 _ _ hD
      generalize upd H6 p (.tup []) = H7 at hP7 hc7 hD7
      cases lot with
      | nil => exact iteF (skip _ hP7 hD7 ⟨ns, ea, Nat.le_succ_of_le ew, hns⟩)
      | cons l0 lr =>
        refine iteT ⟨_, rfl, _, rfl, n, c, _, rfl, hP7.ok, .inr hc7, by simp, ?_, fun k x H8 hk hP8 => ?_⟩
        · rw [List.length_map]
          have : (l0 :: lr).length ≤ 3 := glot.2.2
          omega
        · obtain ⟨z, hz, rfl⟩ := map_at hk
          refine cont _ _ (hP7.trans hP8) (hP8.lst hP7.ok hD7) ⟨ns ++ [z], ?_, ?_, forall_snoc hns (glot.1 z (List.mem_of_getElem? hz))⟩
          · rw [ea, List.map_append]; rfl
          · rw [List.length_append]; exact Nat.succ_le_succ ew
    · intro H5 acc hR hD ⟨ns, ea, ew, hns⟩
      subst ea
      refine ⟨D, _, rfl, .inl ⟨SqL.of hD, fun t nt => ?_⟩⟩
      have s6 := same_new (o := .tup (ns.map V.int)) nt
      have hP6 := (hP4.trans hR).same s6
      have ht6 : SqT K (upd H5 t (.tup (ns.map V.int))) t (ns.map V.int) := SqT.of upd_same
      generalize upd H5 t (.tup (ns.map V.int)) = H6 at s6 hP6 ht6
      have hF6 := hP6.seqT hP3.ok hF3
      have hl1 : ns.length ≤ 2 := by omega
      have hlr : ls.length = rs.length := hrl.symm
      refine cat_any hF6 ht6 (by rw [List.length_map, List.length_map]; omega) fun p7 H7 s7 hp7 => ?_
      have hP7 := hP6.same s7
      have hm7 := (hP3.trans hP7).seqT hp h4
      refine ⟨_, rfl, _, rfl, _, rfl, _, rfl, _, rfl, _, _, rfl, rfl, _, rfl, sl_any hm7 fun p8 H8 s8 hp8 => cat_any (sqT_same s8 hp7) hp8 ?_ fun p9 H9 s9 hp9 => ?_⟩
      · rw [cut_one, List.length_append, List.length_map, List.length_map]
        have := List.length_take_le 1 (List.drop i (ms.map V.int))
        omega
      · rw [cut_one] at hp9
        refine next _ _ ⟨(hP3.trans (hP7.same (same_trans s8 s9))), p9, ws ++ ns ++ (ms.drop i).take 1, _, _, rfl, ?_, ?_, ?_⟩
        · rw [List.map_append, List.map_append, List.map_take, List.map_drop]
          exact hp9
        · intro x hx
          rcases List.mem_append.mp hx with h | h
          · rcases List.mem_append.mp h with h | h
            · exact hw x h
            · exact hns x h
          · exact g.marks x (List.mem_of_mem_drop (List.mem_of_mem_take h))
        · rw [List.length_append, List.length_append]
          have := List.length_take_le 1 (List.drop i ms)
          omega
  · intro σ H2 ⟨hP2, F2, ws, x0, y0, es, hF2, hw, hwl⟩
    subst es
    exact ⟨_, rfl, q ws F2 _ hw (by omega) hP2 hF2⟩
end
end K38

set_option Elab.async false
set_option linter.all false
set_option maxRecDepth 100000
set_option maxHeartbeats 4000000
namespace K38
open PySem PySem.Spec PyProof.Rows L2 Qk
section
variable {P : Program} {w : World} {K : PySem.W.Frag} {mg : Str → Option Value} {base : Heap}
theorem bw {d : PyData} (h : wordD d 3 = false := by decide +kernel) (h1 : sm d = true := by decide +kernel) (h2 : d.bulk ≤ 1000 := by decide +kernel) (h3 : d.depth ≤ 60 := by decide +kernel) : BadW d := badW_of h h1 h2 h3
theorem sc_law_bad_word : FnScope ["pen", "letters"] ["pen", "letters"] (defScope (top 47)) := ⟨rfl, rfl, rfl, by decide +kernel, rfl, by decide +kernel, by decide +kernel⟩
theorem c_law_bad_word (T : Txt K mg) (c_law_pick : Cal P w K mg base 2 "_law_pick" (spPick K)) (D : Df K mg "_law_bad_word" (defArgs (top 47)) (defBody (top 47)) (defScope (top 47))) : Cal P w K mg base 3 "_law_bad_word" (spBadWord K) := by
  refine D.cal (ps := ["pen", "letters"]) (fun _ _ _ _ _ _ us hl => match us, hl with | [_, _], _ => rfl) sc_law_bad_word (fun vs H Q E ⟨n, e, _⟩ => by rw [e]; rfl) fun f cdv A outer s H vs Q E hr ⟨n, e, hp, q⟩ => ?_
  subst e
  refine ⟨_, (pss_one (ps_ret (pe_k c_law_pick hr (by decide) (pa_cons (pv 0) (pa_cons (pe_lst (pa_cons pe_non (pa_cons pe_int (pa_cons pe_str (pa_cons pe_bl (pa_cons (pe_tup (pa_cons (pv 1) pa_nil)) (pa_cons (pe_tup (pa_cons pe_int (pa_cons (pe_un un_neg pe_int) pa_nil))) (pa_cons (pe_tup (pa_cons pe_int (pa_cons pe_non pa_nil))) (pa_cons (pe_tup (pa_cons pe_bl pa_nil)) (pa_cons (pe_tup (pa_cons (pe_tup (pa_cons pe_int pa_nil)) pa_nil)) (pa_cons pe_dnewK (pa_cons (pe_op (k_repT K) (pe_tup (pa_cons pe_int pa_nil)) pe_int) (pa_cons (pe_tup (pa_cons pe_int (pa_cons pe_str pa_nil))) pa_nil))))))))))))) pa_nil))))), ?_⟩
  refine ⟨_, rfl, ?_⟩
  refine lst_cons (K := K) (p := BadW) (n := 12) (elsv_cons el_non.v bw <|
    elsv_cons (el_int 3).v bw <| elsv_cons (el_str "ab").v bw <| elsv_cons (el_bl true).v bw <|
    elsv_cons (el_tup (els_cons (el_var (i := 1) rfl (.int 3)) els_nil) (by decide)).v bw <|
    elsv_cons (el_tup (els_cons (el_int 0) (els_cons (el_neg 1) els_nil)) (by decide)).v bw <|
    elsv_cons (el_tup (els_cons (el_int 0) (els_cons el_non els_nil)) (by decide)).v bw <|
    elsv_cons (el_tup (els_cons (el_bl true) els_nil) (by decide)).v bw <|
    elsv_cons (el_tup (els_cons (el_tup (els_cons (el_int 0) els_nil) (by decide)) els_nil) (by decide)).v bw <|
    elsv_cons elv_d0 bw <|
    elsv_cons (el_rep (k := 401) (el_tup (els_cons (el_int 0) els_nil) (by decide)) (by decide) (by decide)).v bw <|
    elsv_cons (el_tup (els_cons (el_int 0) (els_cons (el_str "a") els_nil)) (by decide)).v bw elsv_nil) (by decide) fun p xs H2 s2 hp2 _ hn hb => ?_
  refine ⟨n, p, xs, rfl, hp.same s2, .inl (SqL.of hp2), by omega, by omega, fun i x H' hi hP => ?_⟩
  obtain ⟨d, h1, h2⟩ := hb x (List.mem_of_getElem? hi)
  exact q x d H' h2 ((Pen.of hp s2).trans hP) (hP.vd (hp.same s2) h1)
theorem br {d : PyData} (h : rowOk d = false := by decide +kernel) (h1 : sm d = true := by decide +kernel) (h2 : d.bulk ≤ 1000 := by decide +kernel) (h3 : d.depth ≤ 60 := by decide +kernel) : BadR d := badR_of h h1 h2 h3
theorem one_fit {x : PyData} (h1 : sm x = true := by decide +kernel) (h2 : x.bulk ≤ 10 := by decide +kernel) (h3 : x.depth ≤ 10 := by decide +kernel) : FitA [x] 11 10 := (FitA.cons ⟨h1, h2, h3⟩ (FitA.nil (n := 0))).mono (by omega) (by decide)
theorem sc_law_bad_rows : FnScope ["pen", "row", "some", "lots", "marks"] ["pen", "row"] (defScope (top 53)) := ⟨rfl, rfl, rfl, by decide +kernel, rfl, by decide +kernel, by decide +kernel⟩
theorem c_law_bad_rows (T : Txt K mg) (D : Df K mg "_law_bad_rows" (defArgs (top 53)) (defBody (top 53)) (defScope (top 53))) : Cal P w K mg base 1 "_law_bad_rows" (spBadRows K) := by
  refine D.cal (ps := ["pen", "row"]) (fun _ _ _ _ _ _ us hl => match us, hl with | [_, _], _ => rfl) sc_law_bad_rows (fun vs H Q E ⟨u, v, ls, ms, e, _⟩ => by rw [e]; rfl) fun f cdv A outer s H vs Q E hr ⟨u, v, ls, ms, e, hd, g, q⟩ => ?_
  subst e
  refine ⟨_, (pss_cons (ps_asg (pv 1) (k_pgtup K (n := 2) rfl (pgs_cons (pg_name (i := 3) sc_law_bad_rows.nd rfl (Or.inl rfl)) (pgs_cons (pg_name (i := 4) sc_law_bad_rows.nd rfl (Or.inl rfl)) pgs_nil))))
    (pss_cons (ps_set (i := 2) sc_law_bad_rows.nd rfl (Or.inl rfl) (pe_lst (pa_cons pe_non (pa_cons pe_int (pa_cons pe_str (pa_cons pe_bl (pa_cons (pe_tup pa_nil) (pa_cons (pe_tup (pa_cons (pv 3) pa_nil)) (pa_cons (pe_tup (pa_cons (pv 3) (pa_cons (pv 4) (pa_cons (pe_tup pa_nil) pa_nil)))) (pa_cons (pe_tup (pa_cons (pe_slice (k_sltup K) (pv 3) po_none (po_some (pe_un un_neg pe_int))) (pa_cons (pv 4) pa_nil))) (pa_cons (pe_tup (pa_cons (pv 3) (pa_cons (pe_op (k_catA K) (pv 4) (pe_tup (pa_cons pe_int pa_nil))) pa_nil))) (pa_cons (pe_tup (pa_cons (pe_op (k_catA K) (pv 3) (pe_tup (pa_cons (pe_tup pa_nil) pa_nil))) (pa_cons (pv 4) pa_nil))) (pa_cons pe_dnewK pa_nil)))))))))))))
    (pss_cons (ps_expr (pe_extend (pv 2) (pe_lst (pa_cons (pe_tup (pa_cons (pe_op (k_catA K) (pe_slice (k_sltup K) (pv 3) po_none (po_some (pe_un un_neg pe_int))) (pe_tup (pa_cons (pe_tup (pa_cons pe_int pa_nil)) pa_nil))) (pa_cons (pv 4) pa_nil))) (pa_cons (pe_tup (pa_cons (pe_op (k_catA K) (pe_slice (k_sltup K) (pv 3) po_none (po_some (pe_un un_neg pe_int))) (pe_tup (pa_cons (pe_tup (pa_cons pe_int (pa_cons pe_int pa_nil))) pa_nil))) (pa_cons (pv 4) pa_nil))) (pa_cons (pe_tup (pa_cons (pe_op (k_catA K) (pe_slice (k_sltup K) (pv 3) po_none (po_some (pe_un un_neg pe_int))) (pe_tup (pa_cons (pe_tup (pa_cons pe_int (pa_cons pe_int pa_nil))) pa_nil))) (pa_cons (pv 4) pa_nil))) (pa_cons (pe_tup (pa_cons (pe_op (k_catA K) (pe_slice (k_sltup K) (pv 3) po_none (po_some (pe_un un_neg pe_int))) (pe_tup (pa_cons (pe_tup (pa_cons pe_bl pa_nil)) pa_nil))) (pa_cons (pv 4) pa_nil))) pa_nil)))))))
    (pss_cons (ps_expr (pe_extend (pv 2) (pe_lst (pa_cons (pe_tup (pa_cons (pe_op (k_catA K) (pe_slice (k_sltup K) (pv 3) po_none (po_some (pe_un un_neg pe_int))) (pe_tup (pa_cons pe_non pa_nil))) (pa_cons (pv 4) pa_nil))) (pa_cons (pe_tup (pa_cons pe_str (pa_cons pe_str pa_nil))) (pa_cons (pe_tup (pa_cons (pe_op (k_repT K) (pe_tup (pa_cons (pe_tup pa_nil) pa_nil)) pe_int) (pa_cons (pe_op (k_repT K) (pe_tup (pa_cons pe_int pa_nil)) pe_int) pa_nil))) pa_nil))))))
    (pss_cons (ps_if (pt_cmpR (k_neD K hr.units) (pv 4) (pe_tup pa_nil) (by first | exact nomark _ | rfl)) (pss_one (ps_expr (pe_extend (pv 2) (pe_lst (pa_cons (pe_tup (pa_cons (pe_op (k_catA K) (pe_tup (pa_cons (pe_tupRg rfl rfl T.n_tuple (prg_1 rfl T.n_range pe_int)) pa_nil)) (pe_slice (k_sltup K) (pv 3) (po_some pe_int) po_none)) (pa_cons (pv 4) pa_nil))) (pa_cons (pe_tup (pa_cons (pv 3) (pa_cons (pe_op (k_catA K) (pe_tup (pa_cons pe_non pa_nil)) (pe_slice (k_sltup K) (pv 4) (po_some pe_int) po_none)) pa_nil))) (pa_cons (pe_tup (pa_cons (pv 3) (pa_cons (pe_op (k_catA K) (pe_tup (pa_cons pe_int pa_nil)) (pe_slice (k_sltup K) (pv 4) (po_some pe_int) po_none)) pa_nil))) (pa_cons (pe_tup (pa_cons (pv 3) (pa_cons (pe_op (k_catA K) (pe_tup (pa_cons pe_bl pa_nil)) (pe_slice (k_sltup K) (pv 4) (po_some pe_int) po_none)) pa_nil))) pa_nil)))))))) pss_nil)
    (pss_one (ps_ret (pv 2)))))))), ?_⟩
  obtain ⟨r, l, m, rs, xs, rfl, h1, h2, h3, h4, h5⟩ := row_at hd
  have hL : Dp K H (.ref l) (.tuple (ls.map lotT)) := .tup h2 h3
  have hM : Dp K H (.ref m) (.tuple (ms.map .int)) := .tup h4 h5
  have glen := g.len
  have gfew := g.few
  have nL : (ls.map lotT).length = ls.length := List.length_map _
  have nM : (ms.map PyData.int).length = ms.length := List.length_map _
  have nLi : (ls.map lotT).dropLast.length = ls.length - 1 := by rw [List.length_dropLast, nL]
  refine ⟨_, rfl, r, _, rfl, h1, rfl, _, _, rfl, _, _, rfl, rfl, ?_⟩
  have L3 : ∀ (o : Option V) (H1 : Hp), Same H H1 → El K (tVar 3) [some u, some (.ref r), o, some (.ref l), some (.ref m)] H1 (.tuple (ls.map lotT)) := fun o H1 s => el_var rfl (dp_same s hL)
  have L4 : ∀ (o : Option V) (H1 : Hp), Same H H1 → El K (tVar 4) [some u, some (.ref r), o, some (.ref l), some (.ref m)] H1 (.tuple (ms.map .int)) := fun o H1 s => el_var rfl (dp_same s hM)
  have s0 := Same.refl H
  have l1000 : ∀ {n : Nat}, n ≤ 100 → n ≤ 1000 := fun h => by omega
  refine seq_lst (K := K) (p := BadR) (n := 11) (elsv_cons el_non.v br <| elsv_cons (el_int 3).v br <| elsv_cons (el_str "row").v br <| elsv_cons (el_bl true).v br <|
    elsv_cons (el_tup els_nil (by decide)).v br <|
    elsv_cons (el_tup (els_cons (L3 _ _ s0) els_nil) (by simp)).v ⟨rfl, Fit.shows (Fit.tup (FitA.cons (Fit.tup g.fitL) (FitA.nil (n := 0)))) (by decide) (by decide)⟩ <|
    elsv_cons (el_tup (els_cons (L3 _ _ s0) (els_cons (L4 _ _ s0) (els_cons (el_tup els_nil (by decide)) els_nil))) (by simp)).v ⟨rfl, Fit.shows (Fit.tup (FitA.cons (Fit.tup g.fitL) (FitA.cons (Fit.tup g.fitM) ((one_fit (x := .tuple [])).mono (Nat.le_refl _) (by decide : 10 ≤ 11))))) (by decide) (by decide)⟩ <|
    elsv_cons (el_tup (els_cons (el_init (L3 _ _ s0)) (els_cons (L4 _ _ s0) els_nil)) (by simp)).v (bad_fit (no_len (by rw [nLi, nM]; omega)) g.fitLi g.fitM (by decide) (by decide)) <|
    elsv_cons (el_tup (els_cons (L3 _ _ s0) (els_cons (el_cat (L4 _ _ s0) (el_tup (els_cons (el_int 0) els_nil) (by decide)) (by simp; omega)) els_nil)) (by simp)).v (bad_fit (no_len (by rw [nL, List.length_append, nM]; show _ ≠ ms.length + 1 + 1; omega)) g.fitL (FitA.app one_fit g.fitM) (by decide) (by decide)) <|
    elsv_cons (el_tup (els_cons (el_cat (L3 _ _ s0) (el_tup (els_cons (el_tup els_nil (by decide)) els_nil) (by decide)) (by simp; omega)) (els_cons (L4 _ _ s0) els_nil)) (by simp)).v (bad_fit (no_len (by rw [nM, List.length_append, nL]; show ls.length + 1 ≠ _; omega)) (FitA.app one_fit g.fitL) g.fitM (by decide) (by decide)) <|
    elsv_cons elv_d0 br elsv_nil) (by decide) fun a xs H1 s1 ha hne hn hb => ?_
  have li1 : (ls.map lotT).dropLast.length + 1 ≤ 1000 := by rw [nLi]; omega
  have bs : ∀ d, BadR d → sm d = true := fun d h => h.2.sm
  have eq : ∀ o x, List.set ([some u, some (.ref r), o, some (.ref l), some (.ref m)] : Slots) 2 x = [some u, some (.ref r), x, some (.ref l), some (.ref m)] := fun o x => rfl
  have L3' := L3 (some (.ref a)) H1 s1
  have L4' := L4 (some (.ref a)) H1 s1
  refine seq_ext (K := K) (p := BadR) (n := 4) (a := a) (xs := xs) rfl ha (
    elsv_cons (el_tup (els_cons (el_cat (el_init L3') (el_tup (els_cons (el_tup (els_cons (el_int 3) els_nil) (by decide)) els_nil) (by decide)) li1) (els_cons L4' els_nil)) (by simp)).v (bad_fit (no_lot2 (x := .tuple [.int 3]) (by simp) (by decide +kernel)) (FitA.app one_fit g.fitLi) g.fitM (by decide) (by decide)) <|
    elsv_cons (el_tup (els_cons (el_cat (el_init L3') (el_tup (els_cons (el_tup (els_cons (el_int 1) (els_cons (el_int 0) els_nil)) (by decide)) els_nil) (by decide)) li1) (els_cons L4' els_nil)) (by simp)).v (bad_fit (no_lot2 (x := .tuple [.int 1, .int 0]) (by simp) (by decide +kernel)) (FitA.app one_fit g.fitLi) g.fitM (by decide) (by decide)) <|
    elsv_cons (el_tup (els_cons (el_cat (el_init L3') (el_tup (els_cons (el_tup (els_cons (el_int 0) (els_cons (el_int 0) els_nil)) (by decide)) els_nil) (by decide)) li1) (els_cons L4' els_nil)) (by simp)).v (bad_fit (no_lot2 (x := .tuple [.int 0, .int 0]) (by simp) (by decide +kernel)) (FitA.app one_fit g.fitLi) g.fitM (by decide) (by decide)) <|
    elsv_cons (el_tup (els_cons (el_cat (el_init L3') (el_tup (els_cons (el_tup (els_cons (el_bl true) els_nil) (by decide)) els_nil) (by decide)) li1) (els_cons L4' els_nil)) (by simp)).v (bad_fit (no_lot (x := .tuple [.bool true]) (by simp) (by decide +kernel)) (FitA.app one_fit g.fitLi) g.fitM (by decide) (by decide))
    elsv_nil) (by rw [hn]; decide) hb bs fun ys H2 k2 ha2 hn2 hb2 => ?_
  have s2 := k2 H hne s1
  have L3' := L3 (some (.ref a)) H2 s2
  have L4' := L4 (some (.ref a)) H2 s2
  refine seq_ext (K := K) (p := BadR) (n := 3) (a := a) (xs := ys) rfl ha2 (
    elsv_cons (el_tup (els_cons (el_cat (el_init L3') (el_tup (els_cons el_non els_nil) (by decide)) li1) (els_cons L4' els_nil)) (by simp)).v (bad_fit (no_lot (x := .none) (by simp) (by decide +kernel)) (FitA.app one_fit g.fitLi) g.fitM (by decide) (by decide)) <|
    elsv_cons (el_tup (els_cons (el_str "ab") (els_cons (el_str "a") els_nil)) (by decide)).v br <|
    elsv_cons (el_tup (els_cons (el_rep (k := 62) (el_tup (els_cons (el_tup els_nil (by decide)) els_nil) (by decide)) (by decide) (by decide)) (els_cons (el_rep (k := 61) (el_tup (els_cons (el_int 0) els_nil) (by decide)) (by decide) (by decide)) els_nil)) (by decide)).v br
    elsv_nil) (by rw [hn2, hn]; decide) hb2 bs fun zs H3 k3 ha3 hn3 hb3 => ?_
  have s3 := k3 H hne s2
  have L3' := L3 (some (.ref a)) H3 s3
  have L4' := L4 (some (.ref a)) H3 s3
  have n18 : zs.length = 18 := by rw [hn3, hn2, hn]
  refine ⟨_, rfl, (by decide : 0 ≤ sizeLine), fun p np => ⟨.tuple (ms.map .int), .tuple [], ?_, .tup (SqT.of upd_same) .nil, shaped_tup ms, shaped_tup [], _, rfl, ?_⟩⟩
  · exact dp_same (same_trans s3 (same_new np)) hM
  rw [eqv_tup_nil]
  have s4 := same_new (o := .tup []) np
  have s04 := same_trans s3 s4
  have ha4 := s4 _ _ ha3
  have hb4 := hb3.same s4
  generalize upd H3 p (.tup []) = H4 at s4 s04 ha4 hb4
  cases ms with
  | nil => exact iteF ⟨_, rfl, q a zs H4 s04 ha4 hb4 (by omega) (by omega)⟩
  | cons m0 mr =>
    have L3' := L3 (some (.ref a)) H4 s04
    have L4' := L4 (some (.ref a)) H4 s04
    have hm0 := g.marks m0 List.mem_cons_self
    have hm3 : m0 = 0 ∨ m0 = 1 ∨ m0 = 2 := by omega
    have lt1 : 1 + (ls.map lotT).tail.length ≤ 1000 := by rw [List.length_tail, nL]; omega
    have mt1 : 1 + ((m0 :: mr).map PyData.int).tail.length ≤ 1000 := by rw [List.length_tail, nM]; omega
    refine iteT (drop_ext (K := K) (p := BadR) (n := 4) (a := a) (xs := zs) rfl ha4 (
      elsv_cons (el_tup (els_cons (el_cat (el_tup (els_cons (el_range 3 (by decide)) els_nil) (by decide)) (el_tail L3') lt1) (els_cons L4' els_nil)) (by simp)).v (bad_fit (no_apart ?_) (FitA.app g.fitLt one_fit) g.fitM (by decide) (by decide)) <|
      elsv_cons (el_tup (els_cons L3' (els_cons (el_cat (el_tup (els_cons el_non els_nil) (by decide)) (el_tail L4') mt1) els_nil)) (by simp)).v (bad_fit (no_mark (x := .none) (by simp) rfl) g.fitL (FitA.app g.fitMt one_fit) (by decide) (by decide)) <|
      elsv_cons (el_tup (els_cons L3' (els_cons (el_cat (el_tup (els_cons (el_int 3) els_nil) (by decide)) (el_tail L4') mt1) els_nil)) (by simp)).v (bad_fit (no_mark (x := .int 3) (by simp) rfl) g.fitL (FitA.app g.fitMt one_fit) (by decide) (by decide)) <|
      elsv_cons (el_tup (els_cons L3' (els_cons (el_cat (el_tup (els_cons (el_bl true) els_nil) (by decide)) (el_tail L4') mt1) els_nil)) (by simp)).v (bad_fit (no_mark (x := .bool true) (by simp) rfl) g.fitL (FitA.app g.fitMt one_fit) (by decide) (by decide))
      elsv_nil) (by rw [n18]; decide) hb4 bs fun ws H5 k5 ha5 hn5 hb5 => ?_)
    · rcases hm3 with e | e | e <;> subst e <;> decide +kernel
    · exact ⟨_, rfl, q a ws H5 (k5 H hne s04) ha5 hb5 (by omega) (by omega)⟩
end
end K38

set_option Elab.async false
set_option linter.all false
set_option maxRecDepth 100000
set_option maxHeartbeats 4000000
namespace K38
open PySem PySem.Spec PyProof.Rows L2 Qk
section
variable {P : Program} {wo : World} {K : PySem.W.Frag} {mg : Str → Option Value} {base : Heap}
theorem sc_law_more_kinds : FnScope ["e", "found"] ["e"] (defScope (top 46)) := ⟨rfl, rfl, rfl, by decide +kernel, rfl, by decide +kernel, by decide +kernel⟩
theorem c_law_more_kinds (T : Txt K mg) (EK : ExK K mg) (D : Df K mg "_law_more_kinds" (defArgs (top 46)) (defBody (top 46)) (defScope (top 46))) : CalE P wo K mg base 1 "_law_more_kinds" (spMore K) := by
  refine D.calE (ps := ["e"]) (fun _ _ _ _ _ _ us hl => match us, hl with | [_], _ => rfl) sc_law_more_kinds (fun p vs H Q ⟨w, dd, fs, e, _⟩ => by rw [e]; rfl) fun f cdv A outer s H vs Q q hG hr ⟨w, dd, fs, e, o, hd, qq⟩ => ?_
  subst e
  have hq : q ∈ (L2H.cxH L2.CX0 P wo K mg base ["e", "found"] "_law_more_kinds" (defScope (top 46)) f cdv A outer s H L2.E0 q).nox.pn := List.mem_cons_self
  have hf := o.f
  have hu : (A.deeper (envOfC "_law_more_kinds" (defScope (top 46)) s.heap.objs.size f cdv)).units + 64 < cLine := by have := hr.un; omega
  refine ⟨_, (pss_cons (ps_set (i := 1) sc_law_more_kinds.nd rfl (Or.inl rfl) (pe_lst pa_nil))
    (pss_cons (ps_if (pt_val (pe_callB (call_isX hq ⟨rfl, rfl⟩ hf) (by rfl) T.n_isinstance (by decide +kernel) (pa_cons (pv 0) (pa_cons (C8.pe_gc rfl (EK.c "NoPlace")) pa_nil)))) (pss_one (ps_expr (pe_append (pv 1) (pe_tup (pa_cons pe_str (pa_cons (pe_xfX hq ⟨rfl, rfl⟩ hf (pv 0)) (pa_cons (pe_callB (k_repr K hG hu) (by rfl) T.n_repr (by decide +kernel) (pa_cons (pe_xfX hq ⟨rfl, rfl⟩ hf (pv 0)) pa_nil)) pa_nil))))))) pss_nil)
    (pss_cons (ps_if (pt_val (pe_callB (call_isX hq ⟨rfl, rfl⟩ hf) (by rfl) T.n_isinstance (by decide +kernel) (pa_cons (pv 0) (pa_cons (C8.pe_gc rfl (EK.c "NoName")) pa_nil)))) (pss_one (ps_expr (pe_append (pv 1) (pe_tup (pa_cons pe_str (pa_cons (pe_callB (k_repr K hG hu) (by rfl) T.n_repr (by decide +kernel) (pa_cons (pe_xfX hq ⟨rfl, rfl⟩ hf (pv 0)) pa_nil)) pa_nil)))))) pss_nil)
    (pss_cons (ps_if (pt_val (pe_callB (call_isX hq ⟨rfl, rfl⟩ hf) (by rfl) T.n_isinstance (by decide +kernel) (pa_cons (pv 0) (pa_cons (C8.pe_gc rfl (EK.c "TakenName")) pa_nil)))) (pss_one (ps_expr (pe_append (pv 1) (pe_tup (pa_cons pe_str (pa_cons (pe_callB (k_repr K hG hu) (by rfl) T.n_repr (by decide +kernel) (pa_cons (pe_xfX hq ⟨rfl, rfl⟩ hf (pv 0)) pa_nil)) pa_nil)))))) pss_nil)
    (pss_cons (ps_if (pt_val (pe_callB (call_isX hq ⟨rfl, rfl⟩ hf) (by rfl) T.n_isinstance (by decide +kernel) (pa_cons (pv 0) (pa_cons (C8.pe_gc rfl (EK.c "Unlike")) pa_nil)))) (pss_one (ps_expr (pe_append (pv 1) (pe_tup (pa_cons pe_str (pa_cons (pe_xfX hq ⟨rfl, rfl⟩ hf (pv 0)) pa_nil)))))) pss_nil)
    (pss_cons (ps_if (pt_val (pe_callB (call_isX hq ⟨rfl, rfl⟩ hf) (by rfl) T.n_isinstance (by decide +kernel) (pa_cons (pv 0) (pa_cons (C8.pe_gc rfl (EK.c "NotThere")) pa_nil)))) (pss_one (ps_expr (pe_append (pv 1) (pe_tup (pa_cons pe_str (pa_cons (pe_xfX hq ⟨rfl, rfl⟩ hf (pv 0)) pa_nil)))))) pss_nil)
    (pss_cons (ps_if (pt_val (pe_callB (call_isX hq ⟨rfl, rfl⟩ hf) (by rfl) T.n_isinstance (by decide +kernel) (pa_cons (pv 0) (pa_cons (C8.pe_gc rfl (EK.c "TooMany")) pa_nil)))) (pss_one (ps_expr (pe_append (pv 1) (pe_tup (pa_cons pe_str (pa_cons (pe_xfX hq ⟨rfl, rfl⟩ hf (pv 0)) (pa_cons (pe_xfX hq ⟨rfl, rfl⟩ hf (pv 0)) (pa_cons (pe_xfX hq ⟨rfl, rfl⟩ hf (pv 0)) pa_nil)))))))) pss_nil)
    (pss_cons (ps_if (pt_val (pe_callB (call_isX hq ⟨rfl, rfl⟩ hf) (by rfl) T.n_isinstance (by decide +kernel) (pa_cons (pv 0) (pa_cons (C8.pe_gc rfl (EK.c "NotKept")) pa_nil)))) (pss_one (ps_expr (pe_append (pv 1) (pe_tup (pa_cons pe_str (pa_cons (pe_xfX hq ⟨rfl, rfl⟩ hf (pv 0)) (pa_cons (pe_xfX hq ⟨rfl, rfl⟩ hf (pv 0)) pa_nil))))))) pss_nil)
    (pss_cons (ps_if (pt_val (pe_callB (call_isX hq ⟨rfl, rfl⟩ hf) (by rfl) T.n_isinstance (by decide +kernel) (pa_cons (pv 0) (pa_cons (C8.pe_gc rfl (EK.c "NothingToUndo")) pa_nil)))) (pss_one (ps_expr (pe_append (pv 1) (pe_tup (pa_cons pe_str pa_nil))))) pss_nil)
    (pss_cons (ps_if (pt_val (pe_callB (call_isX hq ⟨rfl, rfl⟩ hf) (by rfl) T.n_isinstance (by decide +kernel) (pa_cons (pv 0) (pa_cons (C8.pe_gc rfl (EK.c "NothingToRedo")) pa_nil)))) (pss_one (ps_expr (pe_append (pv 1) (pe_tup (pa_cons pe_str pa_nil))))) pss_nil)
    (pss_one (ps_ret (pv 1))))))))))))), ?_⟩
  refine ⟨(by decide : 0 ≤ sizeLine), fun l nl => ?_⟩
  have s0 := same_new (o := .lst []) nl
  have hd0 := s0 _ _ hd
  refine seq_no EK o hd0 "NoPlace" rfl bx_ne ?_
  refine seq_no EK o hd0 "NoName" rfl bx_ne ?_
  refine seq_no EK o hd0 "TakenName" rfl bx_ne ?_
  refine seq_no EK o hd0 "Unlike" rfl bx_ne ?_
  refine seq_no EK o hd0 "NotThere" rfl bx_ne ?_
  refine seq_no EK o hd0 "TooMany" rfl bx_ne ?_
  refine seq_no EK o hd0 "NotKept" rfl bx_ne ?_
  refine seq_no EK o hd0 "NothingToUndo" rfl bx_ne ?_
  refine seq_no EK o hd0 "NothingToRedo" rfl bx_ne ?_
  exact ⟨_, rfl, qq l _ s0 upd_same⟩
theorem sc_law_kinds : FnScope ["e", "found"] ["e"] (defScope (top 45)) := ⟨rfl, rfl, rfl, by decide +kernel, rfl, by decide +kernel, by decide +kernel⟩
theorem c_law_kinds (T : Txt K mg) (EK : ExK K mg) (c_law_more_kinds : CalE P wo K mg base 1 "_law_more_kinds" (spMore K)) (D : Df K mg "_law_kinds" (defArgs (top 45)) (defBody (top 45)) (defScope (top 45))) : CalE P wo K mg base 2 "_law_kinds" (spKinds K) := by
  refine D.calE (ps := ["e"]) (fun _ _ _ _ _ _ us hl => match us, hl with | [_], _ => rfl) sc_law_kinds (fun p vs H Q ⟨w, dd, v, dt, what, e, _⟩ => by rw [e]; rfl) fun f cdv A outer s H vs Q q hG hr ⟨w, dd, v, dt, what, e, o, hd, hv, sh, qq⟩ => ?_
  subst e
  have hq : q ∈ (L2H.cxH L2.CX0 P wo K mg base ["e", "found"] "_law_kinds" (defScope (top 45)) f cdv A outer s H L2.E0 q).nox.pn := List.mem_cons_self
  have hf := o.f
  have hu : (A.deeper (envOfC "_law_kinds" (defScope (top 45)) s.heap.objs.size f cdv)).units + 64 < cLine := by have := hr.un; omega
  refine ⟨_, (pss_cons (ps_set (i := 1) sc_law_kinds.nd rfl (Or.inl rfl) (pe_lst pa_nil))
    (pss_cons (ps_if (pt_val (pe_callB (call_isX hq ⟨rfl, rfl⟩ hf) (by rfl) T.n_isinstance (by decide +kernel) (pa_cons (pv 0) (pa_cons (C8.pe_gc rfl (EK.c "BadNumber")) pa_nil)))) (pss_one (ps_expr (pe_append (pv 1) (pe_tup (pa_cons pe_str (pa_cons (pe_xfX hq ⟨rfl, rfl⟩ hf (pv 0)) (pa_cons (pe_callB (k_repr K hG hu) (by rfl) T.n_repr (by decide +kernel) (pa_cons (pe_xfX hq ⟨rfl, rfl⟩ hf (pv 0)) pa_nil)) pa_nil))))))) pss_nil)
    (pss_cons (ps_if (pt_val (pe_callB (call_isX hq ⟨rfl, rfl⟩ hf) (by rfl) T.n_isinstance (by decide +kernel) (pa_cons (pv 0) (pa_cons (C8.pe_gc rfl (EK.c "BadRow")) pa_nil)))) (pss_one (ps_expr (pe_append (pv 1) (pe_tup (pa_cons pe_str (pa_cons (pe_xfX hq ⟨rfl, rfl⟩ hf (pv 0)) (pa_cons (pe_callB (k_repr K hG hu) (by rfl) T.n_repr (by decide +kernel) (pa_cons (pe_xfX hq ⟨rfl, rfl⟩ hf (pv 0)) pa_nil)) pa_nil))))))) pss_nil)
    (pss_cons (ps_if (pt_val (pe_callB (call_isX hq ⟨rfl, rfl⟩ hf) (by rfl) T.n_isinstance (by decide +kernel) (pa_cons (pv 0) (pa_cons (C8.pe_gc rfl (EK.c "BadWord")) pa_nil)))) (pss_one (ps_expr (pe_append (pv 1) (pe_tup (pa_cons pe_str (pa_cons (pe_xfX hq ⟨rfl, rfl⟩ hf (pv 0)) (pa_cons (pe_callB (k_repr K hG hu) (by rfl) T.n_repr (by decide +kernel) (pa_cons (pe_xfX hq ⟨rfl, rfl⟩ hf (pv 0)) pa_nil)) pa_nil))))))) pss_nil)
    (pss_cons (ps_if (pt_val (pe_callB (call_isX hq ⟨rfl, rfl⟩ hf) (by rfl) T.n_isinstance (by decide +kernel) (pa_cons (pv 0) (pa_cons (C8.pe_gc rfl (EK.c "BadPattern")) pa_nil)))) (pss_one (ps_expr (pe_append (pv 1) (pe_tup (pa_cons pe_str (pa_cons (pe_xfX hq ⟨rfl, rfl⟩ hf (pv 0)) pa_nil)))))) pss_nil)
    (pss_cons (ps_if (pt_val (pe_callB (call_isX hq ⟨rfl, rfl⟩ hf) (by rfl) T.n_isinstance (by decide +kernel) (pa_cons (pv 0) (pa_cons (C8.pe_gc rfl (EK.c "BadMachine")) pa_nil)))) (pss_one (ps_expr (pe_append (pv 1) (pe_tup (pa_cons pe_str (pa_cons (pe_xfX hq ⟨rfl, rfl⟩ hf (pv 0)) pa_nil)))))) pss_nil)
    (pss_cons (ps_if (pt_val (pe_callB (call_isX hq ⟨rfl, rfl⟩ hf) (by rfl) T.n_isinstance (by decide +kernel) (pa_cons (pv 0) (pa_cons (C8.pe_gc rfl (EK.c "BadTable")) pa_nil)))) (pss_one (ps_expr (pe_append (pv 1) (pe_tup (pa_cons pe_str (pa_cons (pe_xfX hq ⟨rfl, rfl⟩ hf (pv 0)) pa_nil)))))) pss_nil)
    (pss_cons (ps_if (pt_val (pe_callB (call_isX hq ⟨rfl, rfl⟩ hf) (by rfl) T.n_isinstance (by decide +kernel) (pa_cons (pv 0) (pa_cons (C8.pe_gc rfl (EK.c "BadKind")) pa_nil)))) (pss_one (ps_expr (pe_append (pv 1) (pe_tup (pa_cons pe_str (pa_cons (pe_callB (k_repr K hG hu) (by rfl) T.n_repr (by decide +kernel) (pa_cons (pe_xfX hq ⟨rfl, rfl⟩ hf (pv 0)) pa_nil)) pa_nil)))))) pss_nil)
    (pss_cons (ps_if (pt_val (pe_callB (call_isX hq ⟨rfl, rfl⟩ hf) (by rfl) T.n_isinstance (by decide +kernel) (pa_cons (pv 0) (pa_cons (C8.pe_gc rfl (EK.c "BadBook")) pa_nil)))) (pss_one (ps_expr (pe_append (pv 1) (pe_tup (pa_cons pe_str (pa_cons (pe_xfX hq ⟨rfl, rfl⟩ hf (pv 0)) pa_nil)))))) pss_nil)
    (pss_cons (ps_if (pt_val (pe_callB (call_isX hq ⟨rfl, rfl⟩ hf) (by rfl) T.n_isinstance (by decide +kernel) (pa_cons (pv 0) (pa_cons (C8.pe_gc rfl (EK.c "BadName")) pa_nil)))) (pss_one (ps_expr (pe_append (pv 1) (pe_tup (pa_cons pe_str (pa_cons (pe_callB (k_repr K hG hu) (by rfl) T.n_repr (by decide +kernel) (pa_cons (pe_xfX hq ⟨rfl, rfl⟩ hf (pv 0)) pa_nil)) pa_nil)))))) pss_nil)
    (pss_cons (ps_if (pt_val (pe_callB (call_isX hq ⟨rfl, rfl⟩ hf) (by rfl) T.n_isinstance (by decide +kernel) (pa_cons (pv 0) (pa_cons (C8.pe_gc rfl (EK.c "BadText")) pa_nil)))) (pss_one (ps_expr (pe_append (pv 1) (pe_tup (pa_cons pe_str (pa_cons (pe_xfX hq ⟨rfl, rfl⟩ hf (pv 0)) (pa_cons (pe_xfX hq ⟨rfl, rfl⟩ hf (pv 0)) pa_nil))))))) pss_nil)
    (pss_one (ps_ret (pe_op op_cat (pv 1) (pe_e c_law_more_kinds hG hr (by decide) hq (pa_cons (pv 0) pa_nil)))))))))))))))), ?_⟩
  refine ⟨(by decide : 0 ≤ sizeLine), fun l nl => ?_⟩
  have s0 := same_new (o := .lst []) nl
  have hd0 := s0 _ _ hd
  have hv0 := vd_same s0 hv
  have hl0 : (upd H l (.lst [])) l = some (.lst []) := upd_same
  have hend : ∀ (t : Addr) (H1 : Hp) (D1 : Ends), Same H H1 → H1 l = some (.lst [.ref t]) → H1 t = some (.tup [.str (Fx w), .str what, .str dt.shown]) → H1 dd = some (.xd [(Fx w, v), ("what", .str what)]) → D1.rt = Q →
    tRet (tOp rCat (tVar 1) (fun σ H Q => tCons (tVar 0) tNil σ H fun vs H1 => spMore K q vs H1 Q)) D1 [some (.ref q.1), some (.ref l)] H1 := fun t H1 D1 s1 hl ht hd1 eD => by
    refine ⟨_, rfl, _, rfl, w, dd, _, rfl, o, hd1, fun l2 H2 s2 hl2 => ⟨l, l2, _, _, rfl, rfl, s2 _ _ hl, hl2, (show 1 ≤ sizeLine by decide), fun p np => ?_⟩⟩
    show D1.rt _ _
    rw [eD]
    exact qq p t _ (same_trans (same_trans s1 s2) (same_new np)) upd_same ((same_new np) _ _ (s2 _ _ ht))
  generalize upd H l (.lst []) = H0 at s0 hd0 hv0 hl0
  have at_ : ∀ (t : Addr), H0 t = none → ∀ ys, Same H (upd (upd H0 t (.tup ys)) l (.lst ([] ++ [.ref t]))) ∧ (upd (upd H0 t (.tup ys)) l (.lst ([] ++ [.ref t]))) t = some (.tup ys) ∧ (upd (upd H0 t (.tup ys)) l (.lst ([] ++ [.ref t]))) dd = some (.xd [(Fx w, v), ("what", .str what)]) := fun t nt ys => by
    have n1 : t ≠ l := fun z => by rw [z, hl0] at nt; cases nt
    have n2 : dd ≠ l := fun z => by rw [z, hl0] at hd0; cases hd0
    refine ⟨same_upd_new nl (same_trans s0 (same_new nt)), ?_, ?_⟩
    · rw [upd_ne n1]; exact upd_same
    · rw [upd_ne n2]; exact (same_new nt) _ _ hd0
  refine seq_no EK o hd0 "BadNumber" rfl bx_ne ?_
  cases w with
  | false =>
    refine seq_yes EK o hd0 "BadRow" rfl rfl ?_
    refine ⟨_, rfl, l, _, rfl, hl0, ?_⟩
    refine ⟨_, rfl, rfl, _, dd, _, .str what, o.c, o.d, (EK.f false).E, (EK.f false).n1, hd0, look_what, _, rfl, rfl, _, dd, _, v, o.c, o.d, (EK.f false).E, (EK.f false).n2, hd0, look_fx (w := false), v, dt, rfl, hv0, sh.s, sh.dep, sh.z, (by decide : 3 ≤ sizeLine), fun t nt => ⟨[], (same_new nt) _ _ hl0, (by decide : 0 < sizeLine), ?_⟩⟩
    obtain ⟨a1, a2, a3⟩ := at_ t nt [.str "row", .str what, .str dt.shown]
    have a4 : (upd (upd H0 t (.tup [.str "row", .str what, .str dt.shown])) l (.lst ([] ++ [.ref t]))) l = some (.lst [.ref t]) := upd_same
    generalize upd (upd H0 t (.tup [.str "row", .str what, .str dt.shown])) l (.lst ([] ++ [.ref t])) = H5 at a1 a2 a3 a4
    dsimp only
    refine seq_no EK o a3 "BadWord" rfl (by decide +kernel) ?_
    refine seq_no EK o a3 "BadPattern" rfl (by decide +kernel) ?_
    refine seq_no EK o a3 "BadMachine" rfl (by decide +kernel) ?_
    refine seq_no EK o a3 "BadTable" rfl (by decide +kernel) ?_
    refine seq_no EK o a3 "BadKind" rfl (by decide +kernel) ?_
    refine seq_no EK o a3 "BadBook" rfl (by decide +kernel) ?_
    refine seq_no EK o a3 "BadName" rfl (by decide +kernel) ?_
    refine seq_no EK o a3 "BadText" rfl (by decide +kernel) ?_
    exact hend t H5 _ a1 a4 a2 a3 rfl
  | true =>
    refine seq_no EK o hd0 "BadRow" rfl (by decide +kernel) ?_
    refine seq_yes EK o hd0 "BadWord" rfl rfl ?_
    refine ⟨_, rfl, l, _, rfl, hl0, ?_⟩
    refine ⟨_, rfl, rfl, _, dd, _, .str what, o.c, o.d, (EK.f true).E, (EK.f true).n1, hd0, look_what, _, rfl, rfl, _, dd, _, v, o.c, o.d, (EK.f true).E, (EK.f true).n2, hd0, look_fx (w := true), v, dt, rfl, hv0, sh.s, sh.dep, sh.z, (by decide : 3 ≤ sizeLine), fun t nt => ⟨[], (same_new nt) _ _ hl0, (by decide : 0 < sizeLine), ?_⟩⟩
    obtain ⟨a1, a2, a3⟩ := at_ t nt [.str "word", .str what, .str dt.shown]
    have a4 : (upd (upd H0 t (.tup [.str "word", .str what, .str dt.shown])) l (.lst ([] ++ [.ref t]))) l = some (.lst [.ref t]) := upd_same
    generalize upd (upd H0 t (.tup [.str "word", .str what, .str dt.shown])) l (.lst ([] ++ [.ref t])) = H5 at a1 a2 a3 a4
    dsimp only
    refine seq_no EK o a3 "BadPattern" rfl (by decide +kernel) ?_
    refine seq_no EK o a3 "BadMachine" rfl (by decide +kernel) ?_
    refine seq_no EK o a3 "BadTable" rfl (by decide +kernel) ?_
    refine seq_no EK o a3 "BadKind" rfl (by decide +kernel) ?_
    refine seq_no EK o a3 "BadBook" rfl (by decide +kernel) ?_
    refine seq_no EK o a3 "BadName" rfl (by decide +kernel) ?_
    refine seq_no EK o a3 "BadText" rfl (by decide +kernel) ?_
    exact hend t H5 _ a1 a4 a2 a3 rfl
end
end K38

set_option Elab.async false
set_option linter.all false
set_option maxRecDepth 100000
set_option maxHeartbeats 4000000
namespace K38
open PySem PySem.Spec PyProof.Rows L2 Qk LamX
section
theorem sc_law_fault : FnScope ["call", "found", "e"] ["call"] (defScope (top 44)) := ⟨rfl, rfl, rfl, by decide +kernel, rfl, by decide +kernel, by decide +kernel⟩
def suiteOf (b : List Stmt) : List Stmt := match b with
  | [_, .Try _ [.ExceptHandler _ _ (x :: r) _] _ _ _, _] => x :: r
  | _ => []
theorem fault_gives {X : Cx} {g : Addr} {cdg : Value} {q : Str} (T : Txt X.K X.mg) (EK : ExK X.K X.mg) (ck : CalE X.prog X.w X.K X.mg X.base 2 "_law_kinds" (spKinds X.K)) (hG : X.A.guards = some []) (hr : Room 4 X.A) :
    GivesTo X ["call", "found", "e"] "_law_fault" (defScope (top 44)) g cdg (defBody (top 44)) "call" q (TTf X.K) := by
  intro f c' s H Q tl act hc h
  have rH : L2H.RoomH 3 (X.A.deeper (envOfC "_law_fault" (defScope (top 44)) s.heap.objs.size g cdg)) := L2H.roomH_of (hr.deeper _)
  have hsu : ∀ (a : Addr) (oe : Obj) (cls : Value) (d : Option Addr) (pn : List (Addr × Obj)), Zc cls d oe → (∃ vs, oe.data = .fields vs) →
      PSs ((cxOf C8.CX0 X.prog X.w X.K X.mg X.base ["call", "found", "e"] "_law_fault" (defScope (top 44)) g cdg X.A X.stack s H C8.E0).nox.suite a ((a, oe) :: pn)) (suiteOf (defBody (top 44))) (tsF X.K a cls d) := fun a oe cls d pn hz hf => by
    have hq : ((a, oe) : Addr × Obj) ∈ (a, oe) :: pn := List.mem_cons_self
    exact ps_tsF (pss_cons (ps_set (i := 1) sc_law_fault.nd rfl (Or.inl rfl) (pe_e (j := 3) ck hG (rM rH) (by decide) hq (pa_cons (pv 2) pa_nil)))
    (pss_one (ps_set (i := 1) sc_law_fault.nd rfl (Or.inl rfl) (pe_ifExp (PW.pt (pw_and (pt_cmpR op_eq (pe_callB (k_len X.K) (by rfl) T.n_len (by decide +kernel) (pa_cons (pv 1) pa_nil)) pe_int (by first | exact nomark _ | rfl)) (pw_and1 (pt_val (pe_callB (call_isX (q := (a, oe)) hq hz hf) (by rfl) T.n_isinstance (by decide +kernel) (pa_cons (pv 2) (pa_cons (pe_bltn (v := .ty "ValueError") (u := .type "ValueError") (by rfl) T.n_ValueError (by decide +kernel) rfl) pa_nil))))))) (pe_ix (k_ixlist X.K) (pv 1) pe_int (fun _ _ => rfl)) (pe_tup (pa_cons pe_str (pa_cons (pe_callB (k_len X.K) (by rfl) T.n_len (by decide +kernel) (pa_cons (pv 1) pa_nil)) pa_nil))))))) hz hf
  refine ⟨_, (pss_cons (ps_set (i := 1) sc_law_fault.nd rfl (Or.inl rfl) pe_non)
    (pss_cons (ps_try_as (i := 2) (c := .ref (He.ga X.K "KindsError")) (tb := tbF f c' q tl) (ts := tsF X.K) (Wout := fun _ _ _ _ => False) rfl rfl sc_law_fault.nd rfl rfl ⟨rfl, rfl, .inl EK.ke⟩ LamX.takes0 (fun W pn xe tk _ => ?_) hsu)
    (pss_one (ps_ret (pv 1))))), ?_⟩
  · refine ⟨fun pins s' σ H' D I h' => ?_⟩
    obtain ⟨Ech, hW, h1, h2, h3⟩ := h'
    exact (pss_one (ps_expr (act (fun cls d σ H => σ.length = 3 → W cls d σ H) pn xe Ech _ _ (takes_len tk) hW))).run pins s' σ H' D I ⟨h1, h2, h3⟩
  · exact ⟨_, read_fault EK (fun x y v H hQ => ⟨_, rfl, hQ⟩), rfl, hc, h⟩
end
end K38

set_option Elab.async false
set_option linter.all false
set_option maxRecDepth 100000
set_option maxHeartbeats 4000000
namespace K38
open PySem PySem.Spec PyProof.Rows L2 Qk LamX
section
variable {P : Program} {wo : World} {K : PySem.W.Frag} {mg : Str → Option Value} {base : Heap}
theorem sc_law_takes : FnScope ["row", "word"] ["row", "word"] (defScope (top 52)) := ⟨rfl, rfl, rfl, by decide +kernel, rfl, by decide +kernel, by decide +kernel⟩
def qL : Str := (envOfC "_law_takes" (defScope (top 52)) 0 0 .none).qual ++ "<lambda>"
abbrev TT0 (K : PySem.W.Frag) : List (Addr × Str) := tabT K "_law_takes" qL
def retOf (b : List Stmt) : Expr := match b with
  | [.Return (some e) _] => e
  | _ => .Constant .none 0 ⟨0, 0, 0, 0⟩
theorem c_law_takes (T : Txt K mg) (EK : ExK K mg) (ck : CalE P wo K mg base 2 "_law_kinds" (spKinds K)) (cr : Cal P wo K mg base 8 "row_takes" (spRowTakes K (He.ga K "BadRow") (He.ga K "BadWord"))) (DF : Df K mg "_law_fault" (defArgs (top 44)) (defBody (top 44)) (defScope (top 44)))
    (fd : FuncData) (D : FunD K "_law_takes" "_law_takes" (defArgs (top 52)) (defBody (top 52)) (defScope (top 52)) [] [] (He.ga K "_law_takes") fd) (gm : mg "_law_takes" = some (.ref (He.ga K "_law_takes")))
    (TB : TabB base mg (He.cT K ("_law_takes", none)).1 (He.cT K ("_law_takes", none)).2) : CalG P wo K mg base 12 "_law_takes" (spTk K (TT0 K)) := by
  refine ⟨He.ga K "_law_takes", fd, ["row", "word"], ⟨fun vs H Q E ⟨v, u, d, e, w, ev, _⟩ => by rw [ev]; rfl, fun A outer s H args us vs Q E hG hr e0 hb r hsp => ?_⟩, gm, D.kp, D.bindsN (ps := ["row", "word"]) (fun _ _ _ _ _ _ us hl => match us, hl with | [_, _], _ => rfl)⟩
  obtain ⟨oc, od, dV, kV, doc, pm, an, cdv, ct, osl, rfl, lk, hcd, _, _⟩ := D.ex
  obtain ⟨c, rfl⟩ := He.codeIn_ref hcd
  have ec : (He.cT K ("_law_takes", none)).1 = c := He.codeOf_eq (p := ("_law_takes", none)) lk rfl
  rw [ec] at TB
  obtain ⟨g, fdF, F, hmF⟩ := DF.ex
  obtain ⟨oc2, od2, dV2, kV2, doc2, pm2, an2, cdv2, ct2, osl2, rfl, lk2, hcd2, _, _⟩ := F.ex
  have hbF := F.bindsN (ps := ["call"]) (fun _ _ _ _ _ _ us hl => match us, hl with | [_], _ => rfl)
  obtain ⟨v, u, d, e, w, rfl, hv, hu, z1, z2, hT, c0, c1, q⟩ := hsp
  refine LamX.run_ofS (N := ["row", "word"]) lk hcd sc_law_takes hr e0 hb r rfl fun hr' => ?_
  have hp : PE (cxOf (L2.CX P wo) P wo K mg base ["row", "word"] "_law_takes" (defScope (top 52)) (He.ga K "_law_takes") (.ref c) A outer s H E) (retOf (defBody (top 52)))
      (tLam (TT0 K) (TTf K) fun E => tCallS (spRowTakes K (He.ga K "BadRow") (He.ga K "BadWord")) (WE fun cls d _ H => E cls d H) (tCons (tVar 0) (tCons (tVar 1) tNil))) := by
    refine pe_lamcall (X := cxOf (L2.CX P wo) P wo K mg base ["row", "word"] "_law_takes" (defScope (top 52)) (He.ga K "_law_takes") (.ref c) A outer s H E) (k := 8) (Ng := ["call", "found", "e"]) (a := "call") (P := (He.cT K ("_law_takes", none)).2)
      ?_ hmF F.kp lk2 hcd2 hbF sc_law_fault rfl (Or.inl rfl) ?_ TB rfl ?_ ?_ (hr'.mono (by decide)) ?_ ?_ ?_ ?_
    · rfl
    · exact fault_gives T EK ck hG (hr'.mono (by decide))
    · exact List.mem_cons_self
    · intro p hp _
      rw [List.mem_singleton.mp hp]
      rfl
    · exact lamS_by (show lamSB (defScope (top 52)) _ = true by decide +kernel)
    · rfl
    · intro _ _ _ _ _
      rfl
    · intro A2 outer2 s2 H2 E2 f2 c2 hr2
      exact pe_kx cr (takes_of rfl rfl rfl rfl) hr2 (by decide) (pa_cons (pv 0) (pa_cons (pv 1) pa_nil))
  refine ⟨_, pss_one (ps_ret hp), ?_⟩
  · refine ⟨hT, fun H1 x1 T1 => ?_⟩
    have hv1 := extN_vd x1 hv
    have hu1 := extN_vd x1 hu
    refine ⟨_, rfl, _, rfl, v, u, d, e, rfl, hv1, hu1, z1, z2, fun h1 h2 H2 s2 => ?_, fun h1 h2 dd H2 s2 e2 => ?_, fun h1 dd H2 s2 e2 => ?_⟩
    · cases w with
      | false => rw [(c0 rfl).1] at h1; cases h1
      | true => rw [(c1 rfl).2.1] at h2; cases h2
    · cases w with
      | false => rw [(c0 rfl).1] at h1; cases h1
      | true => exact ⟨true, dd, u, e, "word", rfl, rfl, e2, vd_same s2 hu1, (c1 rfl).2.2, fun t H3 s3 ht => q t H3 (x1.trans (extN_of (same_trans s2 s3))) (tabs_same (same_trans s2 s3) T1) ht⟩
    · cases w with
      | false => exact ⟨false, dd, v, d, "row", rfl, rfl, e2, vd_same s2 hv1, (c0 rfl).2, fun t H3 s3 ht => q t H3 (x1.trans (extN_of (same_trans s2 s3))) (tabs_same (same_trans s2 s3) T1) ht⟩
      | true => rw [(c1 rfl).1] at h1; cases h1
end
end K38

set_option Elab.async false
set_option linter.all false
set_option maxRecDepth 100000
set_option maxHeartbeats 4000000
namespace K38
open PySem PySem.Spec PyProof.Rows L2 Qk LamX
section
variable {P : Program} {wo : World} {K : PySem.W.Frag} {mg : Str → Option Value} {base : Heap}
def tTurn (K : PySem.W.Frag) : TS := tSeq (tAsg (tK (spPlaces K) (tCons (tVar 1) (tCons (tVar 2) tNil))) (gName 5))
  (tSeq
    (tIfS
      (tOr (tTest (tOp (rI0 fun i j => V.bl (decide (j < i))) (tCB (rLenK K) (tCons (tVar 5) tNil)) (tC (V.int 1))))
        (tNot (tB (tK spSays (tCons (tK (spRowTakes K (He.ga K "BadRow") (He.ga K "BadWord")) (tCons (tVar 1) (tCons (tVar 2) tNil))) (tCons (tOp (rIn K false) (tCB (rLenK K) (tCons (tVar 4) tNil)) (tVar 5)) tNil))))))
      (tRet (tC (V.bl false))) tNext)
    (tIfS
      (tNot (tB (tK spSays (tCons (tK (spRowTakes K (He.ga K "BadRow") (He.ga K "BadWord"))
        (tCons (tLst (tCons (tLc (fun σ H R => iList K (tVar 3) σ H R ∨ iTup K (tVar 3) σ H R) (gName 8) tYes (tCB (rListK K) (tCons (tVar 8) tNil)) [8]) (tCons (tCB (rListK K) (tCons (tVar 4) tNil)) tNil))) (tCons (tCB (rListK K) (tCons (tVar 2) tNil)) tNil)))
        (tCons (tOp (rIn K false) (tCB (rLenK K) (tCons (tVar 4) tNil)) (tVar 5)) tNil)))))
      (tRet (tC (V.bl false))) tNext))
theorem turn_ok {n : Pn} {a l m b : Addr} {ls : List (List Int)} {ms ws : List Int} {rs : List V} {y z : Option V} {H7 : Hp} {D : Ends} (g : GoodRow ls ms) (hd6 : Dp K H7 (.ref a) (rowD ls ms)) (h2 : SqT K H7 l rs) (h3 : DpAll K H7 rs (ls.map lotT)) (h4 : SqT K H7 m (ms.map V.int)) (hb6 : SqT K H7 b (ws.map V.int)) (hw : WordGood ws)
    (next : ∀ (y z : Option V) H', Same H7 H' → D.nx [some (.ref n.p), some (.ref a), some (.ref b), some (.ref l), some (.ref m), y, none, none, z] H') : tTurn K D [some (.ref n.p), some (.ref a), some (.ref b), some (.ref l), some (.ref m), y, none, none, z] H7 := by
  refine ⟨_, rfl, _, rfl, .ref a, b, ls, ms, ws, rfl, hd6, g, hb6, fun p H8 s8 hp => ?_⟩
  have hd8 := dp_same s8 hd6
  have hb8 := sqT_same s8 hb6
  have hle := places_len (ls := ls) (ms := ms) (ws := ws)
  have htk := places_takes (ls := ls) (ms := ms) (ws := ws)
  have hm8 := sqT_same s8 h4
  have e2 : (takesB ls ms ws == inV (.int ((ms.map V.int).length : Nat)) ((placesV ls ms ws).map V.int)) = true := by
    rw [inV_ints, List.length_map, htk]
    exact beq_self_eq_true _
  refine ⟨_, rfl, p, _, rfl, .inl (SqL.of hp), _, _, rfl, rfl, _, rfl, ?_⟩
  rw [List.length_map, decide_eq_false (show ¬ (1 : Int) < ((placesV ls ms ws).length : Nat) by omega)]
  have wz : (itemsD (.tuple (ws.map PyData.int))).length ≤ 1000 := by
    show (ws.map PyData.int).length ≤ 1000
    rw [List.length_map]; have := hw.2; omega
  refine iteF ⟨_, rfl, _, rfl, .ref a, .ref b, rowD ls ms, .tuple (ws.map .int), rfl, .dp hd8, .dp (.tup hb8 (dpAll_ints ws)), (by decide : 2 ≤ 1000), wz, fun k1 k2 H9 s9 => ?_, fun k1 k2 => ?_, fun k1 => ?_⟩
  rotate_left
  · rw [wordD_T hw] at k2; cases k2
  · rw [rowOk_D g] at k1; cases k1
  have e1 : takesB (lotsD (partD (rowD ls ms) 0)) (intsD (itemsD (partD (rowD ls ms) 1))) (intsD (itemsD (.tuple (ws.map .int)))) = takesB ls ms ws := by
    rw [lots_D, marks_D]
    show takesB ls ms (intsD (ws.map PyData.int)) = _
    rw [intsD_map]
  rw [e1]
  have hp9 := s9 _ _ hp
  have hm9 := sqT_same s9 hm8
  refine ⟨_, rfl, m, _, rfl, .inr hm9, _, rfl, p, _, rfl, .inl (SqL.of hp9), rfl, flat_ints _, _, _, rfl, _, rfl, ?_⟩
  show (if (!(takesB ls ms ws == inV (.int ((ms.map V.int).length : Nat)) ((placesV ls ms ws).map V.int))) = true then _ else _)
  rw [e2]
  refine iteF ?_
  dsimp only [tNext, tIfS, tNot, tB, tK, tCons, tLst]
  refine read_map_seq (K := K) (a := l) (xs := rs) (ds := ls.map lotT) (fun d => .list (itemsD d)) (fun R h => ⟨_, rfl, h⟩) (.inr (sqT_same s9 (sqT_same s8 h2))) (dpAll_same s9 (dpAll_same s8 h3)) (by rw [dpAll_len h3, List.length_map]; have := g.few; omega) ?_ (fun _ => rfl) ?_
  · intro x dx H10 hdx s10 hx T hT
    obtain ⟨l0, _, rfl⟩ := List.mem_map.mp hdx
    obtain ⟨c, zs, rfl, hc, hz⟩ := dp_tup hx
    have ez := ints_of hz
    subst ez
    refine ⟨_, rfl, c, _, rfl, .inr hc, fun q nq => hT _ _ (same_new nq) fun D1 n1 _ _ => ?_⟩
    have nqD : q ≠ D1 := fun e => n1 (by rw [← e]; exact nq)
    exact .lst (xs := l0.map V.int) (SqL.of (by rw [del_ne nqD]; exact upd_same)) (dpAll_ints l0)
  · intro D0 acc H10 s10 nD hD hacc
    have hm10 := sqT_same s10 hm9
    have hb10 := sqT_same s10 (sqT_same s9 hb8)
    refine ⟨_, rfl, m, _, rfl, .inr hm10, fun q nq => ⟨(show 2 ≤ sizeLine by decide), fun o no => ?_⟩⟩
    have sq := same_new (o := .lst (ms.map V.int)) nq
    have so := same_new (o := .lst [.ref D0, .ref q]) no
    refine ⟨_, rfl, b, _, rfl, .inr (sqT_same so (sqT_same sq hb10)), fun u nu => ?_⟩
    have su := same_new (o := .lst (ws.map V.int)) nu
    have s13 := same_trans (same_trans sq so) su
    have hrow : Dp K (upd (upd (upd H10 q (.lst (ms.map V.int))) o (.lst [.ref D0, .ref q])) u (.lst (ws.map V.int))) (.ref o) (rowL ls ms) := by
      refine .lst (SqL.of (su _ _ upd_same)) (.cons (.lst (SqL.of (s13 _ _ hD)) ?_) (.cons (.lst (SqL.of (su _ _ (so _ _ upd_same))) (dpAll_ints ms)) .nil))
      have e : ls.map lotL = (ls.map lotT).map fun d => .list (itemsD d) := by rw [List.map_map]; rfl
      rw [e]
      exact dpAll_same s13 (dpAll_same same_del hacc)
    have hword : Dp K (upd (upd (upd H10 q (.lst (ms.map V.int))) o (.lst [.ref D0, .ref q])) u (.lst (ws.map V.int))) (.ref u) (.list (ws.map .int)) := .lst (SqL.of upd_same) (dpAll_ints ws)
    refine ⟨.ref o, .ref u, rowL ls ms, .list (ws.map .int), rfl, .dp hrow, .dp hword, (show 2 ≤ 1000 by decide), wz, fun k3 k4 H14 s14 => ?_, fun k3 k4 => ?_, fun k3 => ?_⟩
    rotate_left
    · rw [wordD_L hw] at k4; cases k4
    · rw [rowOk_L g] at k3; cases k3
    have e3 : takesB (lotsD (partD (rowL ls ms) 0)) (intsD (itemsD (partD (rowL ls ms) 1))) (intsD (itemsD (.list (ws.map .int)))) = takesB ls ms ws := by
      rw [lots_L, marks_L]
      show takesB ls ms (intsD (ws.map PyData.int)) = _
      rw [intsD_map]
    rw [e3]
    have s9_14 : Same H9 H14 := same_trans (same_trans s10 s13) s14
    have hp14 := s9_14 _ _ hp9
    have hm14 := sqT_same s9_14 hm9
    refine ⟨_, rfl, m, _, rfl, .inr hm14, _, rfl, p, _, rfl, .inl (SqL.of hp14), rfl, flat_ints _, _, _, rfl, _, rfl, ?_⟩
    show (if (!(takesB ls ms ws == inV (.int ((ms.map V.int).length : Nat)) ((placesV ls ms ws).map V.int))) = true then _ else _)
    rw [e2]
    exact iteF (next _ _ _ (same_trans (same_trans s8 s9) s9_14))
end
end K38

set_option Elab.async false
set_option linter.all false
set_option maxRecDepth 100000
set_option maxHeartbeats 4000000
namespace K38
open PySem PySem.Spec PyProof.Rows L2 Qk LamX
section
variable {P : Program} {wo : World} {K : PySem.W.Frag} {mg : Str → Option Value} {base : Heap}
theorem sc_law_right : FnScope ["pen", "row", "word", "lots", "marks", "places", "bad", "odd", "lot"] ["pen"] (defScope (top 54)) := ⟨rfl, rfl, rfl, by decide +kernel, rfl, by decide +kernel, by decide +kernel⟩
theorem c_law_right (T : Txt K mg) (c_law_marks : Cal P wo K mg base 3 "_law_marks" (spMarks K)) (c_law_read : Cal P wo K mg base 3 "_law_read" (spRead K)) (c_law_word : Cal P wo K mg base 2 "_law_word" (spDrawWord K)) (c_law_places : Cal P wo K mg base 1 "_law_places" (spPlaces K))
    (c_row_takes : Cal P wo K mg base 8 "row_takes" (spRowTakes K (He.ga K "BadRow") (He.ga K "BadWord"))) (c_law_says : Cal P wo K mg base 1 "_law_says" spSays) (c_law_bad_word : Cal P wo K mg base 3 "_law_bad_word" (spBadWord K)) (c_law_bad_rows : Cal P wo K mg base 1 "_law_bad_rows" (spBadRows K)) (c_law_pick : Cal P wo K mg base 2 "_law_pick" (spPick K))
    (c_law_takes : CalG P wo K mg base 12 "_law_takes" (spTk K (TT0 K))) (D : Df K mg "_law_right" (defArgs (top 54)) (defBody (top 54)) (defScope (top 54))) : CalG P wo K mg base 13 "_law_right" (spTurn (TT0 K)) := by
  refine D.calG (ps := ["pen"]) (fun _ _ _ _ _ _ us hl => match us, hl with | [_], _ => rfl) sc_law_right (fun vs H Q E ⟨n, e, _⟩ => by rw [e]; rfl) fun f cdv A outer s H vs Q E hG hr ⟨n, e, hp, hT, q⟩ => ?_
  subst e
  refine ⟨_, (pss_cons (ps_set (i := 1) sc_law_right.nd rfl (Or.inl rfl) (pe_k c_law_marks hr (by decide) (pa_cons (pv 0) (pa_cons pe_int pa_nil))))
    (pss_cons (ps_asg (pv 1) (k_pgtup K (n := 2) rfl (pgs_cons (pg_name (i := 3) sc_law_right.nd rfl (Or.inl rfl)) (pgs_cons (pg_name (i := 4) sc_law_right.nd rfl (Or.inl rfl)) pgs_nil))))
    (pss_cons (ps_for PassesOwn.never rfl (k_pilist K (pe_lst (pa_cons (pe_k c_law_read hr (by decide) (pa_cons (pv 0) (pa_cons (pv 1) pa_nil))) (pa_cons (pe_k c_law_word hr (by decide) (pa_cons (pv 0) (pa_cons pe_int (pa_cons pe_int pa_nil)))) (pa_cons (pe_k c_law_word hr (by decide) (pa_cons (pv 0) (pa_cons pe_int (pa_cons pe_int pa_nil)))) (pa_cons (pe_tup pa_nil) pa_nil)))))) (pg_name (i := 2) sc_law_right.nd rfl (Or.inl rfl)) (pss_cons (ps_set (i := 5) sc_law_right.nd rfl (Or.inl rfl) (pe_k c_law_places hr (by decide) (pa_cons (pv 1) (pa_cons (pv 2) pa_nil))))
    (pss_cons (ps_if (PW.pt (pw_or (pt_cmpR op_gt (pe_callB (k_len K) (by rfl) T.n_len (by decide +kernel) (pa_cons (pv 5) pa_nil)) pe_int (by first | exact nomark _ | rfl)) (pw_or1 (pt_not (pt_val (pe_k c_law_says hr (by decide) (pa_cons (pe_k c_row_takes hr (by decide) (pa_cons (pv 1) (pa_cons (pv 2) pa_nil))) (pa_cons (pe_cmpR (k_in K) (pe_callB (k_len K) (by rfl) T.n_len (by decide +kernel) (pa_cons (pv 4) pa_nil)) (pv 5) (by first | exact nomark _ | rfl)) pa_nil)))))))) (pss_one (ps_ret pe_bl)) pss_nil)
    (pss_one (ps_if (pt_not (pt_val (pe_k c_law_says hr (by decide) (pa_cons (pe_k c_row_takes hr (by decide) (pa_cons (pe_lst (pa_cons (pe_lc (own := [("lot", 8)]) rfl sc_law_right.nd (k_piseq K (pv 3)) (blkOk_by (N := ["pen", "row", "word", "lots", "marks", "places", "bad", "odd", "lot"]) (sc := defScope (top 54)) (by decide +kernel)) (fun _ _ _ _ _ => (pg_name (i := 8) sc_law_right.nd rfl (Or.inl rfl))) (fun _ _ _ _ _ => pts_nil) (fun _ _ _ _ _ => (pe_callTy (k_list K) (by rfl) T.n_list (by decide +kernel) (pa_cons (pv 8) pa_nil)))) (pa_cons (pe_callTy (k_list K) (by rfl) T.n_list (by decide +kernel) (pa_cons (pv 4) pa_nil)) pa_nil))) (pa_cons (pe_callTy (k_list K) (by rfl) T.n_list (by decide +kernel) (pa_cons (pv 2) pa_nil)) pa_nil))) (pa_cons (pe_cmpR (k_in K) (pe_callB (k_len K) (by rfl) T.n_len (by decide +kernel) (pa_cons (pv 4) pa_nil)) (pv 5) (by first | exact nomark _ | rfl)) pa_nil))))) (pss_one (ps_ret pe_bl)) pss_nil)))))
    (pss_cons (ps_par (i := 6) (j := 7) rfl sc_law_right.nd rfl rfl (by decide) rfl rfl (pa_cons (pe_k c_law_bad_word hr (by decide) (pa_cons (pv 0) (pa_cons pe_int pa_nil))) (pa_cons (pe_k c_law_pick hr (by decide) (pa_cons (pv 0) (pa_cons (pe_k c_law_bad_rows hr (by decide) (pa_cons (pv 0) (pa_cons (pv 1) pa_nil))) pa_nil))) pa_nil)) (by rfl))
    (pss_one (ps_ret (pe_and (pe_cmpR (k_eqP K hr.units) (pe_g c_law_takes hG hr (by decide) (pa_cons (pv 1) (pa_cons (pv 6) pa_nil))) (pe_tup (pa_cons pe_str (pa_cons pe_str (pa_cons (pe_callB (k_repr K hG hr.units) (by rfl) T.n_repr (by decide +kernel) (pa_cons (pv 6) pa_nil)) pa_nil)))) (by first | exact nomark _ | rfl)) (pe_one (pe_cmpR (k_eqP K hr.units) (pe_g c_law_takes hG hr (by decide) (pa_cons (pv 7) (pa_cons pe_non pa_nil))) (pe_tup (pa_cons pe_str (pa_cons pe_str (pa_cons (pe_callB (k_repr K hG hr.units) (by rfl) T.n_repr (by decide +kernel) (pa_cons (pv 7) pa_nil)) pa_nil)))) (by first | exact nomark _ | rfl)))))))))), ?_⟩
  refine ⟨_, rfl, n, rfl, hp, fun ls ms a H1 g hP1 hd => ?_⟩
  obtain ⟨r, l, m, rs, xs, er, h1, h2, h3, h4, h5⟩ := row_at hd
  cases er
  have h6 := ints_of h5
  subst h6
  refine ⟨_, rfl, a, _, rfl, h1, rfl, _, _, rfl, _, _, rfl, rfl, ?_⟩
  have hok1 := hP1.ok
  refine ⟨_, rfl, _, rfl, n, .ref a, ls, ms, rfl, hok1, hd, g, fun w1 b1 H2 g1 n1 hP2 hb1 => ⟨_, rfl, n, 3, 6, rfl, hP2.ok, by decide, by decide, by decide, by decide, fun w2 b2 H3 g2 n2 hP3 hb2 =>
    ⟨_, rfl, n, 3, 3, rfl, hP3.ok, by decide, by decide, by decide, by decide, fun w3 b3 H4 g3 n3 hP4 hb3 => ⟨(by decide : 0 ≤ sizeLine), fun b4 nb4 => ⟨(by decide : 4 ≤ sizeLine), fun L nL => ?_⟩⟩⟩⟩⟩
  have s5 := same_new (o := .tup []) nb4
  have hb4 : (upd H4 b4 (.tup [])) b4 = some (.tup []) := upd_same
  have sL := same_new (o := .lst [.ref b1, .ref b2, .ref b3, .ref b4]) nL
  have hP14 : Pen n H1 (upd (upd H4 b4 (.tup [])) L (.lst [.ref b1, .ref b2, .ref b3, .ref b4])) := (((hP2.trans hP3).trans hP4).same s5).same sL
  have hws : WordsAt K (upd (upd H4 b4 (.tup [])) L (.lst [.ref b1, .ref b2, .ref b3, .ref b4])) [.ref b1, .ref b2, .ref b3, .ref b4] := fun x hx => by
    simp only [List.mem_cons, List.not_mem_nil, or_false] at hx
    rcases hx with rfl | rfl | rfl | rfl
    · exact ⟨b1, w1, rfl, sqT_same sL (sqT_same s5 (hP4.seqT hP3.ok (hP3.seqT hP2.ok hb1))), g1, n1⟩
    · exact ⟨b2, w2, rfl, sqT_same sL (sqT_same s5 (hP4.seqT hP3.ok (SqT.of hb2))), g2, by omega⟩
    · exact ⟨b3, w3, rfl, sqT_same sL (sqT_same s5 (SqT.of hb3)), g3, by omega⟩
    · exact ⟨b4, [], rfl, SqT.of (sL _ _ hb4), fun _ h => (nomatch h), Nat.zero_le _⟩
  have hL5 : (upd (upd H4 b4 (.tup [])) L (.lst [.ref b1, .ref b2, .ref b3, .ref b4])) L = some (.lst [.ref b1, .ref b2, .ref b3, .ref b4]) := upd_same
  generalize upd (upd H4 b4 (.tup [])) L (.lst [.ref b1, .ref b2, .ref b3, .ref b4]) = H5 at hP14 hws hL5
  have hd5 := hP14.dp hok1 hd
  have g2' := hP14.seqT hok1 h2
  have g3' := hP14.dps hok1 h3
  have g4' := hP14.seqT hok1 h4
  generalize hxs : [V.ref b1, V.ref b2, V.ref b3, V.ref b4] = xs at hws hL5
  have hxl : xs.length = 4 := by rw [← hxs]; rfl
  clear hxs hb1 hb2 hb3 hb4 s5 sL hP2 hP3 hP4 nb4 nL g1 g2 g3 n1 n2 n3
  refine ⟨L, rfl, ⟨_, SqL.of hL5⟩, forg (yl_list (R := Same H5) (fun H' s => SqL.of (s _ _ hL5))) (fun i σ H' => Same H5 H' ∧ ∃ (x y z : Option V), σ = [some (.ref n.p), some (.ref a), x, some (.ref l), some (.ref m), y, none, none, z]) ⟨Same.refl _, none, none, none, rfl⟩ (fun i σ H' h => h.1) ?_ ?_⟩
  · intro i x σ H6 H7 N hi ⟨hS, x0, y0, z0, es⟩ ⟨eH, hx⟩ next
    subst eH es
    obtain ⟨b, ws, rfl, hb, hw⟩ := hws x (List.mem_of_getElem? hx)
    exact turn_ok (D := _) g (dp_same hS hd5) (sqT_same hS g2') (dpAll_same hS g3') (sqT_same hS g4') (sqT_same hS hb) hw fun y z H' s' => next _ _ ⟨same_trans hS s', _, _, _, rfl⟩
  · intro σ H6 ⟨hS, x0, y0, z0, es⟩
    subst es
    have hok6 := hP14.ok.same hS
    have hd6 := dp_same hS hd5
    have hT6 : Tabs (TT0 K) H6 := tabs_same hS (tabs_pen hP14 hok1 (tabs_pen hP1 hp hT))
    refine ⟨_, rfl, n, rfl, hok6, fun v d H7 hb hP7 hv => ?_⟩
    have hok7 := hP7.ok
    have hd7 := hP7.dp hok6 hd6
    have hT7 := tabs_pen hP7 hok6 hT6
    refine ⟨_, rfl, _, rfl, _, rfl, .ref n.p, .ref a, ls, ms, rfl, hd7, g, fun Lb ys H8 s8 hLb hys y0' y1 => ?_⟩
    have hok8 := hok7.same s8
    refine ⟨n, Lb, ys, rfl, hok8, .inl (SqL.of hLb), y0', by omega, fun i u H9 hi hP9 => ⟨_, _, rfl, ?_⟩⟩
    obtain ⟨du, hu8, hbu⟩ := hys u (List.mem_of_getElem? hi)
    have hu9 := hP9.vd hok8 hu8
    have hv9 := hP9.vd hok8 (vd_same s8 hv)
    have hd9 := hP9.dp hok8 (dp_same s8 hd7)
    have hT9 := tabs_pen hP9 hok8 (tabs_same s8 hT7)
    have hok9 := hP9.ok
    refine ⟨_, rfl, _, rfl, .ref a, v, rowD ls ms, d, true, rfl, .dp hd9, hv9, (by decide : 2 ≤ 1000), hb.2.n, hT9, fun e => (by cases e), fun _ => ⟨rowOk_D g, hb.1, hb.2⟩, fun t1 H10 x10 T10 ht1 => ?_⟩
    have hv10 := extN_vd x10 hv9
    refine ⟨_, rfl, v, d, rfl, hv10, hb.2.s, hb.2.dep, hb.2.z, (by decide : 3 ≤ sizeLine), fun p1 np1 => ?_⟩
    have s11 := same_new (o := .tup [.str "word", .str "word", .str d.shown]) np1
    refine told_eq "word" "word" d.shown (s11 _ _ ht1) upd_same ⟨_, rfl, iteT ?_⟩
    have x11 := x10.trans (extN_of s11)
    have T11 := tabs_same s11 T10
    generalize upd H10 p1 (.tup [.str "word", .str "word", .str d.shown]) = H11 at x11 T11
    have hu11 := extN_vd x11 hu9
    refine ⟨_, rfl, u, .non, du, .none, false, rfl, hu11, .dp .non, hbu.2.n, (by decide : 0 ≤ 1000), T11, fun _ => hbu, fun e => (by cases e), fun t2 H12 x12 T12 ht2 => ?_⟩
    have hu12 := extN_vd x12 hu11
    refine ⟨_, rfl, u, du, rfl, hu12, hbu.2.s, hbu.2.dep, hbu.2.z, (by decide : 3 ≤ sizeLine), fun p2 np2 => ?_⟩
    have s13 := same_new (o := .tup [.str "row", .str "row", .str du.shown]) np2
    exact told_eq "row" "row" du.shown (s13 _ _ ht2) upd_same (q _ ((extN_pen (x11.trans x12) hok9).same s13) (tabs_same s13 T12))
end
end K38

set_option Elab.async false
set_option linter.all false
set_option maxRecDepth 100000
set_option maxHeartbeats 4000000
namespace K38
open PySem PySem.Spec PyProof.Rows L2 Qk LamX
section
variable {P : Program} {wo : World} {K : PySem.W.Frag} {mg : Str → Option Value} {base : Heap}
def longD : PyData := .tuple [.tuple (List.replicate (61 : Int).toNat (.tuple [])), .tuple (List.replicate (60 : Int).toNat (.int 0))]
def zeroD (k : Int) : PyData := .tuple (List.replicate k.toNat (.int 0))
theorem long_ok : rowOk longD = true := by decide +kernel
theorem zero60 : wordD (zeroD 60) 3 = true := by decide +kernel
theorem zero61 : wordD (zeroD 61) 3 = true := by decide +kernel
theorem long60 : takesB (lotsD (partD longD 0)) (intsD (itemsD (partD longD 1))) (intsD (itemsD (zeroD 60))) = true := by decide +kernel
theorem long61 : takesB (lotsD (partD longD 0)) (intsD (itemsD (partD longD 1))) (intsD (itemsD (zeroD 61))) = false := by decide +kernel
def spLaw (K : PySem.W.Frag) (T : List (Addr × Str)) : Sp := fun vs H Q _ => ∃ (a : Addr) (ns : List Int), vs = [.ref a] ∧ SqL K H a (ns.map V.int) ∧ Tabs T H ∧ ∀ H', Q (.bl true) H'
theorem sc_law : FnScope ["script", "pen", "lap", "long"] ["script"] (defScope (top 55)) := ⟨rfl, rfl, rfl, by decide +kernel, rfl, by decide +kernel, by decide +kernel⟩
theorem c_law (T : Txt K mg) (c_law_pen : Cal P wo K mg base 1 "_law_pen" (spPen K)) (c_law_right : CalG P wo K mg base 13 "_law_right" (spTurn (TT0 K))) (c_row_takes : Cal P wo K mg base 8 "row_takes" (spRowTakes K (He.ga K "BadRow") (He.ga K "BadWord")))
    {f : Addr} {fd : FuncData} (F : FunD K "law" "law" (defArgs (top 55)) (defBody (top 55)) (defScope (top 55)) [] [] f fd) : FnG P wo K mg base 14 f fd ["script"] (spLaw K (TT0 K)) := by
  refine fnG_of F sc_law (fun vs H Q E ⟨a, ns, e, _⟩ => by rw [e]; rfl) fun cdv A outer s H vs Q E hG hr ⟨a, ns, e, hs, hT, q⟩ => ?_
  subst e
  refine ⟨_, (pss_cons (ps_set (i := 1) sc_law.nd rfl (Or.inl rfl) (pe_k c_law_pen hr (by decide) (pa_cons (pv 0) pa_nil)))
    (pss_cons (ps_for PassesOwn.never rfl (pi_range1 rfl T.n_range (pa_cons pe_int pa_nil)) (pg_name (i := 2) sc_law.nd rfl (Or.inl rfl)) (pss_one (ps_if (pt_not (pt_val (pe_g c_law_right hG hr (by decide) (pa_cons (pv 1) pa_nil)))) (pss_one (ps_ret pe_bl)) pss_nil)))
    (pss_cons (ps_set (i := 3) sc_law.nd rfl (Or.inl rfl) (pe_tup (pa_cons (pe_op (k_repT K) (pe_tup (pa_cons (pe_tup pa_nil) pa_nil)) pe_int) (pa_cons (pe_op (k_repT K) (pe_tup (pa_cons pe_int pa_nil)) pe_int) pa_nil))))
    (pss_one (ps_ret (pe_and (pe_cmpR op_is_bl (pe_k c_row_takes hr (by decide) (pa_cons (pv 3) (pa_cons (pe_op (k_repT K) (pe_tup (pa_cons pe_int pa_nil)) pe_int) pa_nil))) pe_bl (by first | exact nomark _ | rfl)) (pe_one (pe_cmpR op_is_bl (pe_k c_row_takes hr (by decide) (pa_cons (pv 3) (pa_cons (pe_op (k_repT K) (pe_tup (pa_cons pe_int pa_nil)) pe_int) pa_nil))) pe_bl (by first | exact nomark _ | rfl))))))))), ?_⟩
  refine ⟨_, rfl, a, ns, rfl, hs, fun n H1 s1 hp1 => ?_⟩
  have hT1 := tabs_same s1 hT
  refine ⟨8, rfl, by decide, by decide, ?_⟩
  refine forg (yl_range (R := fun _ => True)) (fun i σ H' => (∃ x, σ = [some (.ref a), some (.ref n.p), x, none]) ∧ PenOk n H' ∧ Tabs (TT0 K) H') ⟨⟨none, rfl⟩, hp1, hT1⟩ (fun _ _ _ _ => True.intro) ?_ ?_
  · intro i x σ H2 H3 N hi ⟨⟨x0, es⟩, hp2, hT2⟩ ⟨eH, ex⟩ next
    subst eH ex es
    exact ⟨_, rfl, n, rfl, hp2, hT2, fun H4 hp4 hT4 => ⟨_, rfl, iteF (next _ _ ⟨⟨_, rfl⟩, hp4, hT4⟩)⟩⟩
  · intro σ H2 ⟨⟨x0, es⟩, hp2, hT2⟩
    subst es
    have z1 : ∀ (σ : Slots) (H : Hp), El K (tTup (tCons (tC (.int 0)) tNil)) σ H (.tuple [.int 0]) := fun σ H => el_tup (els_cons (el_int 0) els_nil) (by decide)
    refine seq_el (K := K) (d := longD) (el_tup (els_cons (el_rep (k := 61) (el_tup (els_cons (el_tup els_nil (by decide)) els_nil) (by decide)) (by decide) (by decide)) (els_cons (el_rep (k := 60) (z1 _ _) (by decide) (by decide)) els_nil)) (by decide)) fun v H3 s3 hv => ?_
    refine ⟨_, rfl, cons_el (K := K) (d := zeroD 60) (el_rep (k := 60) (z1 _ _) (by decide) (by decide)) fun u H4 s4 hu => ?_⟩
    have hv4 := dp_same s4 hv
    refine ⟨v, u, longD, zeroD 60, rfl, .dp hv4, .dp hu, by decide +kernel, by decide +kernel, fun _ _ H5 s5 => ?_, fun _ h => ?_, fun h => ?_⟩
    rotate_left
    · rw [zero60] at h; cases h
    · rw [long_ok] at h; cases h
    rw [long60]
    refine ⟨_, _, rfl, rfl, _, rfl, iteT ?_⟩
    refine ⟨_, rfl, cons_el (K := K) (d := zeroD 61) (el_rep (k := 61) (z1 _ _) (by decide) (by decide)) fun u2 H6 s6 hu2 => ?_⟩
    have hv6 := dp_same s6 (dp_same s5 hv4)
    refine ⟨v, u2, longD, zeroD 61, rfl, .dp hv6, .dp hu2, by decide +kernel, by decide +kernel, fun _ _ H7 s7 => ?_, fun _ h => ?_, fun h => ?_⟩
    rotate_left
    · rw [zero61] at h; cases h
    · rw [long_ok] at h; cases h
    rw [long61]
    exact ⟨_, _, rfl, rfl, q _⟩
end
end K38

set_option Elab.async false
set_option linter.all false
set_option maxRecDepth 100000
set_option maxHeartbeats 0
namespace K38
open PySem PySem.Spec PyProof.Rows L2 Qk LamX
/-! ### the head -/
abbrev R : PySem.W.OpenRow := PySem.W.OpenLaw.row PySem.Challenge.rw_sayingkinds_k38_whole_rows_and_words
def dfn (x : Str) (i : Nat) : He.DefD := ⟨(x, none), x, x, defArgs (top i), defBody (top i), defScope (top i), [], []⟩
def din (x q : Str) (i : Nat) : He.DefD := ⟨(x, some "__init__"), "__init__", q, defArgs (inClass (top i) 0), defBody (inClass (top i) 0), defScope (inClass (top i) 0), [], []⟩

def fn : List He.DefD := [dfn "is_list" 23, dfn "is_integer" 24, dfn "is_index" 25, dfn "is_indexes" 26, dfn "is_told_indexes" 27, dfn "is_lot" 28, dfn "is_told_lot" 29, dfn "is_word" 30, dfn "need_word" 31, dfn "is_row" 34, dfn "led_row" 35, dfn "takes_row" 36, dfn "need_row" 37, dfn "row_takes" 38, dfn "_law_pen" 40, dfn "_law_draw" 41, dfn "_law_pick" 42, dfn "_law_says" 43, dfn "_law_fault" 44, dfn "_law_kinds" 45, dfn "_law_more_kinds" 46, dfn "_law_bad_word" 47, dfn "_law_word" 48, dfn "_law_marks" 49, dfn "_law_places" 50, dfn "_law_read" 51, dfn "_law_takes" 52, dfn "_law_bad_rows" 53, dfn "_law_right" 54, dfn "law" 55, din "BadRow" "BadRow.__init__" 3, din "BadWord" "BadWord.__init__" 4]
def fa : List He.Fa := [.glo "is_list", .glo "is_integer", .glo "is_index", .glo "is_indexes", .glo "is_told_indexes", .glo "is_lot", .glo "is_told_lot", .glo "is_word", .glo "need_word", .glo "is_row", .glo "led_row", .glo "takes_row", .glo "need_row", .glo "row_takes", .glo "_law_pen", .glo "_law_draw", .glo "_law_pick", .glo "_law_says", .glo "_law_fault", .glo "_law_kinds", .glo "_law_more_kinds", .glo "_law_bad_word", .glo "_law_word", .glo "_law_marks", .glo "_law_places", .glo "_law_read", .glo "_law_takes", .glo "_law_bad_rows", .glo "_law_right", .glo "law", .glo "KindsError", .glo "BadNumber", .glo "BadRow", .glo "BadWord", .glo "BadPattern", .glo "BadMachine", .glo "BadTable", .glo "BadKind", .glo "BadBook", .glo "BadName", .glo "BadText", .glo "NoPlace", .glo "NoName", .glo "TakenName", .glo "Unlike", .glo "NotThere", .glo "TooMany", .glo "NotKept", .glo "NothingToUndo", .glo "NothingToRedo", .free "ValueError", .free "all", .free "bool", .free "enumerate", .free "int", .free "isinstance", .free "len", .free "list", .free "range", .free "repr", .free "tuple", .free "zip", .int "MOST_LONG" 400, .int "MOST_MARKS" 60]
def tf : List He.Defn := [("_law_takes", none)]
def ex (K : PySem.W.Frag) : Bool := exB K "BadRow" "what" "row" kindNames && exB K "BadWord" "what" "word" kindNames
def looseS : List String := ["KindsError", "BadNumber", "BadRow", "BadWord", "BadPattern", "BadMachine", "BadTable", "BadKind", "BadBook", "BadName", "BadText", "NoPlace", "NoName", "TakenName", "Unlike", "NotThere", "TooMany", "NotKept", "NothingToUndo", "NothingToRedo", "MOST_LONG", "is_list", "is_integer", "is_index", "is_indexes", "is_told_indexes", "is_lot", "is_told_lot", "is_word", "need_word", "is_row", "led_row", "takes_row", "need_row", "row_takes", "_law_pen", "_law_draw", "_law_pick", "_law_says", "_law_fault", "_law_kinds", "_law_more_kinds", "_law_bad_word", "_law_word", "_law_marks", "_law_places", "_law_read", "_law_takes", "_law_bad_rows", "_law_right", "MOST_MARKS"]
def loose : List Str := looseS.map Str.ofString
abbrev hk : PySem.W.Hook := He.hookX 6 fa fn [] tf ex
def ob (s : PySem.W.SharedT) : He.AlX := He.obsX 6 fa fn [] tf ex (HandSHeadRun.getT s)
theorem ob_eq (s : PySem.W.SharedT) : ob s = hk.obs s.abs := He.obsX_eq (HandSHeadRun.getT_eq s)
theorem run (w : World) : HandSHeadRun.RunEq R (PySem.W.view R.prog [55]) hk ob 8000 loose w := by
  intro os
  kernel_rfl
end K38

set_option Elab.async false
set_option linter.all false
set_option maxRecDepth 100000
set_option maxHeartbeats 4000000
namespace K38
open PySem PySem.Spec PyProof.Rows L2 Qk LamX
theorem sc_init_row : FnScope ["self", "what", "row"] ["self", "what", "row"] (defScope (inClass (top 3) 0)) := ⟨rfl, rfl, rfl, by decide +kernel, rfl, by decide +kernel, by decide +kernel⟩
theorem sc_init_word : FnScope ["self", "what", "word"] ["self", "what", "word"] (defScope (inClass (top 4) 0)) := ⟨rfl, rfl, rfl, by decide +kernel, rfl, by decide +kernel, by decide +kernel⟩
/-- what the head tells, and all that follows of the law -/
theorem facts {wo : World} {K : PySem.W.Frag} {h : Heap} {mg : Str → Option Value} {f : Addr} (X : K.In h) (G : h.Ns mainGlobals mg) (hfa : mg "law" = some (.ref f)) (c : He.SaysX fa fn [] tf ex wo h K) : LawG PySem.Challenge.rw_sayingkinds_k38_whole_rows_and_words wo K 14 63 "script" mg f h := by
  have cd := c.t.d

  have glo : ∀ x : Str, He.Fa.glo x ∈ fa → mg x = some (.ref (He.ga K x)) := fun x hx => He.glo_ok X G (cd.facts hx)
  have fre : ∀ x : Str, He.Fa.free x ∈ fa → mg x = none := fun x hx => He.free_ok X G (cd.facts hx)
  have T : Txt K mg := {
    n_ValueError := fre "ValueError" (by simp [fa])
    n_all := fre "all" (by simp [fa])
    n_bool := fre "bool" (by simp [fa])
    n_enumerate := fre "enumerate" (by simp [fa])
    n_int := fre "int" (by simp [fa])
    n_isinstance := fre "isinstance" (by simp [fa])
    n_len := fre "len" (by simp [fa])
    n_list := fre "list" (by simp [fa])
    n_range := fre "range" (by simp [fa])
    n_repr := fre "repr" (by simp [fa])
    n_tuple := fre "tuple" (by simp [fa])
    n_zip := fre "zip" (by simp [fa])
    c_MOST_LONG := by
      obtain ⟨t, e⟩ := He.int_ok X G (cd.facts (f := .int "MOST_LONG" 400) (by simp [fa]))
      exact ⟨_, e, t, rfl⟩
    c_MOST_MARKS := by
      obtain ⟨t, e⟩ := He.int_ok X G (cd.facts (f := .int "MOST_MARKS" 60) (by simp [fa]))
      exact ⟨_, e, t, rfl⟩ }
  have hex : exB K "BadRow" "what" "row" kindNames = true ∧ exB K "BadWord" "what" "word" kindNames = true := Bool.and_eq_true_iff.mp c.more
  have EK : ExK K mg := ⟨fun w => match w with | false => exB_ok hex.1 | true => exB_ok hex.2, fun y hy => ?_, glo "KindsError" (by simp [fa])⟩
  rotate_left
  · simp only [kindNames, List.mem_cons, List.not_mem_nil, or_false] at hy
    rcases hy with rfl | rfl | rfl | rfl | rfl | rfl | rfl | rfl | rfl | rfl | rfl | rfl | rfl | rfl | rfl | rfl | rfl | rfl | rfl <;> exact glo _ (by simp [fa])
  have dd : ∀ (x : Str) (i : Nat), dfn x i ∈ fn → He.Fa.glo x ∈ fa → Df K mg x (defArgs (top i)) (defBody (top i)) (defScope (top i)) := fun x i h1 h2 => by
    obtain ⟨fd, F⟩ := cd.defs h1
    exact ⟨_, fd, F, glo x h2⟩
  have dis_list := dd "is_list" 23 (by simp [fn]) (by simp [fa])
  have dis_integer := dd "is_integer" 24 (by simp [fn]) (by simp [fa])
  have dis_index := dd "is_index" 25 (by simp [fn]) (by simp [fa])
  have dis_indexes := dd "is_indexes" 26 (by simp [fn]) (by simp [fa])
  have dis_told_indexes := dd "is_told_indexes" 27 (by simp [fn]) (by simp [fa])
  have dis_lot := dd "is_lot" 28 (by simp [fn]) (by simp [fa])
  have dis_told_lot := dd "is_told_lot" 29 (by simp [fn]) (by simp [fa])
  have dis_word := dd "is_word" 30 (by simp [fn]) (by simp [fa])
  have dneed_word := dd "need_word" 31 (by simp [fn]) (by simp [fa])
  have dis_row := dd "is_row" 34 (by simp [fn]) (by simp [fa])
  have dled_row := dd "led_row" 35 (by simp [fn]) (by simp [fa])
  have dtakes_row := dd "takes_row" 36 (by simp [fn]) (by simp [fa])
  have dneed_row := dd "need_row" 37 (by simp [fn]) (by simp [fa])
  have drow_takes := dd "row_takes" 38 (by simp [fn]) (by simp [fa])
  have d_law_pen := dd "_law_pen" 40 (by simp [fn]) (by simp [fa])
  have d_law_draw := dd "_law_draw" 41 (by simp [fn]) (by simp [fa])
  have d_law_pick := dd "_law_pick" 42 (by simp [fn]) (by simp [fa])
  have d_law_says := dd "_law_says" 43 (by simp [fn]) (by simp [fa])
  have d_law_fault := dd "_law_fault" 44 (by simp [fn]) (by simp [fa])
  have d_law_kinds := dd "_law_kinds" 45 (by simp [fn]) (by simp [fa])
  have d_law_more_kinds := dd "_law_more_kinds" 46 (by simp [fn]) (by simp [fa])
  have d_law_bad_word := dd "_law_bad_word" 47 (by simp [fn]) (by simp [fa])
  have d_law_word := dd "_law_word" 48 (by simp [fn]) (by simp [fa])
  have d_law_marks := dd "_law_marks" 49 (by simp [fn]) (by simp [fa])
  have d_law_places := dd "_law_places" 50 (by simp [fn]) (by simp [fa])
  have d_law_read := dd "_law_read" 51 (by simp [fn]) (by simp [fa])
  have d_law_takes := dd "_law_takes" 52 (by simp [fn]) (by simp [fa])
  have d_law_bad_rows := dd "_law_bad_rows" 53 (by simp [fn]) (by simp [fa])
  have d_law_right := dd "_law_right" 54 (by simp [fn]) (by simp [fa])
  obtain ⟨fdL, FL⟩ := cd.defs (d := dfn "law" 55) (by simp [fn])
  obtain ⟨fdT, FT⟩ := cd.defs (d := dfn "_law_takes" 52) (by simp [fn])
  obtain ⟨fdR, FR⟩ := cd.defs (d := din "BadRow" "BadRow.__init__" 3) (by simp [fn])
  obtain ⟨fdW, FW⟩ := cd.defs (d := din "BadWord" "BadWord.__init__" 4) (by simp [fn])
  have e := hfa.symm.trans (glo "law" (by simp [fa]))
  cases e
  have b := FunD.bindsA (ps := ["script"]) FL fun _ _ _ _ _ _ us hl => match us, hl with | [_], _ => rfl
  have hT := c.empty _ (List.mem_cons_self (a := (("_law_takes", none) : He.Defn)) (l := []))
  have nT := c.out _ (List.mem_cons_self (a := (("_law_takes", none) : He.Defn)) (l := []))
  have hC := PySem.W.codeHd_of_K X (c.hd _ (List.mem_cons_self (a := (("_law_takes", none) : He.Defn)) (l := [])))
  refine ⟨⟨fdL, _, _, spLaw K (TT0 K), hT, nT, hC, fun s u => b s [u] rfl, fun H a ns hl hH hS => ⟨a, ns, rfl, hS, fun p hp => ?_, fun _ => rfl⟩, fun base KB GB TB => ?_⟩⟩
  · rw [List.mem_singleton.mp hp]
    exact TabS.nil hH
  have rR : Er2 (PySem.Challenge.rw_sayingkinds_k38_whole_rows_and_words).prog wo K mg base "BadRow" (He.ga K "BadRow") "what" "row" := er2_of (EK.f false) (glo "BadRow" (by simp [fa])) FR sc_init_row rfl rfl (fun _ _ _ _ _ _ us hl => match us, hl with | [_, _, _], _ => rfl) fun cdv A outer s H E => pss_cons (ps_ost (pv 0) (pv 1)) (pss_one (ps_ost (pv 0) (pv 2)))
  have rW : Er2 (PySem.Challenge.rw_sayingkinds_k38_whole_rows_and_words).prog wo K mg base "BadWord" (He.ga K "BadWord") "what" "word" := er2_of (EK.f true) (glo "BadWord" (by simp [fa])) FW sc_init_word rfl rfl (fun _ _ _ _ _ _ us hl => match us, hl with | [_, _, _], _ => rfl) fun cdv A outer s H E => pss_cons (ps_ost (pv 0) (pv 1)) (pss_one (ps_ost (pv 0) (pv 2)))
  have k_list := c_is_list (P := (PySem.Challenge.rw_sayingkinds_k38_whole_rows_and_words).prog) (w := wo) (base := base) T dis_list
  have k_integer := c_is_integer (P := (PySem.Challenge.rw_sayingkinds_k38_whole_rows_and_words).prog) (w := wo) (base := base) T dis_integer
  have k_index := c_is_index T k_integer dis_index
  have k_indexes := c_is_indexes T k_list k_index dis_indexes
  have k_toldix := c_is_told_indexes T k_indexes dis_told_indexes
  have k_lot := c_is_lot T k_indexes dis_lot
  have k_tlot := c_is_told_lot T k_lot dis_told_lot
  have k_word := c_is_word T k_indexes dis_word
  have k_nword := c_need_word T rW k_word dneed_word
  have k_row := c_is_row T k_toldix k_tlot dis_row
  have k_led := c_led_row (P := (PySem.Challenge.rw_sayingkinds_k38_whole_rows_and_words).prog) (w := wo) (base := base) T dled_row
  have k_takes := c_takes_row T k_led dtakes_row
  have k_nrow := c_need_row T rR k_list k_integer k_row dneed_row
  have k_rt := c_row_takes T k_nrow k_nword k_takes drow_takes
  have k_draw := c_law_draw (P := (PySem.Challenge.rw_sayingkinds_k38_whole_rows_and_words).prog) (w := wo) (base := base) T d_law_draw
  have k_pick := c_law_pick T k_draw d_law_pick
  have k_pen := c_law_pen (P := (PySem.Challenge.rw_sayingkinds_k38_whole_rows_and_words).prog) (w := wo) (base := base) T d_law_pen
  have k_says := c_law_says (P := (PySem.Challenge.rw_sayingkinds_k38_whole_rows_and_words).prog) (w := wo) (base := base) T d_law_says
  have k_wd := c_law_word T k_draw d_law_word
  have k_marks := c_law_marks T k_draw k_pick d_law_marks
  have k_places := c_law_places (P := (PySem.Challenge.rw_sayingkinds_k38_whole_rows_and_words).prog) (w := wo) (base := base) T d_law_places
  have k_read := c_law_read T k_draw k_pick d_law_read
  have k_bw := c_law_bad_word T k_pick d_law_bad_word
  have k_br := c_law_bad_rows (P := (PySem.Challenge.rw_sayingkinds_k38_whole_rows_and_words).prog) (w := wo) (base := base) T d_law_bad_rows
  have k_more := c_law_more_kinds (P := (PySem.Challenge.rw_sayingkinds_k38_whole_rows_and_words).prog) (wo := wo) (base := base) T EK d_law_more_kinds
  have k_kinds := c_law_kinds T EK k_more d_law_kinds
  have k_tk := c_law_takes T EK k_kinds k_rt d_law_fault fdT FT (glo "_law_takes" (by simp [fa])) TB
  have k_right := c_law_right T k_marks k_read k_wd k_places k_rt k_says k_bw k_br k_pick k_tk d_law_right
  exact c_law T k_pen k_right k_rt FL
end K38
open PySem PySem.W PySem.Calls PyProof.Rows
theorem PySem.Challenge.cw_sayingkinds_k38_whole_rows_and_words_holds : PySem.Challenge.rw_sayingkinds_k38_whole_rows_and_words.Holds := by
  w_on; o_law
  refine HandSHeadRun.head_any (r := OpenLaw.row PySem.Challenge.rw_sayingkinds_k38_whole_rows_and_words) (q := view (OpenLaw.row PySem.Challenge.rw_sayingkinds_k38_whole_rows_and_words).prog [55]) (H := K38.hk) (ob := K38.ob) (M := 8000) (loose := K38.loose) (d := HandSHeadRun.topDef (OpenLaw.row PySem.Challenge.rw_sayingkinds_k38_whole_rows_and_words).prog 55) (kwd := []) K38.ob_eq
    (by kernel_rfl) (fun s => by kernel_rfl) K38.run (by kernel_rfl) (by kernel_rfl) (by kernel_rfl) (by rfl) (by first | assumption | decide +kernel) (by decide +kernel) ⟨rfl, rfl, rfl, rfl, rfl, by decide +kernel⟩ ?hw ?hc
  case hw => w_witness2
  case hc =>
    refine Qk.walk_ofG (l := PySem.Challenge.rw_sayingkinds_k38_whole_rows_and_words) (n := 63) (k := 14) (x := "script") rfl (by decide) (by kernel_rfl) ⟨rfl, by decide, by decide⟩ ?F
    intro w mg fa h Y G hmg0
    obtain ⟨K, KX, c⟩ := Y
    have hmg : mg ("law" : PySem.Str) = some (.ref fa) := by
      have e : (HandSHeadRun.topDef (OpenLaw.row PySem.Challenge.rw_sayingkinds_k38_whole_rows_and_words).prog 55).name = ("law" : PySem.Str) := by kernel_rfl
      rw [← e]
      exact hmg0
    exact ⟨K, KX, K38.facts KX G hmg c⟩

